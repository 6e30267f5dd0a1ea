/- What functions of the program come to in the abstract machine, and plain laws about it; no statement of the seat is proved in this text. -/
import Derived.Test.YteekipjpghikkaaGreatDoorJl
import Derived.Test.YteekipjpghikkaaGreatDoorAmV
set_option linter.unusedVariables false
set_option linter.unusedSimpArgs false
set_option maxHeartbeats 4000000
namespace Go.Proofs.YteekipjpghikkaaGreatDoor
noncomputable section
open Go.Am
set_option maxRecDepth 100000
structure EnvL (h:AHeap) (vt vf:Value) (T:List LType) (F:List LFn):Prop where
 tt:Tbl h
 hm:h.mark<=h.n
 sm:Small T F
 st:SlT h vt T
 sf:SlF h vf F
theorem EnvL.ext {h h':AHeap} {vt vf:Value} {T:List LType} {F:List LFn} (E:EnvL h vt vf T F) (e:Ext h h'):EnvL h' vt vf T F:=
 ⟨E.tt.ext e,yA e E.hm,E.sm,E.st.ext e,SlF.ext E.sf e⟩
theorem zMq {α:Type} {c i:Nat} {R:AHeap->List Value->α->Prop} {h:AHeap} {v:Value} {l:List α} (s:SlR c R h v l) (hl:0<l.length) (hi:i<=l.length):∃ r,ZL c v none (some i) none=some r/\SlR c R h r (l.take i):=by
 obtain⟨cells,⟨h1,⟨h2,_⟩|⟨g,off,row,rfl,h3,h4,h5⟩⟩,hR⟩:=s
 ·omega
 have hmul:i * c<=l.length * c:=Qz _ hi;have hlen:(l.take i).length=i:=by rw[Q1];omega
 refine⟨.slice (some ⟨g,off+0 * c,none⟩) (i - 0) c,?_,cells.take (i * c),⟨by rw[Q1,hlen];omega,.inr ⟨g,off,row,by rw[hlen];simp,h3,?_,h5⟩⟩,fun j a ha=> ?_⟩
 ·have b1:Nat.ble 0 i=true:=QH (QV _);have b2:Nat.ble i l.length=true:=QH hi;simp only[ZL,Gn,Q7,b1,b2,Qs,Qu,cond_true,Ge]
 ·rw[hlen];obtain⟨c1,c2⟩:=zC7 h4;rw[yo (by omega),c2,List.take_take,Gl hmul]
 ·have hj:j<i:=by have:=(QO.1 ha).1;omega
  have hja:l[j]?=some a:=by rw[GD,QI hj]at ha;exact ha
  have:=hR j a hja;have h6:j * c+c<=i * c:=by rw[<-Gj];exact Qz _ hj
  rw[List.drop_take,List.take_take,Gl (by omega)];exact this
def zTa:ACode:=(oV (oR [oX 4 0,oN 8 0,oN 9 0]) (oV (oR [oA 2 14 4,oM 15 1,o2 16 38 14 15,oM 13 16,oE 17 13 0,oE 18 13 1,oM 10 17,oM 11 18]) (oV (oV (oR [oM 19 11,oC .neq 20 19 0]) (oJ 20 (oV (oR [oM 21 11,oN 8 0,oM 9 21]) .ret) .skip)) (oV (oR [oF 1 22 4,oL 23 22,oM 24 1,oI 2 25 23 24,oF 1 26 25,oL 27 26,oM 12 27]) (oV (oV (oR [oM 28 2,oM 29 12,oQ 30 29,o2 31 39 28 30,oW 32 31,oM 33 32,oH 33 (oM 34 3),oH 33 (oM 35 12),oH 33 (oM 36 2),oH 33 (oI 5 37 35 36),oH 33 (oF 0 38 37),oH 33 (oL 39 38),oH 33 (oQ 40 39),oH 33 (o2 41 39 34 40),oH 33 (oW 42 41),oO 43 33 42]) (oJ 43 (oV (oR [oN 8 0,oN 9 2]) .ret) .skip)) (oV (oR [oM 44 10,oM 45 12,oM 46 2,⟨some 47,none,(.slice 5 (.tmp 45) none (some (.tmp 46)) none)⟩,⟨some 48,none,(.build [(.int .i64 0),(.slice none 0 0)] [(1,1,(.tmp 47))])⟩,o1 49 40 48,oB .add 50 44 49,oM 51 3,oB .add 52 50 51,oM 8 52,oN 9 0]) .ret))))))
theorem zRD (h:AHeap) (vt vf:Value) (T:List LType) (F:List LFn) (f:Int) (L:List LBlk) (par:Int) (E:EnvL h vt vf T F) (O:FnOk T F f L par) (b k:Int) (hb:0<=b/\b<(L.length:Int)) (hk:0<=k/\k<((L.getD b.toNat default).ins.length:Int)):
  WC Tryz.prog tb 87 [.agg #[vt,vf],I f,I b,I k] h fun r h'=>r= .tuple #[I (YU par L b+k),I 0]/\Ext h h':=by
 have hF:=E.sm.funcs;obtain⟨f0,f1,hp,hask,rfl,p0,p1,hlen,hmany,hins,hfn⟩:=O;have hB:=E.sm.blocks _ (zH (l:=F) (i:=f.toNat) (by omega));have hI:=E.sm.ins _ (zH (l:=F) (i:=f.toNat) (by omega));refine en 53 [(8,none),(9,none)] zTa ?_;refine WO.bx ?_;intro p h1 e1 o1;have E1:=E.ext e1;refine go ?_;refine WO.con (zIk h1 vt vf T F f E1.tt E1.hm E1.sm E1.st E1.sf) ?_;rintro _ h2 ⟨rfl,e2⟩;rw[hask];have o2:=o1.ext e2;have E2:=E1.ext e2;have sf2:=E2.sf;obtain⟨ta,tn,tk,rfl⟩:=zM E.st;obtain⟨ga,gn,gk,rfl⟩:=zM E.sf;obtain⟨cs,⟨vb,rfl,sb,hlb⟩,pc,hs⟩:=yN (i:=f.toNat) sf2 (by omega);obtain⟨ba,bn,bk,rfl⟩:=zM sb;generalize (F.getD f.toNat default).blocks=L at *;obtain⟨csB,⟨vi,rfl,si,hli⟩,pcB,hsB⟩:=yN (i:=b.toNat) sb (by omega);obtain⟨ia,iN,ik,rfl⟩:=zM si;obtain⟨vs,hvs,sbs⟩:=zMq (i:=b.toNat) sb (by omega) (by omega);refine go ?_;refine WO.con (yj h2 b L.length) ?_;rintro _ _ ⟨rfl,rfl⟩;rw[show zW b L.length=true by unfold zW;rw[QZ hb.1,QZ hb.2];rfl];refine go ?_;refine WO.con (yj h2 k (L.getD b.toNat default).ins.length) ?_;rintro _ _ ⟨rfl,rfl⟩;rw[show zW k (L.getD b.toNat default).ins.length=true by unfold zW;rw[QZ hk.1,QZ hk.2];rfl];refine go ?_;have hbt:(b.toNat:Int)=b:=by omega
 refine WO.slHi (i:=b.toNat) (hy:=by rw[hbt];exact zT) hvs ?_;have hlt:(L.take b.toNat).length<=1000:=by rw[Q1];omega
 have hIt:∀ x∈L.take b.toNat,x.ins.length<=1000:=fun x hx=>hI x (JR hx);obtain⟨va,vn,vk,rfl⟩:=zM sbs;refine go ?_;refine WO.con (zD0 h2 0 _ _ sbs hlt hIt) ?_;rintro _ h3 ⟨rfl,e3⟩;have hmt:=ZK (L.take b.toNat);have hmt2:=zIA L b.toNat;refine gr ?_;exact⟨rfl,e1.trans (e2.trans e3)⟩
set_option maxRecDepth 100000
theorem zLY {t:List LWd} {l:List Int} (u:Upto t l):t.length<=l.length:=by
 have h1:∀ w∈t,∃ n∈l,n / 64=w.pos:=fun w hw=>by
  obtain⟨a,b,c,d⟩:=u.ok.each w hw;obtain⟨k,hk⟩:=zDw c;have hk2:=YQ d hk;exact⟨64 * w.pos+k,(u.mem _).1 ⟨w,hw,by omega,by rw[show ((64 * w.pos+(k:Int)) % 64).toNat=k by omega];exact hk⟩,by omega⟩
 have h2:(t.map (·.pos)).Nodup:=by
  rw[List.Nodup,List.pairwise_map];exact u.ok.rise.imp fun h=>by omega
 have h3:(t.map (·.pos)).length<=(l.map (· / 64)).length:=List.Nodup.length_le_of_subset h2 fun x hx=>by
  obtain⟨w,hw,rfl⟩:=Q0.1 hx;obtain⟨n,hn,e⟩:=h1 w hw;exact Q0.2 ⟨n,hn,e⟩
 simpa using h3
theorem zAc {s:List LWd} {N:Nat} (h:OkW s) (hr:∀ r,InW s r->r<(N:Int)):s.length<=N:=by
 have h1:=zKp h hr;have h2:∀ l:List LWd,OkW l->l.length<=(zv l).length:=fun l=>by
  induction l with
  |nil=>exact fun _=>QF _
  |cons w l ih=>
   intro o;have:=ih o.tail;rw[zFG,Q2];have hw:=(o.each w (QS ..)).2.2;obtain⟨k,hk⟩:=zDw hw.1;have:0<(zAS w.bits).length:=List.length_pos_of_mem (YC.2 ⟨YQ hw.2 hk,hk⟩);omega
 have:=h2 s h;omega
theorem MineW.since {h0 h h' v s} (m:MineW h h' v s) (e:Ext h0 h):MineW h0 h' v s:=let ⟨b,hb,o⟩:=m;⟨b,QW e.n hb,o⟩
def zTr:ACode:=(oV (oR [oK 4 (.slice none 0 0)]) (oV (oR [oM 8 1,o1 9 136 8,oM 7 9,oE 10 7 0,oE 11 7 1,oM 5 10,oM 6 11]) (oV (oR [oM 13 0,oM 14 5,o2 15 133 13 14,oM 12 15,oE 16 12 0,oE 17 12 1,oM 0 16]) (oV (oR [oM 18 0,oM 4 18]) .ret))))
theorem zGw (h:AHeap) (va vl:Value) (A:List LWd) (l:List Int) (ka:SlW h va A) (sl:SlI h vl l) (oa:OkW A) (hl:∀ n∈l,0<=n/\n<1000) (la:A.length<=500) (ll:l.length<=5000) (hm:h.mark<=h.n):
  WC Tryz.prog tb 85 [va,vl] h fun r h'=>(∃ t,MineW h h' r t/\OkW t/\t.length<=A.length+1000/\∀ n,InW t n↔InW A n\/n∈l)/\Ext h h':=by
 refine en 19 [(4,none)] zTr ?_;refine WO.con (zPt h vl l sl (by omega) hm) ?_;rintro _ h1 ⟨⟨w,t,rfl,m,u,_⟩,e1⟩;have hE:=zEb (fun n hn=>by have:=hl n hn;omega);have u:=u hE;rw[hE];have km:=m.sl;have lt:=zAc (N:=1000) u.ok fun r q=>(hl r ((u.mem r).1 q)).2;have hm1:h1.mark<=h1.n:=by have:=e1.mark;have:=e1.n;omega
 refine go ?_;refine WO.con (zSw h1 va w A t (SlW.ext ka e1) km (by omega) (by omega) hm1) ?_;rintro _ h2 ⟨⟨v,rfl,mv⟩,e2⟩;rw[zEx oa u.ok];rw[zEw oa u.ok]at mv;obtain⟨oo,io⟩:=zSr oa u.ok;have ll2:=ZV (fun a b=>a|||b) A t;refine gr ?_;exact⟨⟨_,mv.since e1,oo,by omega,fun n=>by rw[<-YT,io,GA,YT,YT,u.mem]⟩,e1.trans e2⟩
def zTV:ACode:=(oV (oR [oK 4 (.slice none 0 0)]) (oV (oR [oM 8 1,⟨some 9,none,(.buildSlice 1 1 [(.int .i64 0)] [(0,1,(.tmp 8))])⟩,o1 10 136 9,oM 7 10,oE 11 7 0,oE 12 7 1,oM 5 11,oM 6 12]) (oV (oR [oM 14 0,oM 15 5,o2 16 137 14 15,oM 13 16,oE 17 13 0,oE 18 13 1,oM 0 17]) (oV (oR [oM 19 0,oM 4 19]) .ret))))
theorem zJk (h:AHeap) (va:Value) (A:List LWd) (n:Int) (ka:SlW h va A) (oa:OkW A) (hn:0<=n/\n<1048576) (la:A.length<=500) (hm:h.mark<=h.n):
  WC Tryz.prog tb 88 [va,I n] h fun r h'=>(∃ t,MineW h h' r t/\OkW t/\t.length<=A.length+1/\∀ m,InW t m↔InW A m/\m≠n)/\Ext h h':=by
 refine en 20 [(4,none)] zTV ?_;refine WO.bl [n] ?_;intro vl h0 e0 o0;have hm0:h0.mark<=h0.n:=by have:=e0.mark;have:=e0.n;omega
 refine go ?_;refine WO.con (zPt h0 vl [n] o0.sl (by simp) hm0) ?_;rintro _ h1 ⟨⟨w,t,rfl,m,u,_⟩,e1⟩;have hE:ofE [n]=0:=zEb fun x hx=>by rw[QQ]at hx;subst hx;exact hn
 have u:=u hE;rw[hE];have km:=m.sl;have lt:=zLY u;have e01:=e0.trans e1;have hm1:h1.mark<=h1.n:=by have:=e1.mark;have:=e1.n;omega
 refine go ?_;refine WO.con (zP0 h1 va w A t (SlW.ext ka e01) km (by omega) (by simp at lt;omega) hm1) ?_;rintro _ h2 ⟨⟨v,rfl,mv⟩,e2⟩;rw[zEx oa u.ok];rw[zEw oa u.ok]at mv;obtain⟨oo,io⟩:=zTk oa u.ok;have ll2:=ZV zC1 A t;refine gr ?_;refine⟨⟨_,mv.since e01,oo,by simp at lt;omega,fun k=> ?_⟩,e01.trans e2⟩;have hu:=u.mem k;rw[QQ]at hu;rw[<-YT,io,QJ,YT,Gk];constructor
 ·rintro⟨a,b⟩;refine⟨a,fun e=> ?_⟩;rw[YT.2 (hu.2 e)]at b;cases b
 ·rintro⟨a,b⟩;exact⟨a,zFj fun q=>b (hu.1 q)⟩
def zTK:ACode:=(oV (oR [oX 1 0,oK 2 (.slice none 0 0)]) (oV (oV (oR [oF 0 3 1,oL 4 3,oD .eql 5 4 22]) (oJ 5 (oV (oR [oK 2 (.slice none 0 0)]) .ret) .skip)) (oV (oR [oA 7 6 1,o1 7 111 6,oM 2 7]) .ret)))
theorem zNc (h:AHeap) (x:LIns) (cs:List Value) (hcs:RIns h cs x) (tt:Tbl h) (hx:x.args.length<=20):
  WC Tryz.prog tb 89 [.agg cs.toArray] h fun r h'=>OwnN h h' r (Z2 x)/\Ext h h':=by
 have hcs0:=hcs;obtain⟨va,vfr,rfl,sa,sfr,hla,hlf,ho,ho2⟩:=hcs;obtain⟨aa,an,ak,rfl⟩:=SlC.shape sa;obtain⟨fa,fn,fk,rfl⟩:=SlC.shape sfr;refine en 8 [(2,none)] zTK ?_;refine WO.bx ?_;intro p h1 e1 o1;unfold Z2;by_cases c:x.op=22
 ·rw[QI c];refine gr ?_;exact⟨.inl ⟨rfl,rfl⟩,e1⟩
 rw[QD c];refine go ?_;refine WO.con (zIh h1 x _ (RIns.ext hcs0 e1) (tt.ext e1) hx) ?_;rintro r h2 ⟨o2,e2⟩;refine gr ?_;exact⟨o2.since e1,e1.trans e2⟩
theorem zFw:∀ (fs gs:List Int) (b:Int) (j:Nat),fs.length=gs.length->j<fs.length->Yw (fs.take (j+1)) (gs.take (j+1)) b=Yw (fs.take j) (gs.take j) b++(if fs.getD j 0=b then [gs.getD j 0] else [])
 |[],_,_,_,_,h=>absurd h (GG _)
 |f::fs,[],_,_,h,_=>by simp at h
 |f::fs,a::gs,b,0,_,_=>by
  simp only[Qn,GB,Yw,List.getD_cons_zero];split<;>simp[Yw]
 |f::fs,a::gs,b,j+1,h,hj=>by
  have:=zFw fs gs b j (by simpa using h) (by simpa using hj);simp only[Qn,Yw,List.getD_cons_succ,this];split<;>simp
theorem zEU:∀ (fs gs:List Int) (b:Int),(Yw fs gs b).length<=fs.length
 |[],_,_=>by simp[Yw]
 |_::_,[],_=>by simp[Yw]
 |f::fs,a::gs,b=>by
  have:=zEU fs gs b;unfold Yw;split<;>simp<;>omega
def zFR (x:LIns) (b:Int):List Int:=if x.op=22 then Yw x.frm x.args b else []
theorem zMg {B:LBlk} {i:Nat} {b:Int} (h:i<B.ins.length):(B.ins.take (i+1)).flatMap (fun x=>zFR x b)=(B.ins.take i).flatMap (fun x=>zFR x b)++zFR (B.ins.getD i default) b:=by
 rw[GI,QB h,List.flatMap_append,QE,QB h];simp
theorem zEu:∀ (l:List LIns) (b:Int),(∀ x∈l,x.frm.length<=20)->(l.flatMap fun x=>zFR x b).length<=20 * l.length
 |[],_,_=>QV _
 |x::l,b,h=>by
  have h1:=zEu l b fun y hy=>h y (Qc _ hy);have h2:=h x (QS ..);have h3:(zFR x b).length<=20:=by
   unfold zFR;split
   ·have:=zEU x.frm x.args b;omega
   ·simp
  rw[List.flatMap_cons,QX,Q2];omega
theorem zMp {h0 h1 h h':AHeap} {p v:Value} {n:Int} {cs:List Value} {xs:List Int} (o:OwnC h0 h p (.int .u8 n::cs)) (i:OwnN h1 h v xs) (u:Upd v h h'):OwnC h0 h' p (.int .u8 n::cs):=by
 obtain⟨g,g1,g2,rfl,hg⟩:=o;refine⟨g,g1,QG g2 u.1,rfl,(u.2 g g2 fun a m c hv e=> ?_).trans hg⟩;rcases i with ⟨rfl,_⟩|⟨g3,_,_,rfl,hg3⟩
 ·cases hv
 ·cases hv;simp only at e;subst e;rw[hg]at hg3;cases xs with
  |nil=>cases hg3
  |cons x xs=>cases hg3
def zMe:ACode:=(oV (oR [oB .lss 23 22 21]) (oV (oT 23 2) (oV (o5 3 (oV (oR [oM 24 22,oI 1 25 20 22,oL 26 25,oM 7 24,oM 8 26]) (oV (oR [oM 27 8,oM 28 1,oB .eql 29 27 28]) (oJ 29 (oR [oM 30 4,oF 5 31 6,oL 32 31,oM 33 7,oI 1 34 32 33,oL 35 34,⟨some 36,none,(.buildSlice 1 1 [(.int .i64 0)] [(0,1,(.tmp 35))])⟩,oY 1 37 30 36,oM 4 37]) .skip)))) (oR [oC .add 38 22 1,oM 22 38]))))
def zM9:ACode:=(oV (oR [oB .lss 13 12 11]) (oV (oT 13 0) (oV (o5 1 (oV (oR [oI 7 14 10 12,oA 7 15 14,⟨some 6,none,(.alloc [(.int .u8 0),(.int .i64 0),(.int .i64 0),(.int .i64 0),(.int .i64 0),(.slice none 0 0),(.slice none 0 0)])⟩,oS 7 6 15]) (oV (oV (oR [oF 0 16 6,oL 17 16,oD .neq 18 17 22]) (oJ 18 (.exit 1) .skip)) (oV (oR [oF 6 19 6,oL 20 19,oQ 21 20,oN 22 0]) (o5 2 (.loop zMe)))))) (oR [oC .add 39 12 1,oM 12 39]))))
def zQJ:ACode:=(oV (oR [oX 2 0,oK 4 (.slice none 0 0)]) (oV (oV (oR [oF 0 9 2,oL 10 9,oQ 11 10,oN 12 0]) (o5 0 (.loop zM9))) (oV (oR [oM 40 4,oM 4 40]) .ret)))
theorem zQN (h:AHeap) (B:LBlk) (cs:List Value) (b:Int) (hcs:RBlk h cs B) (hB:(B.ins.length:Int)<=128) (hfr:∀ x∈B.ins,x.frm.length<=20) (hp:∀ x∈B.ins,x.op=22->x.frm.length=x.args.length):
  WC Tryz.prog tb 134 [.agg cs.toArray,I b] h fun r h'=>OwnN h h' r (zAv B b)/\Ext h h':=by
 obtain⟨vi,rfl,si,hli⟩:=hcs;obtain⟨ia,iN,ik,rfl⟩:=zM si;have hfr:=Hid.mk hfr;have hp:=Hid.mk hp;refine en 41 [(4,none)] zQJ ?_;refine WO.bx ?_;intro p h1 e1 o1;have si1:=SlN.ext si e1;refine go ?_;refine WX.loopA [13,14,15,6,16,17,18,19,20,21,22,23,24,25,26,7,8,27,28,29,30,31,32,33,34,35,36,37,4,38,22,39,12] (by kernel_rfl) (fun i=>B.ins.length - i) (fun i t h2=>∃ w,zB t 12=I i/\i<=B.ins.length/\Ext h1 h2/\zB t 4=w/\OwnN h1 h2 w ((B.ins.take i).flatMap fun x=>zFR x b)) 0 ?_ ?_
 ·exact⟨_,sl_,QV _,Ext.refl _,sl_,.inl ⟨rfl,rfl⟩⟩
 rintro i t h2 hsame ⟨w,s12,hi,e2,s4,ow⟩;have si2:=SlN.ext si1 e2;refine go ?_;refine WX.br (fun hb=> ?_) (fun hb=> ?_)<;>simp only[DB]at hb
 ·have hi':i<B.ins.length:=by omega
  have hmem:=zH (l:=B.ins) hi';have hfx:=hfr.out _ hmem;have hpx:=hp.out _ hmem;have hsn:=zMg (b:=b) hi';have hpl:=zEu (B.ins.take i) b fun x hx=>hfr.out x (JR hx);have hpl2:(B.ins.take i).length<=i:=by rw[Q1];omega
  obtain⟨csx,⟨va,vf,rfl,sa,sf,ha1,ha2,ho1,ho2⟩,pcX,hs⟩:=yB si1 hi';have pc:=(pcX _ e2).1;obtain⟨aa,an,ak,rfl⟩:=SlC.shape sa;obtain⟨fa,fn,fk,rfl⟩:=SlC.shape sf;generalize (B.ins.take i).flatMap (fun x=>zFR x b)=P at *;generalize B.ins.getD i default=x at *;have hsn:=Hid.mk hsn;refine go ?_;refine WO.al ?_;intro p6 h3 e3 o6;refine go ?_;refine WO.stC0 (cs:=[.int .u8 x.op,I x.ty,I x.a,I x.b,I x.n,.slice aa an ak,.slice fa fn fk]) o6 e3 ?_;intro h4 e4 o64 u4;have ow4:=OwnN.ext ow e4;have e14:=e2.trans e4;have sa4:=SlI.ext sa e14;have sf4:=SlI.ext sf e14;have o64:=o64.since e2;refine go ?_;by_cases c:x.op=22
  ·have hpx:=hpx c;rw[zFR,QI c]at hsn;refine go ?_;refine WX.loopA [23,24,25,26,7,8,27,28,29,30,31,32,33,34,35,36,37,4,38,22] (by kernel_rfl) (fun j=>x.frm.length - j) (fun j t h5=>∃ w,zB t 22=I j/\j<=x.frm.length/\Ext h1 h5/\zB t 4=w/\OwnN h1 h5 w (P++Yw (x.frm.take j) (x.args.take j) b)/\OwnC h1 h5 p6 [.int .u8 x.op,I x.ty,I x.a,I x.b,I x.n,.slice aa an ak,.slice fa fn fk]) 0 ?_ ?_
   ·exact⟨_,sl_,QV _,e14,sl_,by simpa [Yw]using ow4,o64⟩
   ·rintro j t5 h5 hsame5 ⟨w5,s22,hj,e5,s4',ow5,o65⟩;have sa5:=SlI.ext sa e5;have sf5:=SlI.ext sf e5;refine go ?_;refine WX.br (fun hb2=> ?_) (fun hb2=> ?_)<;>simp only[DB]at hb2
    ·have hj':j<x.frm.length:=by omega
     have hps:=zFw x.frm x.args b j hpx hj';have hpal:=zEU (x.frm.take j) (x.args.take j) b;have hpal2:(x.frm.take j).length<=j:=by rw[Q1];omega
     by_cases hk:x.frm.getD j 0=b
     ·rw[QI hk]at hps;refine go ?_;refine WO.bl [x.args.getD j 0] ?_;intro v6 h6 e6 o6';refine go ?_;refine WO.apNw (OwnN.ext ow5 e6) o6'.sl (e5.trans e6) (by simp) (by simp only[QX,Qa];omega) ?_;intro v7 h7 e7 o7 u7 _ _;have o67:=zMp (o65.ext e6) (OwnN.ext ow5 e6) u7;refine go ?_;refine zA (j+1) (by omega) ⟨_,sln,by omega,e7,sl_,by rw[hps,<-GC];exact o7,o67⟩
     ·rw[QD hk,Gz]at hps;refine go ?_;refine zA (j+1) (by omega) ⟨_,sln,by omega,e5,sl_,by rw[hps];exact ow5,o65⟩
    ·have hjl:j=x.frm.length:=by omega
     subst hjl;rw[GN,hpx,GN]at ow5;refine go ?_;refine zA (i+1) (by omega) ⟨_,sln,by omega,e5,sl_,by rw[hsn.out];exact ow5⟩
  ·rw[zFR,QD c,Gz]at hsn;refine go ?_;refine zA (i+1) (by omega) ⟨_,sln,by omega,e14,sl_,by rw[hsn.out];exact ow4⟩
 ·refine gr ?_;rw[show i=B.ins.length by omega,GN]at ow;subst s4;exact⟨ow.since e1,e1.trans e2⟩
def FarW (h:AHeap) (X:Nat) (v:Value) (s:List LWd):Prop:=SlW h v s/\∀ a n k,v= .slice (some a) n k->X<=a.block
theorem FarW.keep {h h':AHeap} {X:Nat} {v:Value} {s:List LWd} (F:FarW h X v s) (hk:∀ k,X<=k->k<h.n->h'.get k=h.get k) (hn:h.n<=h'.n):FarW h' X v s:=by
 obtain⟨⟨cells,⟨h1,h2⟩,hR⟩,hf⟩:=F;refine⟨⟨cells,⟨h1,h2.imp id ?_⟩,fun i a ha=>hR i a ha⟩,hf⟩;rintro⟨g,off,row,rfl,hr,hc,hg⟩;have:=hf _ _ _ rfl;refine⟨g,off,row,rfl,?_,hc,QG hg hn⟩;unfold zk at hr |-;rw[hk g this hg];exact hr
theorem FarW.nil {h:AHeap} {X:Nat}:FarW h X (.slice none 0 0) []:=⟨SlR.nil,fun a n k e=>by cases e⟩
theorem MineW.far {h h':AHeap} {X:Nat} {v:Value} {s:List LWd} (m:MineW h h' v s) (hX:X<=h.n):FarW h' X v s:=by
 refine⟨m.sl,fun a n k e=> ?_⟩;obtain⟨b,hb,o⟩:=m;rcases o with ⟨e2,_⟩|⟨g,_,_,g1,_,e2,_⟩
 ·rw[e2]at e;cases e
 ·rw[e2]at e;cases e;show X<=g;omega
def RSt (X:Nat) (h:AHeap) (cs:List Value) (s:List LWd):Prop:=∃ v,cs=[v]/\FarW h X v s
def RowS (h:AHeap) (X g:Nat) (S:Z6):Prop:=∃ vs:List Value,h.get g=some (.row vs true 0)/\vs.length=S.length/\∀ i,i<S.length->FarW h X (vs.getD i undef) (S.getD i [])
theorem RowS.keep {h h':AHeap} {X g:Nat} {S:Z6} (r:RowS h X g S) (hg:h'.get g=h.get g) (hk:∀ k,X<=k->k<h.n->h'.get k=h.get k) (hn:h.n<=h'.n):RowS h' X g S:=by
 obtain⟨vs,a,b,c⟩:=r;exact⟨vs,hg.trans a,b,fun i hi=>(c i hi).keep hk hn⟩
theorem RowS.sl {h:AHeap} {X g:Nat} {S:Z6} (r:RowS h X g S) (hg:g<h.n):SlR 1 (RSt X) h (.slice (some ⟨g,0,none⟩) S.length 1) S:=by
 obtain⟨vs,a,b,c⟩:=r;refine⟨vs,SlC.own (own:=true) (lo:=0) hg a (by omega),fun i s hs=> ?_⟩;have hi:=(QO.1 hs).1;refine⟨vs.getD i undef,?_,?_⟩
 ·rw[G9,Qx (by omega),Qn,GB,QE,QB (by omega)];rfl
 ·have:=c i hi;rwa [QE (l:=S),hs]at this
structure FS (hB h:AHeap) (X gp gb ge gm:Nat) (vt vf:Value) (f:Int) (bg ed:Z6) (es:List (Int×Int)):Prop where
 e:Ext hB h
 hX:X<=h.n
 dp:hB.n<=gp/\gp<X
 db:hB.n<=gb/\gb<X
 de:hB.n<=ge/\ge<X
 dm:hB.n<=gm/\gm<X
 ne:gp≠gb/\gp≠ge/\gp≠gm/\gb≠ge/\gb≠gm/\ge≠gm
 rp:h.get gp=some (.row [vt,vf,I f,.slice (some ⟨gb,0,none⟩) bg.length 1,.slice (some ⟨ge,0,none⟩) ed.length 1,.map (some gm)] true 0)
 sb:RowS h X gb bg
 se:RowS h X ge ed
 rm:OwnM hB h (.map (some gm)) es
section
variable {hB h h':AHeap} {X gp gb ge gm:Nat} {vt vf:Value} {f:Int} {bg ed:Z6} {es es':List (Int×Int)}
theorem FS.own (F:FS hB h X gp gb ge gm vt vf f bg ed es):OwnC hB h (.pointer (some ⟨gp,0,none⟩)) [vt,vf,I f,.slice (some ⟨gb,0,none⟩) bg.length 1,.slice (some ⟨ge,0,none⟩) ed.length 1,.map (some gm)]:=
 ⟨gp,F.dp.1,QG F.dp.2 F.hX,rfl,F.rp⟩
theorem FS.begs (F:FS hB h X gp gb ge gm vt vf f bg ed es):SlR 1 (RSt X) h (.slice (some ⟨gb,0,none⟩) bg.length 1) bg:=F.sb.sl (QG F.db.2 F.hX)
theorem FS.ends (F:FS hB h X gp gb ge gm vt vf f bg ed es):SlR 1 (RSt X) h (.slice (some ⟨ge,0,none⟩) ed.length 1) ed:=F.se.sl (QG F.de.2 F.hX)
theorem FS.ext (F:FS hB h X gp gb ge gm vt vf f bg ed es) (e:Ext h h'):FS hB h' X gp gb ge gm vt vf f bg ed es:=by
 have hk:∀ k,X<=k->k<h.n->h'.get k=h.get k:=fun k _ hk=>e.get k hk;exact⟨F.e.trans e,QW F.hX e.n,F.dp,F.db,F.de,F.dm,F.ne,(e.get _ (QG F.dp.2 F.hX)).trans F.rp,F.sb.keep (e.get _ (QG F.db.2 F.hX)) hk e.n,F.se.keep (e.get _ (QG F.de.2 F.hX)) hk e.n,F.rm.ext e⟩
theorem FS.setM (F:FS hB h X gp gb ge gm vt vf f bg ed es) (e:Ext hB h') (o:OwnM hB h' (.map (some gm)) es') (u:zE6 (.map (some gm)) h h'):FS hB h' X gp gb ge gm vt vf f bg ed es':=by
 obtain⟨n1,n2,n3,n4,n5,n6⟩:=F.ne;have hk:∀ k,k<h.n->k≠gm->h'.get k=h.get k:=fun k h1 h2=>u.2 k h1 fun e=>by cases e;exact h2 rfl
 have hk2:∀ k,X<=k->k<h.n->h'.get k=h.get k:=fun k h1 h2=>hk k h2 (by have:=F.dm.2;omega);exact⟨e,QW F.hX u.1,F.dp,F.db,F.de,F.dm,F.ne,(hk _ (QG F.dp.2 F.hX) n3).trans F.rp,F.sb.keep (hk _ (QG F.db.2 F.hX) n5) hk2 u.1,F.se.keep (hk _ (QG F.de.2 F.hX) n6) hk2 u.1,o⟩
theorem FS.setB {bg':Z6} (F:FS hB h X gp gb ge gm vt vf f bg ed es) (e:Ext hB h') (r:RowS h' X gb bg') (hl:bg'.length=bg.length) (hn:h.n<=h'.n) (hk:∀ k,k<h.n->k≠gb->h'.get k=h.get k):FS hB h' X gp gb ge gm vt vf f bg' ed es:=by
 obtain⟨n1,n2,n3,n4,n5,n6⟩:=F.ne;have hk2:∀ k,X<=k->k<h.n->h'.get k=h.get k:=fun k h1 h2=>hk k h2 (by have:=F.db.2;omega);refine⟨e,QW F.hX hn,F.dp,F.db,F.de,F.dm,F.ne,by rw[hl];exact(hk _ (QG F.dp.2 F.hX) n1).trans F.rp,r,F.se.keep (hk _ (QG F.de.2 F.hX) (fun e=>n4 e.symm)) hk2 hn,?_⟩;obtain⟨q,c,es',q1,q2,q3,q4,q5⟩:=F.rm;cases q3;exact⟨gm,c,es',q1,QG q2 hn,rfl,(hk gm q2 (fun e=>n5 e.symm)).trans q4,q5⟩
theorem FS.setE {ed':Z6} (F:FS hB h X gp gb ge gm vt vf f bg ed es) (e:Ext hB h') (r:RowS h' X ge ed') (hl:ed'.length=ed.length) (hn:h.n<=h'.n) (hk:∀ k,k<h.n->k≠ge->h'.get k=h.get k):FS hB h' X gp gb ge gm vt vf f bg ed' es:=by
 obtain⟨n1,n2,n3,n4,n5,n6⟩:=F.ne;have hk2:∀ k,X<=k->k<h.n->h'.get k=h.get k:=fun k h1 h2=>hk k h2 (by have:=F.de.2;omega);refine⟨e,QW F.hX hn,F.dp,F.db,F.de,F.dm,F.ne,by rw[hl];exact(hk _ (QG F.dp.2 F.hX) n2).trans F.rp,F.sb.keep (hk _ (QG F.db.2 F.hX) n4) hk2 hn,r,?_⟩;obtain⟨q,c,es',q1,q2,q3,q4,q5⟩:=F.rm;cases q3;exact⟨gm,c,es',q1,QG q2 hn,rfl,(hk gm q2 (fun e=>n6 e.symm)).trans q4,q5⟩
end
section
variable {P:Program} {tab:Tab} {t:Trie Value} {h:AHeap} {ds:List Deferred} {rd:Option Nat} {l:List AOper} {Q:AFr->AHeap->Prop}
theorem WO.stRow {hB:AHeap} {X g i n:Nat} {S:Z6} {s:List LWd} {x y:Operand} {a:Option Addr} {vn vk:Nat} (r:RowS h X g S) (e0:Ext hB h) (hg:hB.n<=g/\g<X) (hX:X<=h.n) (hi:i<S.length) (F:FarW h X (.slice a vn vk) s)
  (k:∀ h',Ext hB h'->RowS h' X g (S.set i s)->h'.n=h.n->(∀ k,k<h.n->k≠g->h'.get k=h.get k)->WO P tab l ⟨t,ds,rd⟩ h' Q)
  (hx:Ope t x (zw (.slice (some ⟨g,0,none⟩) n 1) (i * 1)):=by exact zT) (hy:Ope t y (.slice a vn vk):=by exact zT):
  WO P tab (⟨none,none,.store 1 x y⟩::l) ⟨t,ds,rd⟩ h Q:=by
 obtain⟨vs,r1,r2,r3⟩:=r;have hx:ev t x= .pointer (some ⟨g,0+i * 1,none⟩):=hx;rw[Q4,G9]at hx;have hy:ev t y= .slice a vn vk:=hy;have hst:zY h ⟨g,i,none⟩ [.slice a vn vk]=some (h.set g (.row (vs.set i (.slice a vn vk)) true 0)):=by
  have h2:Nat.ble (i+[Value.slice a vn vk].length) vs.length=true:=QH (by simp;omega);have h3:Nat.ble 0 i=true:=QH (QV _);have h4:zN [Value.slice a vn vk]=true:=rfl;simp only[zY,r1,h2,h3,h4,Qs,Qu,cond_true];rw[zGV (by omega)]
 have hk:∀ k,k≠g->(h.set g (.row (vs.set i (.slice a vn vk)) true 0)).get k=h.get k:=fun k hk=>by rw[zR,QD hk]
 refine WO.op0 undef (h.set g (.row (vs.set i (.slice a vn vk)) true 0)) rfl ?_ (k _ (e0.set hg.1 (QG hg.2 hX) _) ⟨vs.set i (.slice a vn vk),by rw[zR,QI rfl],by rw[GJ,GJ];exact r2,fun j hj=> ?_⟩ rfl fun k _ h2=>hk k h2)
 ·simp only[aop,hx,hy,zIU,G3,Qa,Ge,hst,QK,cond_true]
 ·rw[GJ]at hj;have hkk:∀ k,X<=k->k<h.n->(h.set g (.row (vs.set i (.slice a vn vk)) true 0)).get k=h.get k:=fun k h1 _=>hk k (by omega);by_cases e:j=i
  ·subst e;rw[QE,JJ (by omega),QE,JJ hi];exact F.keep hkk (QF _)
  ·rw[QE,List.getElem?_set_ne (fun h=>e h.symm),QE,List.getElem?_set_ne (fun h=>e h.symm),<-QE,<-QE];exact(r3 j hj).keep hkk (QF _)
end
theorem zEt {x:LIns} {r:Int} (h:r∈Z2 x):r∈yg x:=by
 unfold Z2 at h;split at h
 ·cases h
 ·exact h
theorem zEW:∀ {fs gs:List Int} {b r:Int},r∈Yw fs gs b->r∈gs
 |[],_,_,_,h=>by simp[Yw]at h
 |_::_,[],_,_,h=>by simp[Yw]at h
 |f::fs,a::gs,b,r,h=>by
  unfold Yw at h;split at h
  ·rcases Qj.1 h with rfl|h
   ·exact QS ..
   ·exact Qc _ (zEW h)
  ·exact Qc _ (zEW h)
theorem zQV {B:LBlk} {N n b r:Int} (u:BlkU B N n) (h:r∈zAv B b):0<=r/\r<N:=by
 unfold zAv at h;obtain⟨x,hx,hr⟩:=List.mem_flatMap.1 h;split at hr
 ·rename_i e;exact((u.ins x hx).phi e).2.1 r (zEW hr)
 ·cases hr
theorem zCY {N:Int} {E:Int->Prop}:∀ {l:List LIns} {k r:Int},(∀ x∈l,∀ r∈yg x,0<=r/\r<N)->(∀ r,E r->0<=r/\r<N)->zFb E l k r->0<=r/\r<N
 |[],_,_,_,hE,h=>hE _ h
 |x::l,k,r,hu,hE,h=>by
  rcases h with h|⟨_,h⟩
  ·exact hu x (QS ..) r (zEt h)
  ·exact zCY (fun y hy=>hu y (Qc _ hy)) hE h
set_option maxRecDepth 100000
theorem zMn {h h':AHeap} (e:Ext (inC (zC 0 h)) h'):Ext h (zc h (inC h')):=⟨e.n,e.get,fun w=>e.wf w,rfl,fun _=>rfl⟩
theorem zSx {h h1 h2:AHeap} (e:Ext (inC (zC 0 h)) h1) (e2:Ext (inC h1) h2):Ext h (zc h (inC h2)):=⟨QW e.n e2.n,fun g hg=>(e2.get g (QG hg e.n)).trans (e.get g hg),fun w=>e2.wf (e.wf w),rfl,fun _=>rfl⟩
theorem zUv {h h1 h2 h3:AHeap} (e:Ext (inC (zC 0 h)) h1) (e2:Ext (inC h1) h2) (e3:Ext (inC h2) h3):Ext h (zc h (inC h3)):=⟨QW e.n (QW e2.n e3.n),fun g hg=>(e3.get g (QG hg (QW e.n e2.n))).trans ((e2.get g (QG hg e.n)).trans (e.get g hg)),fun w=>e3.wf (e2.wf (e.wf w)),rfl,fun _=>rfl⟩
theorem EnvL.inC {h:AHeap} {vt vf:Value} {T:List LType} {F:List LFn} (E:EnvL h vt vf T F):EnvL (inC h) vt vf T F:=⟨E.tt,QF _,E.sm,E.st,E.sf⟩
theorem zOD {h h1 h2:AHeap} {v:Value} {s:List LWd} (m:MineW (inC h1) h2 v s) (hn:h.n<=h1.n):MineW h (zc h (inC h2)) v s:=let ⟨b,hb,o⟩:=m;⟨b,QW hn hb,OwnR.upd o (fun _ _ _=>rfl) (QF _)⟩
theorem zQU {T:List LType} {F:List LFn} {f par:Int} {L:List LBlk} (O:FnOk T F f L par) {b:Int} (hb:0<=b/\b<(L.length:Int)) {i:Nat} (hi:i<(L.getD b.toNat default).ins.length):0<=YU par L b+i/\YU par L b+i<yL par L:=by
 have h1:zt (L.take (b.toNat+1))=zt (L.take b.toNat)+((L.getD b.toNat default).ins.length:Int):=by
  have e:L.take (b.toNat+1)=L.take b.toNat++[L.getD b.toNat default]:=by
   rw[GI,QE,QB (show b.toNat<L.length by omega)];rfl
  rw[e];unfold zt;rw[Gg,List.sum_append];simp
 have h2:=zIA L (b.toNat+1);have h3:=ZK (L.take b.toNat);have:=O.par0;unfold YU yL;omega
def zOe:ACode:=(oV (oV (oR [oM 42 9,oM 43 2,oB .geq 44 42 43]) (oT 44 0)) (oV (o5 1 (oV (o6 [oM 48 0,(⟨some 49,none,(.nilCheck (.tmp 48))⟩,[]),oF 0 50 49,oA 2 51 50,oM 52 0,(⟨some 53,none,(.nilCheck (.tmp 52))⟩,[]),oF 2 54 53,oL 55 54,oM 56 1,oM 57 9,o4 58 87 51 55 56 57,oM 47 58,oE 59 47 0,oE 60 47 1,oM 10 59,oM 11 60]) (o6 [oM 61 8,oM 62 10,o2 63 88 61 62,oF 0 64 7,(oL 65 64,[2]),oM 66 9,oI 7 67 65 66,(oA 7 68 67,[2]),o1 69 89 68,o2 70 85 63 69,oM 8 70]))) (oR [oM 45 9,oC .sub 46 45 1,oM 9 46])))
def zT9:ACode:=(oV (oR [oK 6 (.slice none 0 0)]) (oV (o6 [oM 12 0,(⟨some 13,none,(.nilCheck (.tmp 12))⟩,[]),oF 0 14 13,oF 1 15 14,oL 16 15,oM 17 0,(⟨some 18,none,(.nilCheck (.tmp 17))⟩,[]),oF 2 19 18,oL 20 19,oI 2 21 16 20,oF 1 22 21,oL 23 22,oM 24 1,oI 5 25 23 24,oA 5 26 25,(⟨some 7,none,(.alloc [(.slice none 0 0),(.int .u8 0),(.int .i64 0),(.int .i64 0),(.int .i64 0)])⟩,[]),oS 5 7 26]) (oV (o6 [oM 27 0,(⟨some 28,none,(.nilCheck (.tmp 27))⟩,[]),oF 4 29 28,oL 30 29,oM 31 1,oI 1 32 30 31,oL 33 32,oF 1 34 7,oA 4 35 34,(o1 36 86 35,[3,6]),o2 37 85 33 36,oM 8 37]) (oV (oV (oR [oF 0 38 7,oL 39 38,oQ 40 39,oC .sub 41 40 1,oM 9 41]) (o5 0 (.loop zOe))) (oV (oR [oM 71 8,oM 6 71]) .ret)))))
theorem zF7 (hB h:AHeap) (X gp gb ge gm:Nat) (vt vf:Value) (T:List LType) (F:List LFn) (f par:Int) (L:List LBlk) (bg ed:Z6) (es:List (Int×Int)) (b:Int) (k:Nat) (S:FS hB h X gp gb ge gm vt vf f bg ed es) (E:EnvL h vt vf T F) (O:FnOk T F f L par)
  (U:∀ x∈L,BlkU x (yL par L) L.length) (hb:0<=b/\b<(L.length:Int)) (hk:k<=(L.getD b.toNat default).ins.length) (hl:ed.length=L.length) (oe:OkW (ed.getD b.toNat [])/\∀ r,inS ed b r->r<yL par L):
  WC Tryz.prog tb 50 [.pointer (some ⟨gp,0,none⟩),I b,I k] h fun r h'=>(∃ t,MineW h h' r t/\OkW t/\∀ n,InW t n↔ZC par L b k (inS ed b) n)/\Ext h h':=by
 have hF:=E.sm.funcs;have hN:0<=yL par L/\yL par L<=228:=by
  have:=O.par0;have:=O.parl;have:=O.many;have:=ZK L;unfold yL;omega
 have hf0:=O.f0;have hf1:=O.f1;have hisL:=O.isL;have hlen:=O.len;have hbi:∀ {i:Nat},i<(L.getD b.toNat default).ins.length->0<=YU par L b+i/\YU par L b+i<yL par L:=fun hi=>zQU O hb hi;have hUb:=U _ (zH (l:=L) (i:=b.toNat) (by omega));have hib:((L.getD b.toNat default).ins.length:Int)<=128:=O.ins _ (zH (l:=L) (i:=b.toNat) (by omega));have hls:∀ (j:Nat) r,j<=(L.getD b.toNat default).ins.length->ZC par L b j (inS ed b) r->0<=r/\r<yL par L:=fun j r hj q=>by
  unfold ZC at q;refine zCY (fun x hx=>(hUb.ins x (List.mem_of_mem_drop hx)).uses) (fun r q=> ?_) q;rcases q with q|q
  ·exact hUb.ends r q
  ·exact⟨(InW.range oe.1 q).1,oe.2 r q⟩
 have hstep:∀ (j:Nat) r,j<(L.getD b.toNat default).ins.length->(ZC par L b j (inS ed b) r↔r∈Z2 ((L.getD b.toNat default).ins.getD j default)\/(r≠YU par L b+j/\ZC par L b (j+1) (inS ed b) r)):=fun j r hj=>zBt hj;have hfin:∀ r,ZC par L b (L.getD b.toNat default).ins.length (inS ed b) r↔r∈yQ (L.getD b.toNat default).fin\/inS ed b r:=fun r=>zDF (QF _);obtain⟨ta,tn,tk,rfl⟩:=zM E.st;obtain⟨ga,gn,gk,rfl⟩:=zM E.sf;have o1:=S.own;refine en 72 [(6,none)] zT9 ?_;refine WX.regionU2 1 rfl rfl ?_;have eA:Ext h (zC 1 h):=zq 1 h;have o1X:=o1.ext eA;have o1X:OwnC hB (inC (zC 1 h)) (.pointer (some ⟨gp,0,none⟩)) [.slice ta tn tk,.slice ga gn gk,I f,.slice (some ⟨gb,0,none⟩) bg.length 1,.slice (some ⟨ge,0,none⟩) ed.length 1,.map (some gm)]:=o1X;have sfX:=SlF.ext E.sf eA;have sfX:SlF (inC (zC 1 h)) (.slice ga gn gk) F:=sfX;obtain⟨csF,⟨vb,rfl,sb,hlb⟩,pcF,hsF⟩:=yB E.sf (i:=f.toNat) (by omega);obtain⟨ba,bn,bk,rfl⟩:=zM sb;rw[<-hisL]at sb;have sbX:=SlB.ext sb eA;have sbX:SlB (inC (zC 1 h)) (.slice ba bn bk) L:=sbX;obtain⟨csB,⟨vi,rfl,si,hli⟩,pcB,hsB⟩:=yB sb (i:=b.toNat) (by omega);obtain⟨ia,iN,ik,rfl⟩:=zM si;have pcFX:=(pcF _ eA).2;have pcBX:=(pcB _ eA).2;refine goU ?_;refine WU2.alE (X:=inC (zC 1 h)) (Ext.refl _) E.hm ?_;intro h1 p7 e1 o7;clear o1X sfX sbX pcFX pcBX;have S1:=S.ext e1;have E1:=E.ext e1;have o11:=S1.own;have si1:=SlN.ext si e1;generalize hBq:L.getD b.toNat default=B at *;have hstep:=Hid.mk hstep;have hfin:=Hid.mk hfin;have hls:=Hid.mk hls;have hbi:=Hid.mk (@hbi);refine go ?_;refine WX.regionU2 0 rfl rfl ?_;have o1X:OwnC hB (inC (zC 0 h1)) (.pointer (some ⟨gp,0,none⟩)) [.slice ta tn tk,.slice ga gn gk,I f,.slice (some ⟨gb,0,none⟩) bg.length 1,.slice (some ⟨ge,0,none⟩) ed.length 1,.map (some gm)]:=o11;have o7X:OwnC h (inC (zC 0 h1)) p7 [.slice ia iN ik,.int .u8 B.fin.kind,I B.fin.a,I B.fin.to,I B.fin.els]:=o7;have seX:SlR 1 (RSt X) (inC (zC 0 h1)) (.slice (some ⟨ge,0,none⟩) ed.length 1) ed:=S1.ends;obtain⟨csE,⟨ve,rfl,hfar⟩,pcE,hsE⟩:=yB S1.ends (i:=b.toNat) (by omega);have pcEX:=(pcE _ (Ext.refl _)).2;have pcEX:Piece (inC (zC 0 h1)) (.slice (some ⟨ge,0,none⟩) ed.length 1) (b.toNat * 1) [ve]:=pcEX;obtain⟨ea,en,ek,rfl⟩:=ZE hfar.1;refine goU ?_;refine WO.con (zE1 (inC (zC 0 h1)) B.fin) ?_;rintro vl h2 ⟨ol,e2⟩;refine nE e2 ?_;have hm2:(inC h2).mark<=(inC h2).n:=QF _;have hfr2:∀ r,inS ed b r->r<((yL par L).toNat:Int):=fun r q=>by have:=oe.2 r q;omega
 have hel:=zAc oe.1 hfr2;have hul:(yQ B.fin).length<=1:=by unfold yQ;split<;>simp
 have ke:SlW (inC h2) (.slice ea en ek) (ed.getD b.toNat []):=by have:=SlW.ext hfar.1 (zMn e2);exact this
 have sle:SlI (inC h2) vl (yQ B.fin):=by have:=ol.sl;exact this
 refine goU ?_;refine WO.con (zGw (inC h2) _ vl (ed.getD b.toNat []) (yQ B.fin) ke sle oe.1 (fun n hn=>by have:=hUb.ends n hn;omega) (by omega) (by omega) hm2) ?_;rintro v8 h3 ⟨⟨t8,m8,o8,len8,mem8⟩,e3⟩;refine nE e3 ?_;have e13:Ext h1 (zc h1 (inC h3)):=zSx e2 e3;have m8:MineW h1 (zc h1 (inC h3)) v8 t8:=zOD m8 (by have:=e2.n;exact this);have mem8:∀ r,InW t8 r↔ZC par L b B.ins.length (inS ed b) r:=fun r=>by
  rw[mem8,hfin.out];exact Or.comm
 refine goU ?_;generalize zc h1 (inC h3)=h4 at e13 m8 |-;have e14:=e13;have e4:=e1.trans e13;have m8:=m8.since e1;clear e3 e2 ol sle ke pcE pcEX seX o1X o7X len8;have mem8:=Hid.mk mem8;have o8:=Hid.mk o8;have S4:=S.ext e4;have E4:=E.ext e4;have o74:=o7.ext (by exact(show Ext h1 h4 from e14));have si4:=SlN.ext si e4;obtain⟨w8n,w8k,w8l,rfl⟩:=ZE m8.sl;refine go ?_;refine WX.loopA [42,43,44,48,49,50,51,52,53,54,55,56,57,58,47,59,60,10,11,61,62,63,64,65,66,67,68,69,70,8,45,46,9] (by kernel_rfl) (fun j=>j) (fun j t h5=>∃ v s,zB t 9=I ((j:Int) - 1)/\k<=j/\j<=B.ins.length/\Ext h4 h5/\zB t 8=v/\MineW h h5 v s/\Hid (OkW s)/\Hid (∀ r,InW s r↔ZC par L b j (inS ed b) r)) B.ins.length ?_ ?_
 ·exact⟨_,t8,sl_,hk,QF _,Ext.refl _,sl_,m8,o8,mem8⟩
 clear m8 mem8 o8;rintro j t h5 hsame ⟨v,s,s9,hkj,hjl,e5,s8,ms,os,hs⟩;have e05:=e4.trans e5;have S5:=S4.ext e5;have E5:=E4.ext e5;have o75:=o74.ext e5;have si5:=SlN.ext si4 e5;obtain⟨wn,wk,wl,rfl⟩:=ZE ms.sl;have hsl:s.length<=228:=by
  have:=zAc (N:=(yL par L).toNat) os.out fun r q=>by
   have:=(hls.out j r hjl ((hs.out r).1 q)).2;omega
  omega
 refine go ?_;refine WX.br (fun hc=> ?_) (fun hc=> ?_)<;>simp only[DB]at hc
 ·obtain⟨i,rfl⟩:∃ i,j=i+1:=⟨j - 1,by omega⟩;have hi:i<B.ins.length:=by omega
  have hreg:=hbi.out hi;have hU:=hUb.ins _ (zH (l:=B.ins) hi);have hst:=fun r=>hstep.out i r hi;obtain⟨csx,hcsx,pcx,hsx⟩:=yB si5 hi;obtain⟨qa,qn,qk,hqv,hqb⟩:=zBU si5 hi;have hru:(Z2 (B.ins.getD i default)).length<=22:=by
   have:=hU.args;unfold Z2 yg;split
   ·simp
   ·simp only[QX];split<;>split<;>split<;>simp only[Q2,Gh]<;>omega
  have hrr:∀ r∈Z2 (B.ins.getD i default),0<=r/\r<yL par L:=fun r hr=>hU.uses r (zEt hr);have hx20:=hU.args;generalize B.ins.getD i default=x at *;have hst:=Hid.mk hst;have hrr:=Hid.mk hrr;clear hU;refine go ?_;refine WX.regionU2 0 rfl rfl ?_;have o5X:OwnC hB (inC (zC 0 h5)) (.pointer (some ⟨gp,0,none⟩)) [.slice ta tn tk,.slice ga gn gk,I f,.slice (some ⟨gb,0,none⟩) bg.length 1,.slice (some ⟨ge,0,none⟩) ed.length 1,.map (some gm)]:=S5.own;refine goU ?_;refine WO.con (zRD (inC (zC 0 h5)) _ _ T F f L par E5.inC O b (((i+1:Nat):Int) - 1) hb (by rw[hBq];omega)) ?_;rintro _ h6 ⟨rfl,e6⟩;rw[show YU par L b+(((i+1:Nat):Int) - 1)=YU par L b+(i:Int) by omega];refine nE e6 ?_;refine goU ?_;have e57:Ext h5 (zc h5 (inC h6)):=zMn e6;generalize zc h5 (inC h6)=h7 at e57 |-;clear e6 o5X;have ms7:=ms.ext e57;have ks7:=ms7.sl;have si7:=SlN.ext si5 e57;have o77:=o75.ext e57;have tt7:=E5.tt.ext e57;have e07:=e05.trans e57;have hqb7:qa.block<h7.n:=QG hqb e57.n;refine WX.regionU2 0 rfl rfl ?_;have ksX:SlW (inC (zC 0 h7)) (.slice wn wk wl) s:=ks7;refine goU ?_;refine WO.con (zJk (inC (zC 0 h7)) _ s (YU par L b+i) ksX os.out (by omega) (by omega) (QF _)) ?_;rintro v8 h8 ⟨⟨t8,m8,o8,len8,mem8⟩,e8⟩;refine nE e8 ?_;have e78:Ext h7 (zc h7 (inC h8)):=zMn e8;have o7Y:OwnC h (inC h8) p7 [.slice ia iN ik,.int .u8 B.fin.kind,I B.fin.a,I B.fin.to,I B.fin.els]:=by have:=o77.ext e78;exact this
  have siY:SlN (inC h8) (.slice ia iN ik) B.ins:=by have:=SlN.ext si7 e78;exact this
  have pcY:Piece (inC h8) (.slice ia iN ik) (i * 7) csx:=(pcx _ (e57.trans e78)).2;have hcsY:RIns (inC h8) csx x:=by have:=RIns.ext hcsx (e57.trans e78);exact this
  have ttY:Tbl (inC h8):=by have:=tt7.ext e78;exact this
  obtain⟨va,vf,rfl,sa,sf,ha1,ha2,ho1,ho2⟩:=id hcsY;have hii:(((i+1:Nat):Int) - 1).toNat=i:=by omega
  rw[<-hii]at pcY;refine goU ?_;refine zKe o77 (QF _) ?_;refine goU ?_;refine zT1 ⟨qa,qn,qk,hqv,hqb7⟩ ?_;refine goU ?_;refine WO.con (zNc (inC h8) x _ hcsY ttY hx20) ?_;rintro vr h9 ⟨or',e9⟩;refine nE e9 ?_;have k8:SlW (inC h9) v8 t8:=by have:=SlW.ext (h:=inC h8) (h':=h9) m8.sl e9;exact this
  have slr:SlI (inC h9) vr (Z2 x):=by have:=or'.sl;exact this
  refine goU ?_;refine WO.con (zGw (inC h9) _ _ t8 (Z2 x) k8 slr o8 (fun n hn=>by have:=hrr.out n hn;omega) (by omega) (by omega) (QF _)) ?_;rintro v10 h10 ⟨⟨t10,m10,o10,len10,mem10⟩,e10⟩;refine nE e10 ?_;have e710:Ext h7 (zc h7 (inC h10)):=zUv e8 e9 e10;have m10:MineW h (zc h7 (inC h10)) v10 t10:=zOD m10 (by have h1:=e07.n;have h2:h7.n<=h8.n:=e8.n;have h3:h8.n<=h9.n:=e9.n;omega);refine goU ?_;generalize zc h7 (inC h10)=h11 at e710 m10 |-;refine go ?_;refine zA i (by omega) ⟨v10,t10,?_,by omega,by omega,e5.trans (e57.trans e710),sl_,m10,⟨o10⟩,⟨fun r=> ?_⟩⟩
  ·refine(sl_:zB _ 9=I ((((i+1:Nat):Int) - 1) - 1)).trans ?_;rw[show (((i+1:Nat):Int) - 1) - 1=(i:Int) - 1 by omega]
  ·rw[mem10,mem8,hs.out,hst.out];constructor
   ·rintro(⟨a,b⟩|c)
    ·exact .inr ⟨b,a⟩
    ·exact .inl c
   ·rintro(c|⟨b,a⟩)
    ·exact .inr c
    ·exact .inl ⟨a,b⟩
 ·have hjk:j=k:=by omega
  subst hjk;refine gr ?_;exact⟨⟨s,ms,os.out,hs.out⟩,e05⟩
set_option maxRecDepth 100000
theorem zFd {T:List LType} {F:List LFn} {f par:Int} {L:List LBlk} (O:FnOk T F f L par) {b:Int} (hb:0<=b/\b<(L.length:Int)):zD T F f b=(L,0):=by
 have h1:(Yb T F f).2=0:=by unfold Yb;rw[O.ask];rfl
 have hL:=O.isL;unfold zD;rw[QD (by omega),QD (by rw[<-hL];omega),<-hL]
theorem zOg {T:List LType} {F:List LFn} {f par:Int} {L:List LBlk} (O:FnOk T F f L par) {b:Int} (hb:0<=b/\b<(L.length:Int)):Ya T F f b=(nxL L b,0):=by
 unfold Ya;rw[zFd O hb];rfl
theorem zPa {T:List LType} {F:List LFn} {f par:Int} {L:List LBlk} (O:FnOk T F f L par) {b:Int} (hb:0<=b/\b<(L.length:Int)):yd T F f b=(zK L b L.length,0):=by
 unfold yd;rw[zFd O hb];rfl
theorem zC8 {L:List LBlk} {b c:Int}:c∈zK L b L.length↔0<=c/\c<(L.length:Int)/\b∈nxL L c:=by
 unfold zK nxL;rw[Q0];constructor
 ·rintro⟨i,hi,rfl⟩;obtain⟨h1,h2⟩:=Gf.1 hi;rw[GH]at h1;exact⟨by omega,by omega,by simpa using h2⟩
 ·rintro⟨h0,h1,h2⟩;exact⟨c.toNat,Gf.2 ⟨GH.2 (by omega),by simpa using h2⟩,by omega⟩
theorem zE0 (l:List Int) {i:Nat} (h:i<l.length):l.take (i+1)=l.take i++[l.getD i 0]:=by
 rw[GI];simp[List.getD,QB h]
theorem zLz {l:List Int} {i:Nat} (h:i<l.length):l.getD i 0∈l:=by
 rw[QE,QB h];exact JC h
theorem zK7 {S:Z6} {P:List LWd->Prop} (h:∀ s∈S,P s) {i:Nat} (hi:i<S.length):P (S.getD i []):=by
 rw[QE,QB hi];exact h _ (JC hi)
theorem zL3 {h h':AHeap} {v:Value} {l:List Int} {gm:Nat} (s:SlI h v l) (u:zE6 (.map (some gm)) h h') (hx:∀ a n c,v= .slice (some a) n c->a.block≠gm):SlI h' v l:=by
 refine⟨s.1,s.2.imp id ?_⟩;rintro⟨g,off,row,rfl,hr,hc,hg⟩;have:=hx _ _ _ rfl;refine⟨g,off,row,rfl,?_,hc,QG hg u.1⟩;unfold zk at hr |-;rw[u.2 g hg (fun e=>by cases e;exact this rfl)];exact hr
def zN7:ACode:=(oV (oR [oB .lss 36 35 34]) (oV (oT 36 0) (oV (o5 1 (oV (oR [oI 1 37 33 35,oL 38 37,oM 8 38]) (oV (oR [oM 40 6,oM 41 0,⟨some 42,none,(.nilCheck (.tmp 41))⟩,oF 3 43 42,oL 44 43,oM 45 8,oI 1 46 44 45,oL 47 46,o2 48 133 40 47,oM 39 48,oE 49 39 0,oE 50 39 1,oM 6 49]) (o6 [oM 51 6,oM 52 0,(⟨some 53,none,(.nilCheck (.tmp 52))⟩,[]),oF 0 54 53,oF 1 55 54,oL 56 55,oM 57 0,(⟨some 58,none,(.nilCheck (.tmp 57))⟩,[]),oF 2 59 58,oL 60 59,oI 2 61 56 60,oF 1 62 61,oL 63 62,oM 64 8,oI 5 65 63 64,oA 5 66 65,oM 67 1,o2 68 134 66 67,o2 69 85 51 68,oM 6 69])))) (oR [oC .add 70 35 1,oM 35 70]))))
def zOb:ACode:=(oV (oR [oB .lss 113 112 111]) (oV (oT 113 2) (oV (o5 3 (oV (oR [oI 1 114 110 112,oL 115 114,oM 12 115]) (oR [oM 116 0,⟨some 117,none,(.nilCheck (.tmp 116))⟩,oF 5 118 117,oL 119 118,oM 120 12,oM 121 1,⟨none,none,(.update (.tmp 119) (.tmp 120) (.tmp 121))⟩]))) (oR [oC .add 122 112 1,oM 112 122]))))
def zTO:ACode:=(oV (o6 [oM 14 0,(⟨some 15,none,(.nilCheck (.tmp 14))⟩,[]),oF 0 16 15,oA 2 17 16,oM 18 0,(⟨some 19,none,(.nilCheck (.tmp 18))⟩,[]),oF 2 20 19,oL 21 20,oM 22 1,o3 23 81 17 21 22,oM 13 23,oE 24 13 0,oE 25 13 1,oM 4 24,oM 5 25]) (oV (oR [oM 26 0,⟨some 27,none,(.nilCheck (.tmp 26))⟩,oF 4 28 27,oL 29 28,oM 30 1,oI 1 31 29 30,oL 32 31,oM 6 32]) (oV (oV (oR [oM 33 4,oQ 34 33,oN 35 0]) (o5 0 (.loop zN7))) (oV (oR [oM 71 0,⟨some 72,none,(.nilCheck (.tmp 71))⟩,oF 4 73 72,oL 74 73,oM 75 1,oM 76 6,oI 1 77 74 75,oS 1 77 76]) (oV (oR [oM 78 0,oM 79 1,⟨some 80,none,(.call (.func 50) [(.tmp 78),(.tmp 79),(.const (.int .i64 0))])⟩,oM 6 80]) (oV (oV (oR [oM 81 6,oM 82 0,⟨some 83,none,(.nilCheck (.tmp 82))⟩,oF 3 84 83,oL 85 84,oM 86 1,oI 1 87 85 86,oL 88 87,o2 89 135 81 88]) (oJ 89 .ret .skip)) (oV (oR [oM 90 0,⟨some 91,none,(.nilCheck (.tmp 90))⟩,oF 3 92 91,oL 93 92,oM 94 1,oM 95 6,oI 1 96 93 94,oS 1 96 95]) (oV (o6 [oM 98 0,(⟨some 99,none,(.nilCheck (.tmp 98))⟩,[]),oF 0 100 99,oA 2 101 100,oM 102 0,(⟨some 103,none,(.nilCheck (.tmp 102))⟩,[]),oF 2 104 103,oL 105 104,oM 106 1,o3 107 19 101 105 106,oM 97 107,oE 108 97 0,oE 109 97 1,oM 9 108,oM 10 109]) (oV (oR [oM 110 9,oQ 111 110,oN 112 0]) (o5 2 (.loop zOb)))))))))))
theorem zRl (hB h:AHeap) (X gp gb ge gm:Nat) (vt vf:Value) (T:List LType) (F:List LFn) (f par:Int) (L:List LBlk) (bg ed:Z6) (es:List (Int×Int)) (b:Int) (S:FS hB h X gp gb ge gm vt vf f bg ed es) (E:EnvL hB vt vf T F) (O:FnOk T F f L par)
  (U:∀ x∈L,BlkU x (yL par L) L.length) (hb:0<=b/\b<(L.length:Int)) (lb:bg.length=L.length) (le:ed.length=L.length) (okb:∀ s∈bg,OkW s/\∀ r,InW s r->r<yL par L) (oke:∀ s∈ed,OkW s/\∀ r,InW s r->r<yL par L):
  WC Tryz.prog tb 84 [.pointer (some ⟨gp,0,none⟩),I b] h fun _ h'=>∃ s1 s es',FS hB h' X gp gb ge gm vt vf f (bg.set b.toNat s) (ed.set b.toNat s1) es'/\(OkW s1/\∀ r,InW s1 r->r<yL par L)/\(OkW s/\∀ r,InW s r->r<yL par L)/\
   (∀ r,InW s1 r↔inS ed b r\/zAX L (inS bg) b r)/\(∀ r,InW s r↔ZC par L b 0 (InW s1) r)/\((s=bg.getD b.toNat []/\es'=es)\/(s≠bg.getD b.toNat []/\(Zj es->Zj es')/\∀ c,c∈es'.map (·.1)↔c∈es.map (·.1)\/c∈zK L b L.length)):=by
 have hF:=E.sm.funcs;have hN:0<=yL par L/\yL par L<=228:=by
  have:=O.par0;have:=O.parl;have:=O.many;have:=ZK L;unfold yL;omega
 have hf0:=O.f0;have hf1:=O.f1;have hisL:=O.isL;have hlen:=O.len;have hmB:=E.hm;have hnx:=zOg O hb;have hpr:=zPa O hb;have hUb:=U _ (zH (l:=L) (i:=b.toNat) (by omega));have hrange:∀ k∈nxL L b,0<=k/\k<(L.length:Int):=hUb.next;have hnl:(nxL L b).length<=2:=by unfold nxL Zd;split<;>(try split)<;>(try split)<;>simp
 have hpl:=YD L b L.length;have hpm:∀ c,c∈zK L b L.length->0<=c/\c<(L.length:Int):=fun c hc=>let ⟨a,b,_⟩:=zC8.1 hc;⟨a,b⟩;obtain⟨ta,tn,tk,rfl⟩:=zM E.st;obtain⟨ga,gn,gk,rfl⟩:=zM E.sf;have E0:=E.ext S.e;have o1:=S.own;refine en 123 [] zTO ?_;refine WX.regionU2 0 rfl rfl ?_;have oX:OwnC hB (inC (zC 0 h)) (.pointer (some ⟨gp,0,none⟩)) [.slice ta tn tk,.slice ga gn gk,I f,.slice (some ⟨gb,0,none⟩) bg.length 1,.slice (some ⟨ge,0,none⟩) ed.length 1,.map (some gm)]:=o1;refine goU ?_;refine WO.con (zKk (inC (zC 0 h)) _ _ T F f b E0.inC.tt (QF _) E0.sm E0.inC.st E0.inC.sf) ?_;rintro _ h1 ⟨⟨vn,rfl,sn,_⟩,e1⟩;rw[hnx]at sn |-;refine nE e1 ?_;refine goU ?_;have e01:Ext h (zc h (inC h1)):=zMn e1;have sn2:SlI (zc h (inC h1)) vn (nxL L b):=sn;generalize zc h (inC h1)=h2 at e01 sn2 |-;clear sn e1 oX;have S2:=S.ext e01;have o2:=S2.own;have sE2:=S2.ends;obtain⟨csE,⟨ve,rfl,hfar⟩,pcE,hsE⟩:=yN S2.ends (i:=b.toNat) (by omega);obtain⟨ea,en,ek,rfl⟩:=ZE hfar.1;have hed:List.getD ed b.toNat (default:List LWd)=ed.getD b.toNat []:=rfl;rw[hed]at hfar;have oed:=zK7 oke (i:=b.toNat) (by omega);refine go ?_;refine WX.loopA [36,37,38,8,40,41,42,43,44,45,46,47,48,39,49,50,6,51,52,53,54,55,56,57,58,59,60,61,62,63,64,65,66,67,68,69,6,70,35] (by kernel_rfl) (fun i=>(nxL L b).length - i) (fun i t h3=>∃ v s,zB t 35=I i/\i<=(nxL L b).length/\Ext h2 h3/\zB t 6=v/\FarW h3 X v s/\Hid (OkW s/\∀ r,InW s r->r<yL par L)/\Hid (∀ r,InW s r↔inS ed b r\/∃ k∈(nxL L b).take i,inS bg k r\/r∈zAv (L.getD k.toNat default) b)) 0 ?_ ?_
 ·exact⟨_,ed.getD b.toNat [],sl_,QV _,Ext.refl _,sl_,hfar,⟨oed⟩,⟨fun r=>by simp[inS]⟩⟩
 rintro i t h3 hsame ⟨v,s,s35,hi,e3,s6,hv,os,hs⟩;have S3:=S2.ext e3;have E3:=E.ext S3.e;have o3:=S3.own;have sn3:=SlI.ext sn2 e3;have hsl:s.length<=228:=by
  have:=zAc (N:=(yL par L).toNat) os.out.1 fun r q=>by have:=os.out.2 r q;omega
  omega
 obtain⟨wa,wn,wk,rfl⟩:=ZE hv.1;refine go ?_;refine WX.br (fun hc=> ?_) (fun hc=> ?_)<;>simp only[DB]at hc
 ·have hi':i<(nxL L b).length:=by omega
  have hk:=hrange _ (zLz hi');have htk:=zE0 (nxL L b) hi';have sB3:=S3.begs;obtain⟨csB,⟨vb,rfl,hfb⟩,pcB,hsB⟩:=yN S3.begs (i:=((nxL L b).getD i 0).toNat) (by omega);obtain⟨xa,xn,xk,rfl⟩:=ZE hfb.1;have obk:=zK7 okb (i:=((nxL L b).getD i 0).toNat) (by omega);have hbd:List.getD bg ((nxL L b).getD i 0).toNat (default:List LWd)=bg.getD ((nxL L b).getD i 0).toNat []:=rfl;rw[hbd]at hfb;have hbl:(bg.getD ((nxL L b).getD i 0).toNat []).length<=228:=by
   have:=zAc (N:=(yL par L).toNat) obk.1 fun r q=>by have:=obk.2 r q;omega
   omega
  have hUk:=U _ (zH (l:=L) (i:=((nxL L b).getD i 0).toNat) (by omega));have hbm:=O.ins _ (zH (l:=L) (i:=((nxL L b).getD i 0).toNat) (by omega));have hm3:h3.mark<=h3.n:=E3.hm;refine go ?_;refine WO.con (zSw h3 _ _ s _ hv.1 hfb.1 (by omega) (by omega) hm3) ?_;rintro _ h4 ⟨⟨v4,rfl,m4⟩,e4⟩;rw[zEx os.out.1 obk.1];rw[zEw os.out.1 obk.1]at m4;obtain⟨oo,io⟩:=zSr os.out.1 obk.1;have hlo:=ZV (fun a b=>a|||b) s (bg.getD ((nxL L b).getD i 0).toNat []);obtain⟨s4,hs4⟩:∃ s4,s4=zn (fun a b=>a|||b) s (bg.getD ((nxL L b).getD i 0).toNat []):=⟨_,rfl⟩;have hor:∀ r,InW s4 r↔InW s r\/inS bg ((nxL L b).getD i 0) r:=fun r=>by
   rw[hs4,<-YT,io,GA,YT,YT];exact Iff.rfl
  have oo:OkW s4:=by rw[hs4];exact oo
  rw[<-hs4]at m4 hlo;clear hs4 io;have k4:=m4.sl;obtain⟨ya,yn,yk,rfl⟩:=ZE k4;have hX3:=S3.hX;have hor:=Hid.mk hor;have hfar4:=m4.far hX3;clear m4 hfb pcB hsB sB3;have S4:=S3.ext e4;have E4:=E.ext S4.e;have o4:=S4.own;have sf4:=E4.sf;refine go ?_;refine WX.regionU2 0 rfl rfl ?_;have oX:OwnC hB (inC (zC 0 h4)) (.pointer (some ⟨gp,0,none⟩)) [.slice ta tn tk,.slice ga gn gk,I f,.slice (some ⟨gb,0,none⟩) bg.length 1,.slice (some ⟨ge,0,none⟩) ed.length 1,.map (some gm)]:=o4;have sfX:SlF (inC (zC 0 h4)) (.slice ga gn gk) F:=sf4;obtain⟨csF,⟨vbl,rfl,sb,hlb⟩,pcF,hsF⟩:=yB sf4 (i:=f.toNat) (by omega);obtain⟨ba,bn,bk,rfl⟩:=zM sb;rw[<-hisL]at sb;have sbX:SlB (inC (zC 0 h4)) (.slice ba bn bk) L:=sb;obtain⟨csK,hcsK,pcK,hsK⟩:=yB sb (i:=((nxL L b).getD i 0).toNat) (by omega);have hcsK0:=hcsK;have pcFX:=(pcF _ (Ext.refl _)).2;have pcFX:Piece (inC (zC 0 h4)) (.slice ga gn gk) (f.toNat * 2) [I (F.getD f.toNat default).sig,.slice ba bn bk]:=pcFX;have pcKX:=(pcK _ (Ext.refl _)).2;obtain⟨vi,rfl,si,hli⟩:=hcsK0;obtain⟨ia,iN,ik,rfl⟩:=zM si;have pcKX:Piece (inC (zC 0 h4)) (.slice ba bn bk) (((nxL L b).getD i 0).toNat * 5) [.slice ia iN ik,.int .u8 (L.getD ((nxL L b).getD i 0).toNat default).fin.kind,I (L.getD ((nxL L b).getD i 0).toNat default).fin.a,I (L.getD ((nxL L b).getD i 0).toNat default).fin.to,I (L.getD ((nxL L b).getD i 0).toNat default).fin.els]:=pcKX;have hcsX:RBlk (inC (zC 0 h4)) [.slice ia iN ik,.int .u8 (L.getD ((nxL L b).getD i 0).toNat default).fin.kind,I (L.getD ((nxL L b).getD i 0).toNat default).fin.a,I (L.getD ((nxL L b).getD i 0).toNat default).fin.to,I (L.getD ((nxL L b).getD i 0).toNat default).fin.els] (L.getD ((nxL L b).getD i 0).toNat default):=hcsK;refine goU ?_;refine WO.con (zQN (inC (zC 0 h4)) (L.getD ((nxL L b).getD i 0).toNat default) _ b hcsX hbm (fun x hx=>(hUk.ins x hx).frm) (fun x hx e=>((hUk.ins x hx).phi e).1)) ?_;rintro vp h5 ⟨op,e5⟩;refine nE e5 ?_;have hpl2:(zAv (L.getD ((nxL L b).getD i 0).toNat default) b).length<=2560:=by
   have:=zEu (L.getD ((nxL L b).getD i 0).toNat default).ins b fun x hx=>(hUk.ins x hx).frm;have h2:(zAv (L.getD ((nxL L b).getD i 0).toNat default) b).length<=20 * (L.getD ((nxL L b).getD i 0).toNat default).ins.length:=this;omega
  have hpr2:∀ r∈zAv (L.getD ((nxL L b).getD i 0).toNat default) b,0<=r/\r<yL par L:=fun r hr=>zQV hUk hr;have k5:SlW (inC h5) (.slice ya yn yk) s4:=by have:=SlW.ext k4 (zMn e5);exact this
  have sp5:SlI (inC h5) vp (zAv (L.getD ((nxL L b).getD i 0).toNat default) b):=by have:=op.sl;exact this
  refine goU ?_;refine WO.con (zGw (inC h5) _ _ s4 (zAv (L.getD ((nxL L b).getD i 0).toNat default) b) k5 sp5 oo (fun n hn=>by have:=hpr2 n hn;omega) (by omega) (by omega) (QF _)) ?_;rintro v6 h6 ⟨⟨t6,m6,o6,len6,mem6⟩,e6⟩;refine nE e6 ?_;have e46:Ext h4 (zc h4 (inC h6)):=zSx e5 e6;have m6:MineW h4 (zc h4 (inC h6)) v6 t6:=zOD m6 (by have:=e5.n;exact this);have hX4:=S4.hX;refine goU ?_;have hfar6:=m6.far hX4;generalize zc h4 (inC h6)=h7 at e46 m6 hfar6 |-;refine go ?_;refine zA (i+1) (by omega) ⟨v6,t6,sln,by omega,e3.trans (e4.trans e46),sl_,hfar6,⟨o6,fun r q=> ?_⟩,⟨fun r=> ?_⟩⟩
  ·rcases(mem6 r).1 q with q|q
   ·rcases(hor.out r).1 q with q|q
    ·exact os.out.2 r q
    ·exact obk.2 r q
   ·exact(hpr2 r q).2
  ·rw[mem6,hor.out,hs.out,htk];constructor
   ·rintro(((a|⟨k,hk,q⟩)|c)|d)
    ·exact .inl a
    ·exact .inr ⟨k,Qf.2 (.inl hk),q⟩
    ·exact .inr ⟨_,Qf.2 (.inr (QQ.2 rfl)),.inl c⟩
    ·exact .inr ⟨_,Qf.2 (.inr (QQ.2 rfl)),.inr d⟩
   ·rintro(a|⟨k,hk,q⟩)
    ·exact .inl (.inl (.inl a))
    ·rcases Qf.1 hk with hk|hk
     ·exact .inl (.inl (.inr ⟨k,hk,q⟩))
     ·rw[QQ]at hk;subst hk;exact q.elim (fun c=> .inl (.inr c)) .inr
 ·have hil:i=(nxL L b).length:=by omega
  subst hil;rw[GN]at hs;have sE3:=S3.ends;have hsets:∀ x:List LWd,(ed.set b.toNat x).getD b.toNat []=x:=fun x=>by
   rw[QE,JJ (by omega)];rfl
  refine go ?_;refine WO.stRow (i:=b.toNat) S3.se S3.e S3.de S3.hX (by omega) hv ?_;intro h4 e4 r4 n4 k4;have S4:=S3.setE e4 r4 (by rw[GJ]) (by omega) k4;have E4:=E.ext e4;have hE:inS (ed.set b.toNat s) b=InW s:=by funext r;unfold inS;rw[hsets]
  have hat:WC Tryz.prog tb 50 [.pointer (some ⟨gp,0,none⟩),I b,I 0] h4 _:=zF7 hB h4 X gp gb ge gm _ _ T F f par L bg (ed.set b.toNat s) es b 0 S4 E4 O U hb (QV _) (by rw[GJ];exact le) (by rw[hsets,hE];exact os.out);refine go ?_;refine WO.con hat ?_;rintro v5 h5 ⟨⟨t5,m5,o5,mem5⟩,e5⟩;rw[hE]at mem5;clear hat;have S5:=S4.ext e5;have E5:=E4.ext e5;have k5:=m5.sl;have hX4:=S4.hX;have far5:=m5.far hX4;obtain⟨ya,yn,yk,rfl⟩:=ZE k5;have o5p:=S5.own;have sB5:=S5.begs;obtain⟨csB,⟨vb,rfl,hfb⟩,pcB,hsB⟩:=yN S5.begs (i:=b.toNat) (by omega);obtain⟨xa,xn,xk,rfl⟩:=ZE hfb.1;have hbd:List.getD bg b.toNat (default:List LWd)=bg.getD b.toNat []:=rfl;rw[hbd]at hfb;have hlt:∀ r,InW t5 r->r<yL par L:=fun r q=>by
   have q:=(mem5 r).1 q;unfold ZC at q;exact(zCY (fun x hx=>(hUb.ins x (List.mem_of_mem_drop hx)).uses) (fun r q=>q.elim (fun q=>hUb.ends r q) fun q=>⟨(InW.range os.out.1 q).1,os.out.2 r q⟩) q).2
  have ht5:t5.length<=228:=by
   have:=zAc (N:=(yL par L).toNat) o5 fun r q=>by have:=hlt r q;omega
   omega
  have mem5:=Hid.mk mem5;have hlt:=Hid.mk hlt;have hs':Hid (∀ r,InW s r↔inS ed b r\/zAX L (inS bg) b r):=⟨hs.out⟩;refine go ?_;refine WO.con (zQR h5 _ _ t5 (bg.getD b.toNat []) k5 hfb.1 (by omega)) ?_;rintro _ _ ⟨rfl,rfl⟩;by_cases heq:t5=bg.getD b.toNat []
  ·rw[QZ heq];refine gr ?_;refine⟨s,t5,es,?_,os.out,⟨o5,hlt.out⟩,hs'.out,mem5.out,.inl ⟨heq,rfl⟩⟩;have hself:bg.set b.toNat t5=bg:=by
    rw[heq,QE,QB (show b.toNat<bg.length by omega)];exact List.set_getElem_self _
   rw[hself];exact S5
  ·rw[QT heq];refine go ?_;refine WO.stRow (i:=b.toNat) S5.sb S5.e S5.db S5.hX (by omega) far5 ?_;intro h6 e6 r6 n6 k6;have S6:=S5.setB e6 r6 (by rw[GJ]) (by omega) k6;have E6:=E.ext e6;have o6p:=S6.own;clear sB5 pcB hfb hsB far5 k5 o5p S5 S4 S3 sE3;refine go ?_;refine WX.regionU2 0 rfl rfl ?_;have oX:OwnC hB (inC (zC 0 h6)) (.pointer (some ⟨gp,0,none⟩)) [.slice ta tn tk,.slice ga gn gk,I f,.slice (some ⟨gb,0,none⟩) (bg.set b.toNat t5).length 1,.slice (some ⟨ge,0,none⟩) (ed.set b.toNat s).length 1,.map (some gm)]:=o6p;refine goU ?_;refine WO.con (zEa (inC (zC 0 h6)) _ _ T F f b E6.inC.tt (QF _) E6.sm E6.inC.st E6.inC.sf) ?_;rintro _ h7 ⟨⟨vp,rfl,op⟩,e7⟩;rw[hpr]at op |-;refine nE e7 ?_;refine goU ?_;have e67:Ext h6 (zc h6 (inC h7)):=zMn e7;have sp:SlI (zc h6 (inC h7)) vp (zK L b L.length):=by have:=op.sl;exact this
   have hpX:∀ a n c,vp= .slice (some a) n c->a.block≠gm:=fun a n c e=>by
    rcases op with ⟨q,_⟩|⟨q,q1,q2,q3,q4⟩
    ·rw[q]at e;cases e
    ·rw[q3]at e;cases e;have h1:h6.n<=q:=q1;have:=S6.hX;have:=S6.dm.2;show q≠gm;omega
   generalize zc h6 (inC h7)=h8 at e67 sp |-;have S8:=S6.ext e67;have hpl16:(zK L b L.length).length<=16:=by omega
   generalize hA:zK L b L.length=A at *;refine go ?_;refine WX.loopA [113,114,115,12,116,117,118,119,120,121,122,112] (by kernel_rfl) (fun i=>A.length - i) (fun i t h9=>∃ es',zB t 112=I i/\i<=A.length/\FS hB h9 X gp gb ge gm (.slice ta tn tk) (.slice ga gn gk) f (bg.set b.toNat t5) (ed.set b.toNat s) es'/\SlI h9 vp A/\Hid ((Zj es->Zj es')/\∀ c,c∈es'.map (·.1)↔c∈es.map (·.1)\/c∈A.take i)) 0 ?_ ?_
   ·exact⟨es,sl_,QV _,S8,sp,⟨id,fun c=>by simp⟩⟩
   rintro i t9 h9 hsame9 ⟨es',s112,hi9,S9,sp9,hK⟩;have o9:=S9.own;refine go ?_;refine WX.br (fun hc9=> ?_) (fun hc9=> ?_)<;>simp only[DB]at hc9
   ·have hi':i<A.length:=by omega
    have htk:=zE0 A hi';refine go ?_;refine WO.upM S9.rm S9.e ?_;intro h10 e10 o10 u10;have S10:=S9.setM e10 o10 u10;have sp10:=zL3 sp9 u10 hpX;refine go ?_;refine zA (i+1) (by omega) ⟨_,sln,by omega,S10,sp10,⟨fun q=>zDG (hK.out.1 q),fun c=> ?_⟩⟩;rw[zC2,hK.out.2,htk,Qf,QQ];constructor
    ·rintro(a|a|a)
     ·exact .inr (.inr a)
     ·exact .inl a
     ·exact .inr (.inl a)
    ·rintro(a|a|a)
     ·exact .inr (.inl a)
     ·exact .inr (.inr a)
     ·exact .inl a
   ·refine go ?_;refine rtN ?_;rw[show i=A.length by omega,GN]at hK;exact⟨s,t5,es',S9,os.out,⟨o5,hlt.out⟩,hs'.out,mem5.out,.inr ⟨heq,hK.out.1,hK.out.2⟩⟩
end
end Go.Proofs.YteekipjpghikkaaGreatDoor
