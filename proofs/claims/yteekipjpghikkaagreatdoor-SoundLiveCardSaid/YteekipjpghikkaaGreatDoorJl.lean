/- What functions of the program come to in the abstract machine, and plain laws about it; no statement of the seat is proved in this text. -/
import Derived.Test.YteekipjpghikkaaGreatDoorJk
import Derived.Test.YteekipjpghikkaaGreatDoorAmV
import Derived.Test.YteekipjpghikkaaGreatDoorAmU
set_option linter.unusedVariables false
set_option linter.unusedSimpArgs false
set_option maxHeartbeats 1000000
namespace Go.Proofs.YteekipjpghikkaaGreatDoor
noncomputable section
open Go.Am
set_option maxRecDepth 100000
abbrev zFV (b:Nat) (h:AHeap) (v:Value) (s:List LWd):Prop:=OwnR 2 RW b h v s
theorem RW.dep {h:AHeap} {w:LWd} (h1:w.bits<18446744073709551616) (h2: -9223372036854775808<=w.pos) (h3:w.pos<=9223372036854775807) (D:Nat->Prop):Dep RW h [I w.pos,W w.bits] w D:=
 fun _ _ _=>⟨rfl,h1,h2,h3⟩
def zTs (fv:Value) (f:Nat->Nat->Nat):Prop:=∀ (h:AHeap) (a b:Nat),a<18446744073709551616->b<18446744073709551616->WV Tryz.prog tb fv [W a,W b] h fun r h'=>r=W (f a b)/\h=h'
def zSU:ACode:=(oV (oR [oX 1 0,oN 2 0]) (oV (oR [oF 0 3 1,oL 4 3,oM 2 4]) .ret))
theorem Z0 (h:AHeap) (w:LWd):WC Tryz.prog tb 207 [.agg #[I w.pos,W w.bits]] h fun r h'=>r=I w.pos/\Ext h h':=by
 refine en 5 [(2,none)] zSU ?_;refine WO.bx ?_;intro p h1 e1 o1;refine gr ?_;exact⟨rfl,e1⟩
def zJw (p:Int) (v:Nat) (out:List LWd):List LWd:=if v=0 then out else out++[⟨p,v⟩]
theorem zAZ (p:Int) (v:Nat) (out s:List LWd):zJw p v out++s=out++zAt p v s:=by
 unfold zJw zAt;split<;>simp
structure PutS (hB h:AHeap) (b:Nat) (p5 p6 fv:Value) (out:List LWd):Prop where
 e:Ext hB h
 o5:OwnC hB h p5 [fv]
 bb:hB.n<=b/\b<=h.n
 p5b:∀ g,p5= .pointer (some ⟨g,0,none⟩)->g<b
 p6b:∀ g,p6= .pointer (some ⟨g,0,none⟩)->g<b
 ne:p5≠p6
 v:∃ v,OwnC hB h p6 [v]/\zFV b h v out
theorem zBx {hB h h':AHeap} {p:Value} {cells:List Value} {b vn vk:Nat} {va:Option Addr} (o:OwnC hB h p cells) (hb:∀ g,p= .pointer (some ⟨g,0,none⟩)->g<b) (hv:∀ g,va=some ⟨g,0,none⟩->b<=g)
  (keep:∀ k,k<h.n->(∀ n k',Value.slice va vn vk≠ .slice (some ⟨k,0,none⟩) n k')->h'.get k=h.get k) (hn:h.n<=h'.n):OwnC hB h' p cells:=by
 obtain⟨g,g1,g2,rfl,g4⟩:=o;refine⟨g,g1,QG g2 hn,rfl,(keep g g2 fun n k' e=> ?_).trans g4⟩;cases e;have h1:=hb g rfl;have h2:=hv g rfl;omega
theorem zEq {hB h h':AHeap} {p q:Value} {cells:List Value} (o:OwnC hB h p cells) (u:UpdC q h h') (hne:p≠q):OwnC hB h' p cells:=by
 obtain⟨g,g1,g2,rfl,g4⟩:=o;exact⟨g,g1,QG g2 u.1,rfl,(u.2 g g2 fun e=>hne e.symm).trans g4⟩
theorem YW {α:Type} {c b:Nat} {R:AHeap->List Value->α->Prop} {h:AHeap} {v:Value} {xs:List α} (ow:OwnR c R b h v xs):∃ a n k,v= .slice a n k/\∀ g,a=some ⟨g,0,none⟩->b<=g/\g<h.n:=by
 rcases ow with ⟨rfl,_⟩|⟨g,_,_,g1,g2,rfl,_⟩
 ·exact⟨_,_,_,rfl,fun g e=>by cases e⟩
 ·exact⟨_,_,_,rfl,fun g' e=>by cases e;exact⟨g1,g2⟩⟩
def zRS:ACode:=(oV (oR [oX 5 0,oX 6 1]) (oV (oR [oL 9 3,oF 1 10 5,oL 11 10,oF 1 12 6,oL 13 12,⟨some 14,none,(.call (.tmp 9) [(.tmp 11),(.tmp 13)])⟩,oM 8 14]) (oV (oR [oM 15 8,⟨some 16,none,(.bin .neq (.tmp 15) (.const (.int .u64 0)))⟩]) (oJ 16 (oR [oL 17 4,oM 18 2,oM 19 8,⟨some 20,none,(.build [(.int .i64 0),(.int .u64 0)] [(0,1,(.tmp 18)),(1,1,(.tmp 19))])⟩,⟨some 21,none,(.buildSlice 1 2 [(.int .i64 0),(.int .u64 0)] [(0,2,(.tmp 20))])⟩,oY 2 22 17 21,oS 1 4 22]) .skip))))
theorem zBB (hB h:AHeap) (b:Nat) (p5 p6 fv:Value) (f:Nat->Nat->Nat) (hf:zTs fv f) (out:List LWd) (x y:LWd) (at':Int) (S:PutS hB h b p5 p6 fv out) (hx:x.bits<18446744073709551616) (hy:y.bits<18446744073709551616) (hl:out.length<=100000)
  (hz:f x.bits y.bits<18446744073709551616) (ha: -9223372036854775808<=at'/\at'<=9223372036854775807) (hm:h.mark<=h.n):
  WC Tryz.prog tb 208 [.agg #[I x.pos,W x.bits],.agg #[I y.pos,W y.bits],I at',p5,p6] h fun r h'=>PutS hB h' b p5 p6 fv (zJw at' (f x.bits y.bits) out)/\h.n<=h'.n/\(∀ k∈h'.wr,k∈h.wr\/hB.n<=k)/\
   (∀ p cells,OwnC hB h p cells->p≠p6->(∀ g,p= .pointer (some ⟨g,0,none⟩)->g<b)->OwnC hB h' p cells):=by
 obtain⟨e0,o5,⟨b1,b2⟩,h5,h6,hne,v,o6,ow⟩:=S;obtain⟨va,vn,vk,rfl,hvn⟩:=YW ow;refine en 23 [] zRS ?_;refine WO.bx ?_;intro p3 h1 e1 o3;refine go ?_;refine WO.bx ?_;intro p4 h2 e2 o4;have o3:=o3.ext e2;have o5':=o5.ext (e1.trans e2);have o6':=o6.ext (e1.trans e2);have ow':=OwnR.ext ow (e1.trans e2);have e02:=e0.trans (e1.trans e2);have hn12:=(e1.trans e2).n;refine go ?_;refine WO.conV (hf h2 x.bits y.bits hx hy) ?_;rintro _ _ ⟨rfl,rfl⟩;have hw12:h2.wr=h.wr:=(e1.trans e2).wr hm;refine go ?_;refine WX.br (fun hc=> ?_) (fun hc=> ?_)<;>simp only[DB]at hc
 ·refine go ?_;refine WO.apRw (b:=b) (R:=RW) (h:=h2) ⟨at',f x.bits y.bits⟩ (fun _=>False) ow' e02 b1 (by omega) (by decide) hl (RW.dep hz ha.1 ha.2 _) (fun k hk=>hk.elim) (fun _ _ _ _ h=>h) ?_;intro v' h3 lit e3 ow3 n3 keep3 w3;obtain⟨va',vn',vk',rfl,hvn'⟩:=YW ow3;have hvb:∀ g,va=some ⟨g,0,none⟩->b<=g:=fun g e=>(hvn g e).1;have o6'':OwnC hB h3 p6 [.slice va vn vk]:=zBx o6' h6 hvb keep3 n3;refine go ?_;refine WO.stC0w (cs:=[.slice va' vn' vk']) o6'' e3 ?_;intro h4 e4 o4' u4 w4;refine go ?_;refine rtN ?_;refine⟨⟨e4,zEq (zBx o5' h5 hvb keep3 n3) u4 hne,⟨b1,by have:=u4.1;omega⟩,h5,h6,hne,_,o4',?_⟩,by have:=u4.1;omega,fun k hk=> ?_,fun p cells o hp hpb=>zEq (zBx (o.ext (e1.trans e2)) hpb hvb keep3 n3) u4 hp⟩
  ·unfold zJw;rw[QC (by omega)];refine OwnR.upd ow3 (fun k k1 k2=>u4.2 k k2 fun e=> ?_) u4.1;have:=h6 k e;omega
  ·rcases w4 k hk with h|h
   ·rcases w3 k h with h|h
    ·rw[hw12]at h;exact .inl h
    ·exact .inr (by omega)
   ·exact .inr h
 ·refine go ?_;refine rtN ?_;refine⟨⟨e02,o5',⟨b1,by omega⟩,h5,h6,hne,_,o6',?_⟩,hn12,fun k hk=> ?_,fun p cells o _ _=>o.ext (e1.trans e2)⟩
  ·unfold zJw;rw[QH (by omega)];exact ow'
  ·rw[hw12]at hk;exact .inl hk
theorem PutS.enter {hB h X:AHeap} {b:Nat} {p5 p6 fv:Value} {out:List LWd} (S:PutS hB h b p5 p6 fv out) (e:Ext (inC (zC 0 h)) X):PutS {hB with mark:=X.n,wr:=[]} (inC X) b p5 p6 fv out:=by
 obtain⟨e0,o5,⟨b1,b2⟩,h5,h6,hne,v,o6,ow⟩:=S;have o5:OwnC hB X p5 [fv]:=OwnC.ext (h:=inC (zC 0 h)) o5 e;have o6:OwnC hB X p6 [v]:=OwnC.ext (h:=inC (zC 0 h)) o6 e;have ow:zFV b X v out:=OwnR.upd ow (fun k _ hk=>e.get k hk) e.n;have hn:h.n<=X.n:=e.n;refine⟨⟨QV e0.n hn,fun g hg=>(e.get g (QG hg e0.n)).trans (e0.get g hg),fun w=>e.wf (e0.wf w),rfl,fun _=>rfl⟩,o5,⟨b1,QV b2 hn⟩,h5,h6,hne,v,o6,OwnR.upd ow (fun _ _ _=>rfl) (QF _)⟩
theorem PutS.leave {hB h h':AHeap} {b m:Nat} {p5 p6 fv:Value} {out:List LWd} (S:PutS {hB with mark:=m,wr:=[]} h' b p5 p6 fv out) (e:Ext hB h):PutS hB (ze h h') b p5 p6 fv out:=by
 obtain⟨e0,o5,⟨b1,b2⟩,h5,h6,hne,v,o6,ow⟩:=S;exact⟨⟨e0.n,e0.get,fun w=>e0.wf w,e.mark,fun hm=>e.wr hm⟩,o5,⟨b1,b2⟩,h5,h6,hne,v,o6,OwnR.upd ow (fun _ _ _=>rfl) (QF _)⟩
theorem zKi {f:Nat->Nat->Nat} {A B:List LWd} (hA:0<A.length) (h:B.length=0\/(A.getD 0 default).pos<(B.getD 0 default).pos):zq f A B=zAt (A.getD 0 default).pos (f (A.getD 0 default).bits 0) (zq f (A.drop 1) B):=by
 cases A with
 |nil=>simp at hA
 |cons x a=>
  cases B with
  |nil=>rw[zq];rfl
  |cons y b=>
   have h:x.pos<y.pos:=h.resolve_left (by simp);rw[zq,QH h];rfl
theorem zKx {f:Nat->Nat->Nat} {A B:List LWd} (hB:0<B.length) (h:A.length=0\/(B.getD 0 default).pos<(A.getD 0 default).pos):zq f A B=zAt (B.getD 0 default).pos (f 0 (B.getD 0 default).bits) (zq f A (B.drop 1)):=by
 cases B with
 |nil=>simp at hB
 |cons y b=>
  cases A with
  |nil=>rw[zq];rfl
  |cons x a=>
   have h:y.pos<x.pos:=h.resolve_left (by simp);rw[zq,QC (by omega),QH h];rfl
theorem zRo {f:Nat->Nat->Nat} {A B:List LWd} (hA:0<A.length) (hB:0<B.length) (h:(A.getD 0 default).pos=(B.getD 0 default).pos):zq f A B=zAt (A.getD 0 default).pos (f (A.getD 0 default).bits (B.getD 0 default).bits) (zq f (A.drop 1) (B.drop 1)):=by
 cases A with
 |nil=>simp at hA
 |cons x a=>
  cases B with
  |nil=>simp at hB
  |cons y b=>
   have h:x.pos=y.pos:=h;rw[zq,QC (by omega),QC (by omega)];rfl
theorem zA9 {p:Int} {v:Nat} {out:List LWd}:(zJw p v out).length<=out.length+1:=by
 unfold zJw;split<;>simp
theorem zLH {h h':AHeap} (e:Ext (inC (zC 0 h)) h'):Ext h (ze h (inC h')):=⟨e.n,e.get,fun w=>e.wf w,rfl,fun _=>rfl⟩
theorem zHr {h h' h2:AHeap} (e:Ext (inC (zC 0 h)) h') (e2:Ext (inC h') h2):Ext h (ze h (inC h2)):=⟨QV e.n e2.n,fun g hg=>(e2.get g (QG hg e.n)).trans (e.get g hg),fun w=>e2.wf (e.wf w),rfl,fun _=>rfl⟩
theorem PutS.ext {hB h h':AHeap} {b:Nat} {p5 p6 fv:Value} {out:List LWd} (S:PutS hB h b p5 p6 fv out) (e:Ext h h'):PutS hB h' b p5 p6 fv out:=by
 obtain⟨e0,o5,⟨b1,b2⟩,h5,h6,hne,v,o6,ow⟩:=S;exact⟨e0.trans e,o5.ext e,⟨b1,QV b2 e.n⟩,h5,h6,hne,v,o6.ext e,OwnR.ext ow e⟩
theorem zJM (h:AHeap):ze h (inC (zC 0 h))=h:=rfl
def zLt:ACode:=(oV (oV (oR [oM 9 0,oQ 10 9,oC .gtr 11 10 0,oM 12 11,oH 12 (oM 13 1),oH 12 (oQ 14 13),oH 12 (oC .gtr 15 14 0),oO 16 12 15]) (oT 16 0)) (o5 1 (o5 2 (oV (o6 [oM 35 1,oQ 36 35,oC .eql 37 36 0,oM 38 37,oH 38 (oM 39 0),oH 38 (oQ 40 39),oH 38 (oC .gtr 41 40 0),oH 38 (oM 42 41),oG 42 (oM 43 2),oG 42 (oM 44 0),(⟨some 45,some (42,true),(.idx 2 (.tmp 44) (.const (.int .i64 0)))⟩,[]),oG 42 (oA 2 46 45),(⟨some 47,some (42,true),(.call (.tmp 43) [(.tmp 46)])⟩,[]),oG 42 (oM 48 2),oG 42 (oM 49 1),(⟨some 50,some (42,true),(.idx 2 (.tmp 49) (.const (.int .i64 0)))⟩,[]),(oG 42 (oA 2 51 50),[12]),(⟨some 52,some (42,true),(.call (.tmp 48) [(.tmp 51)])⟩,[]),oG 42 (oB .lss 53 47 52),oH 38 (oP 54 42 53),oO 55 38 54,oM 34 55]) (oJ 34 (oV (o6 [oM 56 3,oM 57 0,(⟨some 58,none,(.idx 2 (.tmp 57) (.const (.int .i64 0)))⟩,[]),oA 2 59 58,oA 2 60 8,oM 61 2,oM 62 0,(⟨some 63,none,(.idx 2 (.tmp 62) (.const (.int .i64 0)))⟩,[]),oA 2 64 63,(⟨some 65,none,(.call (.tmp 61) [(.tmp 64)])⟩,[3,4]),(⟨some 66,none,(.call (.tmp 56) [(.tmp 59),(.tmp 60),(.tmp 65)])⟩,[])]) (oR [oM 67 0,⟨some 68,none,(.slice 2 (.tmp 67) (some (.const (.int .i64 1))) none none)⟩,oM 0 68])) (oV (o6 [oM 70 0,oQ 71 70,oC .eql 72 71 0,oM 73 72,oH 73 (oM 74 2),oH 73 (oM 75 1),(⟨some 76,some (73,false),(.idx 2 (.tmp 75) (.const (.int .i64 0)))⟩,[]),oH 73 (oA 2 77 76),(⟨some 78,some (73,false),(.call (.tmp 74) [(.tmp 77)])⟩,[]),oH 73 (oM 79 2),oH 73 (oM 80 0),(⟨some 81,some (73,false),(.idx 2 (.tmp 80) (.const (.int .i64 0)))⟩,[]),(oH 73 (oA 2 82 81),[8]),(⟨some 83,some (73,false),(.call (.tmp 79) [(.tmp 82)])⟩,[]),oH 73 (oB .lss 84 78 83),oO 85 73 84,oM 69 85]) (oJ 69 (oV (o6 [oM 86 3,oA 2 87 8,oM 88 1,(⟨some 89,none,(.idx 2 (.tmp 88) (.const (.int .i64 0)))⟩,[]),oA 2 90 89,oM 91 2,oM 92 1,(⟨some 93,none,(.idx 2 (.tmp 92) (.const (.int .i64 0)))⟩,[]),oA 2 94 93,(⟨some 95,none,(.call (.tmp 91) [(.tmp 94)])⟩,[1,4]),(⟨some 96,none,(.call (.tmp 86) [(.tmp 87),(.tmp 90),(.tmp 95)])⟩,[])]) (oR [oM 97 1,⟨some 98,none,(.slice 2 (.tmp 97) (some (.const (.int .i64 1))) none none)⟩,oM 1 98])) (oV (o6 [oM 17 3,oM 18 0,(⟨some 19,none,(.idx 2 (.tmp 18) (.const (.int .i64 0)))⟩,[]),oA 2 20 19,oM 21 1,(⟨some 22,none,(.idx 2 (.tmp 21) (.const (.int .i64 0)))⟩,[]),oA 2 23 22,oM 24 2,oM 25 0,(⟨some 26,none,(.idx 2 (.tmp 25) (.const (.int .i64 0)))⟩,[]),oA 2 27 26,(⟨some 28,none,(.call (.tmp 24) [(.tmp 27)])⟩,[3,6]),(⟨some 29,none,(.call (.tmp 17) [(.tmp 20),(.tmp 23),(.tmp 28)])⟩,[])]) (o6 [oM 30 0,(⟨some 31,none,(.slice 2 (.tmp 30) (some (.const (.int .i64 1))) none none)⟩,[]),oM 32 1,(⟨some 33,none,(.slice 2 (.tmp 32) (some (.const (.int .i64 1))) none none)⟩,[]),oM 0 31,oM 1 33])))))))))
def zRb:ACode:=(oV (oR [⟨some 8,none,(.alloc [(.int .i64 0),(.int .u64 0)])⟩]) (o5 0 (.loop zLt)))
theorem zP8 (hB h:AHeap) (va vb p5 p6 fv:Value) (f:Nat->Nat->Nat) (hf:zTs fv f) (hfz:∀ x y,x<18446744073709551616->y<18446744073709551616->f x y<18446744073709551616) (A B:List LWd) (ka:SlW hB va A) (kb:SlW hB vb B) (la:A.length<=1000) (lb:B.length<=1000)
  (e:Ext hB h) (hm:hB.mark<=hB.n) (o5:OwnC hB h p5 [fv]) (o6:OwnC hB h p6 [.slice none 0 0]) (hne:p5≠p6):
  WC Tryz.prog tb 206 [va,vb,.func (.func 207) #[] #[],.func (.func 208) #[] #[p5,p6]] h fun r h'=>Ext hB h'/\∃ v b,hB.n<=b/\OwnC hB h' p6 [v]/\zFV b h' v (zq f A B)/\∀ g,p6= .pointer (some ⟨g,0,none⟩)->g<b:=by
 refine en 99 [] zRb ?_;refine WO.al ?_;intro p8 h0 e0 o8;refine go ?_;obtain⟨g8,g81,g82,rfl,g84⟩:=id o8;have o8:=o8.since e;have S0:PutS hB h0 h0.n p5 p6 fv []:=⟨e.trans e0,o5.ext e0,⟨(e.trans e0).n,QF _⟩,fun g eg=>by
  obtain⟨g',_,a,b,_⟩:=o5;rw[b]at eg;cases eg;have:=e0.n;omega,fun g eg=>by
  obtain⟨g',_,a,b,_⟩:=o6;rw[b]at eg;cases eg;have:=e0.n;omega,hne,_,o6.ext e0,OwnR.nil⟩
 have h86:Value.pointer (some ⟨g8,0,none⟩)≠p6:=fun eq=>by
  obtain⟨g',_,a,b,_⟩:=o6;rw[b]at eq;cases eq;omega
 have hb8:∀ g,Value.pointer (some ⟨g8,0,none⟩)= .pointer (some ⟨g,0,none⟩)->g<h0.n:=fun g eg=>by cases eg;exact g82
 generalize hbb:h0.n=bb at S0 hb8;generalize Value.pointer (some ⟨g8,0,none⟩)=p8 at *;clear e0 g81 g82 g84 o5 o6;refine WX.loopA [9,10,11,12,13,14,15,16,35,36,37,38,39,40,41,42,43,44,45,46,47,48,49,50,51,52,53,54,55,34,56,57,58,59,60,61,62,63,64,65,66,67,68,0,70,71,72,73,74,75,76,77,78,79,80,81,82,83,84,85,69,86,87,88,89,90,91,92,93,94,95,96,97,98,1,17,18,19,20,21,22,23,24,25,26,27,28,29,30,31,32,33,0,1] (by kernel_rfl) (fun p:List LWd×List LWd=>p.1.length+p.2.length) (fun p t h1=>∃ va' vb' out,zB t 0=va'/\zB t 1=vb'/\SlW hB va' p.1/\SlW hB vb' p.2/\PutS hB h1 bb p5 p6 fv out/\OwnC hB h1 p8 [I 0,W 0]/\Hid (zq f A B=out++zq f p.1 p.2)/\p.1.length<=1000/\p.2.length<=1000/\out.length+(p.1.length+p.2.length)<=2000) (A,B) ?_ ?_
 ·exact⟨va,vb,[],sl_,sl_,ka,kb,S0,o8,⟨rfl⟩,la,lb,by simp only[Gg];omega⟩
 clear S0 o8 ka kb la lb;rintro⟨a,b⟩ t h1 hsame ⟨va',vb',out,s0,s1,ka,kb,S,o8,hI,la,lb,lo⟩;simp only at ka kb hI la lb lo;have e1:=S.e;have ka1:=SlW.ext ka e1;have kb1:=SlW.ext kb e1;have hm1:h1.mark<=h1.n:=by have:=e1.mark;have:=e1.n;omega
 have hmB:h1.mark<=hB.n:=by have:=e1.mark;omega
 by_cases hA:0<a.length;case neg=>
  by_cases hBl:0<b.length;case neg=>
   refine go ?_;refine rtN ?_;obtain⟨e1,o5,⟨b1,b2⟩,h5,h6,hne,v,o6,ow⟩:=S;have:zq f a b=[]:=by
    have ha:a=[]:=Gq (by omega);have hb:b=[]:=Gq (by omega);subst ha hb;rw[zq]
   rw[hI.out,this,G2];exact⟨e1,v,bb,b1,o6,ow,h6⟩
  have hmg:=zKx (f:=f) hBl (.inl (by omega:a.length=0));have kaX:SlW (inC (zC 0 h1)) va' a:=ka1;have kbX:SlW (inC (zC 0 h1)) vb' b:=kb1;have o8X:OwnC hB (inC (zC 0 h1)) p8 [I 0,W 0]:=o8;obtain⟨cb,⟨rfl,y1,y2,y3⟩,pcb,hsb⟩:=yG kb1 hBl;have pcbX:=(pcb _ (Ext.refl _)).2;have pcbX:Piece (inC (zC 0 h1)) vb' (0 * 2) [I (b.getD 0 default).pos,W (b.getD 0 default).bits]:=pcbX;obtain⟨qa,qn,qk,hqv,hqb⟩:=zBY (i:=0) kb1 hBl;generalize b.getD 0 default=y at *;have hI:=hI.out.trans (congrArg (out++·) hmg);have hI:=Hid.mk hI;clear hmg;refine go ?_;refine WX.regionU2 0 rfl rfl ?_;refine goU ?_;refine zUm ?_;refine goU ?_;rw[zJM];refine WX.regionU2 0 rfl rfl ?_;refine goU ?_;refine zTr ?_;refine goU ?_;rw[zJM];refine WX.regionU2 0 rfl rfl ?_;refine goU ?_;refine WO.conV (WV.func (Z0 _ y)) ?_;rintro _ h2 ⟨rfl,e2⟩;refine nE e2 ?_;have S2:=S.enter e2;refine goU ?_;refine WO.conV (WV.func (zBB _ (inC h2) bb p5 p6 fv f hf out ⟨0,0⟩ y y.pos S2 (by decide) y1 (by omega) (hfz _ _ (by decide) y1) ⟨y2,y3⟩ (QF _))) ?_;rintro _ h3 ⟨S3,n3,w3,f3⟩;refine WO.nil ?_;refine zIJ (fun k hk=> ?_) n3 ?_
  ·rcases w3 k hk with h|h
   ·cases h
   ·have h:hB.n<=k:=h;omega
  have S4:=S3.leave e1;have o84:OwnC hB (ze h1 h3) p8 [I 0,W 0]:=f3 p8 _ (by have:=OwnC.ext (h:=inC (zC 0 h1)) o8 e2;exact this) h86 hb8;generalize ze h1 h3=h4 at S4 o84 |-;obtain⟨vb2,hsl,kb2⟩:=zAN (i:=1) kb hBl (by omega);refine goU ?_;refine WO.slLo (i:=1) (hy:=rfl) hsl ?_;refine go ?_;have hpl:=zA9 (p:=y.pos) (v:=f 0 y.bits) (out:=out);have hdl:(b.drop 1).length=b.length - 1:=GO ..;refine zA (a,b.drop 1) (by simp only;omega) ⟨va',vb2,_,sl_,sl_,ka,kb2,S4,o84,⟨?_⟩,la,by simp only;omega,by simp only;omega⟩;rw[zAZ];exact hI.out
 by_cases hBl:0<b.length;case neg=>
  have hmg:=zKi (f:=f) hA (.inl (by omega:b.length=0));have kaX:SlW (inC (zC 0 h1)) va' a:=ka1;have kbX:SlW (inC (zC 0 h1)) vb' b:=kb1;have o8X:OwnC hB (inC (zC 0 h1)) p8 [I 0,W 0]:=o8;obtain⟨ca,⟨rfl,y1,y2,y3⟩,pca,hsa⟩:=yG ka1 hA;have pcaX:=(pca _ (Ext.refl _)).2;have pcaX:Piece (inC (zC 0 h1)) va' (0 * 2) [I (a.getD 0 default).pos,W (a.getD 0 default).bits]:=pcaX;generalize a.getD 0 default=y at *;have hI:=hI.out.trans (congrArg (out++·) hmg);have hI:=Hid.mk hI;clear hmg;refine go ?_;refine WX.regionU2 0 rfl rfl ?_;refine goU ?_;refine zTn ?_;refine goU ?_;rw[zJM];refine WX.regionU2 0 rfl rfl ?_;refine goU ?_;refine WO.conV (WV.func (Z0 _ y)) ?_;rintro _ h2 ⟨rfl,e2⟩;refine nE e2 ?_;have S2:=S.enter e2;refine goU ?_;refine WO.conV (WV.func (zBB _ (inC h2) bb p5 p6 fv f hf out y ⟨0,0⟩ y.pos S2 y1 (by decide) (by omega) (hfz _ _ y1 (by decide)) ⟨y2,y3⟩ (QF _))) ?_;rintro _ h3 ⟨S3,n3,w3,f3⟩;refine WO.nil ?_;refine zIJ (fun k hk=> ?_) n3 ?_
  ·rcases w3 k hk with h|h
   ·cases h
   ·have h:hB.n<=k:=h;omega
  have S4:=S3.leave e1;have o84:OwnC hB (ze h1 h3) p8 [I 0,W 0]:=f3 p8 _ (by have:=OwnC.ext (h:=inC (zC 0 h1)) o8 e2;exact this) h86 hb8;generalize ze h1 h3=h4 at S4 o84 |-;obtain⟨va2,hsl,ka2⟩:=zAN (i:=1) ka hA (by omega);refine goU ?_;refine WO.slLo (i:=1) (hy:=rfl) hsl ?_;refine go ?_;have hpl:=zA9 (p:=y.pos) (v:=f y.bits 0) (out:=out);have hdl:(a.drop 1).length=a.length - 1:=GO ..;refine zA (a.drop 1,b) (by simp only;omega) ⟨va2,vb',_,sl_,sl_,ka2,kb,S4,o84,⟨?_⟩,by simp only;omega,lb,by simp only;omega⟩;rw[zAZ];exact hI.out
 have kaX:SlW (inC (zC 0 h1)) va' a:=ka1;have kbX:SlW (inC (zC 0 h1)) vb' b:=kb1;have o8X:OwnC hB (inC (zC 0 h1)) p8 [I 0,W 0]:=o8;obtain⟨ca,⟨rfl,x1,x2,x3⟩,pca,hsa⟩:=yG ka1 hA;have pcaX:=(pca _ (Ext.refl _)).2;have pcaX:Piece (inC (zC 0 h1)) va' (0 * 2) [I (a.getD 0 default).pos,W (a.getD 0 default).bits]:=pcaX;obtain⟨cb,⟨rfl,y1,y2,y3⟩,pcb,hsb⟩:=yG kb1 hBl;have pcbX:=(pcb _ (Ext.refl _)).2;have pcbX:Piece (inC (zC 0 h1)) vb' (0 * 2) [I (b.getD 0 default).pos,W (b.getD 0 default).bits]:=pcbX;obtain⟨qa,qn,qk,hqv,hqb⟩:=zBY (i:=0) kb1 hBl;obtain⟨ra,rn,rk,hrv,hrb⟩:=zBY (i:=0) ka1 hA;have hma:=fun h=>zKi (f:=f) hA (.inr h:b.length=0\/(a.getD 0 default).pos<(b.getD 0 default).pos);have hmb:=fun h=>zKx (f:=f) hBl (.inr h:a.length=0\/(b.getD 0 default).pos<(a.getD 0 default).pos);have hmc:=zRo (f:=f) hA hBl;generalize a.getD 0 default=x at *;generalize b.getD 0 default=y at *;have hma:=Hid.mk hma;have hmb:=Hid.mk hmb;have hmc:=Hid.mk hmc;refine go ?_;refine WX.regionU2 0 rfl rfl ?_;refine goU ?_;refine WO.conV (WV.func (Z0 _ x)) ?_;rintro _ h2 ⟨rfl,e2⟩;refine nE e2 ?_;have e3:Ext h1 (ze h1 (inC h2)):=zLH e2;have kaY:SlW (inC h2) va' a:=by have:=SlW.ext ka1 e3;exact this
 have kbY:SlW (inC h2) vb' b:=by have:=SlW.ext kb1 e3;exact this
 have pcbY:Piece (inC h2) vb' (0 * 2) [I y.pos,W y.bits]:=by have:=(pcb _ e3).2;exact this
 refine goU ?_;refine zLO ⟨qa,qn,qk,hqv,hqb⟩ ?_;refine goU ?_;refine WO.conV (WV.func (Z0 _ y)) ?_;rintro _ h4 ⟨rfl,e4⟩;refine nE e4 ?_;have e5:Ext h1 (ze h1 (inC h4)):=zHr e2 e4;by_cases hlt:x.pos<y.pos
 ·have hI:=Hid.mk (hI.out.trans (congrArg (out++·) (hma.out hlt)));clear hma hmb hmc;refine goU ?_;generalize ze h1 (inC h4)=h5 at e5 |-;have S:=S.ext e5;have o8:=o8.ext e5;have e15:=e1.trans e5;have hmB:h5.mark<=hB.n:=by have:=e15.mark;omega
  have kaX:SlW (inC (zC 0 h5)) va' a:=by have:=SlW.ext ka1 e5;exact this
  have o8X:OwnC hB (inC (zC 0 h5)) p8 [I 0,W 0]:=o8;have pcaX:Piece (inC (zC 0 h5)) va' (0 * 2) [I x.pos,W x.bits]:=by have:=(pca _ e5).2;exact this
  refine WX.regionU2 0 rfl rfl ?_;refine goU ?_;refine WO.conV (WV.func (Z0 _ x)) ?_;rintro _ h6 ⟨rfl,e6⟩;refine nE e6 ?_;have S2:=S.enter e6;refine goU ?_;refine WO.conV (WV.func (zBB _ (inC h6) bb p5 p6 fv f hf out x ⟨0,0⟩ x.pos S2 x1 (by decide) (by omega) (hfz _ _ x1 (by decide)) ⟨x2,x3⟩ (QF _))) ?_;rintro _ h3 ⟨S3,n3,w3,f3⟩;refine WO.nil ?_;refine zIJ (fun k hk=> ?_) n3 ?_
  ·rcases w3 k hk with h|h
   ·cases h
   ·have h:hB.n<=k:=h;omega
  have S4:=S3.leave e15;have o84:OwnC hB (ze h5 h3) p8 [I 0,W 0]:=f3 p8 _ (by have:=OwnC.ext (h:=inC (zC 0 h5)) o8 e6;exact this) h86 hb8;generalize ze h5 h3=h7 at S4 o84 |-;obtain⟨va2,hsl,ka2⟩:=zAN (i:=1) ka hA (by omega);refine goU ?_;refine WO.slLo (i:=1) (hy:=rfl) hsl ?_;refine go ?_;have hpl:=zA9 (p:=x.pos) (v:=f x.bits 0) (out:=out);have hdl:(a.drop 1).length=a.length - 1:=GO ..;refine zA (a.drop 1,b) (by simp only;omega) ⟨va2,vb',_,sl_,sl_,ka2,kb,S4,o84,⟨?_⟩,by simp only;omega,lb,by simp only;omega⟩;rw[zAZ];exact hI.out
 refine goU ?_;generalize ze h1 (inC h4)=h5 at e5 |-;clear e3 kaY kbY pcbY e2 e4 kaX kbX o8X pcaX pcbX;have S:=S.ext e5;have o8:=o8.ext e5;have e15:=e1.trans e5;have hmB:h5.mark<=hB.n:=by have:=e15.mark;omega
 have ka5:=SlW.ext ka1 e5;have kb5:=SlW.ext kb1 e5;have kaX:SlW (inC (zC 0 h5)) va' a:=ka5;have kbX:SlW (inC (zC 0 h5)) vb' b:=kb5;have o8X:OwnC hB (inC (zC 0 h5)) p8 [I 0,W 0]:=o8;have pcaX:Piece (inC (zC 0 h5)) va' (0 * 2) [I x.pos,W x.bits]:=by have:=(pca _ e5).2;exact this
 have pcbX:Piece (inC (zC 0 h5)) vb' (0 * 2) [I y.pos,W y.bits]:=by have:=(pcb _ e5).2;exact this
 refine WX.regionU2 0 rfl rfl ?_;refine goU ?_;refine WO.conV (WV.func (Z0 _ y)) ?_;rintro _ h2 ⟨rfl,e2⟩;refine nE e2 ?_;have e3:Ext h5 (ze h5 (inC h2)):=zLH e2;have kaY:SlW (inC h2) va' a:=by have:=SlW.ext ka5 e3;exact this
 have pcaY:Piece (inC h2) va' (0 * 2) [I x.pos,W x.bits]:=by have:=(pca _ (e5.trans e3)).2;exact this
 have hrb5:ra.block<h5.n:=QG hrb e5.n;have hqb5:qa.block<h5.n:=QG hqb e5.n;refine goU ?_;refine zLO ⟨ra,rn,rk,hrv,hrb5⟩ ?_;refine goU ?_;refine WO.conV (WV.func (Z0 _ x)) ?_;rintro _ h4 ⟨rfl,e4⟩;refine nE e4 ?_;have e6:Ext h5 (ze h5 (inC h4)):=zHr e2 e4;by_cases hgt:y.pos<x.pos
 ·have hI:=Hid.mk (hI.out.trans (congrArg (out++·) (hmb.out hgt)));clear hma hmb hmc;refine goU ?_;generalize ze h5 (inC h4)=h6 at e6 |-;have S:=S.ext e6;have o8:=o8.ext e6;have e16:=e15.trans e6;have hmB:h6.mark<=hB.n:=by have:=e16.mark;omega
  have kbX:SlW (inC (zC 0 h6)) vb' b:=by have:=SlW.ext kb5 e6;exact this
  have o8X:OwnC hB (inC (zC 0 h6)) p8 [I 0,W 0]:=o8;have pcbX:Piece (inC (zC 0 h6)) vb' (0 * 2) [I y.pos,W y.bits]:=by have:=(pcb _ (e5.trans e6)).2;exact this
  refine WX.regionU2 0 rfl rfl ?_;refine goU ?_;refine WO.conV (WV.func (Z0 _ y)) ?_;rintro _ h7 ⟨rfl,e7⟩;refine nE e7 ?_;have S2:=S.enter e7;refine goU ?_;refine WO.conV (WV.func (zBB _ (inC h7) bb p5 p6 fv f hf out ⟨0,0⟩ y y.pos S2 (by decide) y1 (by omega) (hfz _ _ (by decide) y1) ⟨y2,y3⟩ (QF _))) ?_;rintro _ h3 ⟨S3,n3,w3,f3⟩;refine WO.nil ?_;refine zIJ (fun k hk=> ?_) n3 ?_
  ·rcases w3 k hk with h|h
   ·cases h
   ·have h:hB.n<=k:=h;omega
  have S4:=S3.leave e16;have o84:OwnC hB (ze h6 h3) p8 [I 0,W 0]:=f3 p8 _ (by have:=OwnC.ext (h:=inC (zC 0 h6)) o8 e7;exact this) h86 hb8;generalize ze h6 h3=h8 at S4 o84 |-;obtain⟨vb2,hsl,kb2⟩:=zAN (i:=1) kb hBl (by omega);refine goU ?_;refine WO.slLo (i:=1) (hy:=rfl) hsl ?_;refine go ?_;have hpl:=zA9 (p:=y.pos) (v:=f 0 y.bits) (out:=out);have hdl:(b.drop 1).length=b.length - 1:=GO ..;refine zA (a,b.drop 1) (by simp only;omega) ⟨va',vb2,_,sl_,sl_,ka,kb2,S4,o84,⟨?_⟩,la,by simp only;omega,by simp only;omega⟩;rw[zAZ];exact hI.out
 have hI:=Hid.mk (hI.out.trans (congrArg (out++·) (hmc.out (by omega))));clear hma hmb hmc;refine goU ?_;generalize ze h5 (inC h4)=h6 at e6 |-;clear kaX kbX o8X pcaX pcbX kaY pcaY;have S:=S.ext e6;have o8:=o8.ext e6;have e16:=e15.trans e6;have hmB:h6.mark<=hB.n:=by have:=e16.mark;omega
 have kaX:SlW (inC (zC 0 h6)) va' a:=by have:=SlW.ext ka5 e6;exact this
 have kbX:SlW (inC (zC 0 h6)) vb' b:=by have:=SlW.ext kb5 e6;exact this
 have o8X:OwnC hB (inC (zC 0 h6)) p8 [I 0,W 0]:=o8;have pcaX:Piece (inC (zC 0 h6)) va' (0 * 2) [I x.pos,W x.bits]:=by have:=(pca _ (e5.trans e6)).2;exact this
 have pcbX:Piece (inC (zC 0 h6)) vb' (0 * 2) [I y.pos,W y.bits]:=by have:=(pcb _ (e5.trans e6)).2;exact this
 refine WX.regionU2 0 rfl rfl ?_;refine goU ?_;refine WO.conV (WV.func (Z0 _ x)) ?_;rintro _ h7 ⟨rfl,e7⟩;refine nE e7 ?_;have S2:=S.enter e7;refine goU ?_;refine WO.conV (WV.func (zBB _ (inC h7) bb p5 p6 fv f hf out x y x.pos S2 x1 y1 (by omega) (hfz _ _ x1 y1) ⟨x2,x3⟩ (QF _))) ?_;rintro _ h3 ⟨S3,n3,w3,f3⟩;refine WO.nil ?_;refine zIJ (fun k hk=> ?_) n3 ?_
 ·rcases w3 k hk with h|h
  ·cases h
  ·have h:hB.n<=k:=h;omega
 have S4:=S3.leave e16;have o84:OwnC hB (ze h6 h3) p8 [I 0,W 0]:=f3 p8 _ (by have:=OwnC.ext (h:=inC (zC 0 h6)) o8 e7;exact this) h86 hb8;generalize ze h6 h3=h8 at S4 o84 |-;obtain⟨va2,hsa2,ka2⟩:=zAN (i:=1) ka hA (by omega);obtain⟨vb2,hsb2,kb2⟩:=zAN (i:=1) kb hBl (by omega);refine goU ?_;refine WO.slLo (i:=1) (hy:=rfl) hsa2 ?_;refine go ?_;refine WO.slLo (i:=1) (hy:=rfl) hsb2 ?_;refine go ?_;have hpl:=zA9 (p:=x.pos) (v:=f x.bits y.bits) (out:=out);have hda:(a.drop 1).length=a.length - 1:=GO ..;have hdb:(b.drop 1).length=b.length - 1:=GO ..;refine zA (a.drop 1,b.drop 1) (by simp only;omega) ⟨va2,vb2,_,sl_,sl_,ka2,kb2,S4,o84,⟨?_⟩,by simp only;omega,by simp only;omega,by simp only;omega⟩;rw[zAZ];exact hI.out
set_option maxRecDepth 100000
def zDY (A B:List LWd):Int:=if yJ (-1) A&&yJ (-1) B then 0 else 8
def zGC (f:Nat->Nat->Nat) (A B:List LWd):List LWd:=if yJ (-1) A&&yJ (-1) B then zq f A B else []
def MineW (h h':AHeap) (v:Value) (s:List LWd):Prop:=∃ b,h.n<=b/\zFV b h' v s
theorem MineW.sl {h h' v s} (m:MineW h h' v s):SlW h' v s:=let ⟨_,_,o⟩:=m;OwnR.sl o
theorem MineW.ext {h h1 h2 v s} (m:MineW h h1 v s) (e:Ext h1 h2):MineW h h2 v s:=let ⟨b,hb,o⟩:=m;⟨b,hb,OwnR.ext o e⟩
theorem MineW.nil {h h':AHeap}:MineW h h' (.slice none 0 0) []:=⟨h.n,QF _,OwnR.nil⟩
section
variable {P:Program} {tab:Tab} {t:Trie Value} {h:AHeap} {ds:List Deferred} {rd:Option Nat} {l:List AOper} {Q:AFr->AHeap->Prop}
theorem WO.max2 {d:Nat} {x y:Operand} {a b r:Int} (hr:r=if a<b then b else a) (k:WO P tab l ⟨t.set d (I r),ds,rd⟩ h Q) (hx:Ope t x (I a):=by exact zU) (hy:Ope t y (I b):=by exact zU):WO P tab (⟨some d,none,.maxmin true [x,y]⟩::l) ⟨t,ds,rd⟩ h Q:=by
 have hx:ev t x=I a:=hx;have hy:ev t y=I b:=hy;refine WO.op (I r) h rfl ?_ k;subst hr;simp only[aop,hx,hy,Qh,G4];rfl
end
def zSu:ACode:=(oV (oR [oX 5 2,⟨some 6,none,(.alloc [(.slice none 0 0)])⟩,oN 7 0]) (oV (oV (oR [oM 9 0,o1 10 82 9,oM 11 1,o1 12 82 11,⟨some 13,none,(.maxmin true [(.tmp 10),(.tmp 12)])⟩,oM 8 13]) (oV (oR [oM 14 8,oC .neq 15 14 0]) (oJ 15 (oV (oR [oM 16 8,⟨none,none,(.store 1 (.tmp 6) (.const (.slice none 0 0)))⟩,oM 7 16]) .ret) .skip))) (oV (oR [oM 17 0,oM 18 1,⟨some 19,none,(.mkFunc (.func 208) [] [(.tmp 5),(.tmp 6)])⟩,⟨some 20,none,(.call (.func 206) [(.tmp 17),(.tmp 18),(.func 207),(.tmp 19)])⟩]) (oV (oR [oL 21 6,oS 1 6 21,oN 7 0]) .ret))))
theorem zLL (h:AHeap) (va vb fv:Value) (f:Nat->Nat->Nat) (hf:zTs fv f) (hfz:∀ x y,x<18446744073709551616->y<18446744073709551616->f x y<18446744073709551616) (hfc:fv.cells=#[fv]) (A B:List LWd) (ka:SlW h va A) (kb:SlW h vb B) (la:A.length<=1000) (lb:B.length<=1000) (hm:h.mark<=h.n):
  WC Tryz.prog tb 183 [va,vb,fv] h fun r h'=>(∃ v,r= .tuple #[v,I (zDY A B)]/\MineW h h' v (zGC f A B))/\Ext h h':=by
 refine en 22 [(6,some (false,1)),(7,none)] zSu ?_;refine WO.bx ?_;intro p5 h1 e1 o5;rw[hfc]at o5;have o5:OwnC h h1 p5 [fv]:=o5;refine go ?_;refine WO.al ?_;intro p6 h2 e2 o6;have o5':=o5.ext e2;have e12:=e1.trans e2;have hne:p5≠p6:=fun e=>by
  obtain⟨g,_,g2,a,_⟩:=o5;obtain⟨g',g1,_,b,_⟩:=o6;rw[a,b]at e;cases e;omega
 have ka2:=SlW.ext ka e12;refine go ?_;refine WO.con (zCw h2 va A ka2 (by omega)) ?_;rintro _ h3 ⟨rfl,e3⟩;have kb3:=SlW.ext kb (e12.trans e3);refine go ?_;refine WO.con (zCw h3 vb B kb3 (by omega)) ?_;rintro _ h4 ⟨rfl,e4⟩;have e14:=e12.trans (e3.trans e4);have o5:=o5'.ext (e3.trans e4);have o6:=o6.ext (e3.trans e4);have o6h:=o6.since e1;have hm4:h4.mark<=h4.n:=by have:=e14.mark;have:=e14.n;omega
 refine go ?_;refine WO.max2 (a:=zI6 (yJ (-1) A)) (b:=zI6 (yJ (-1) B)) (r:=zDY A B) (by unfold zDY zI6;cases yJ (-1) A<;>cases yJ (-1) B<;>rfl) ?_;have hE:zDY A B=if (yJ (-1) A&&yJ (-1) B)=true then 0 else 8:=rfl;have hL:zGC f A B=if (yJ (-1) A&&yJ (-1) B)=true then zq f A B else []:=rfl;by_cases hc:(yJ (-1) A&&yJ (-1) B)=true
 ·rw[QH hc]at hE hL;rw[hE,hL];refine go ?_;refine WO.con (zP8 h h4 va vb p5 p6 fv f hf hfz A B ka kb la lb e14 hm o5 o6h hne) ?_;rintro _ h5 ⟨e5,v,b,hb,o65,ow,h6b⟩;obtain⟨va',vn',vk',rfl,hvn⟩:=YW ow;refine go ?_;refine WO.stC0 (cs:=[.slice va' vn' vk']) o65 e5 ?_;intro h6 e6 o66 u6;refine go ?_;refine rt (vs:=[.slice va' vn' vk',I 0]) ?_ (Res.consB sl_ o66 rfl (Res.cons sl_ Res.nil));exact⟨⟨_,rfl,b,hb,OwnR.upd ow (fun k k1 k2=>u6.2 k k2 fun e=>by have:=h6b k e;omega) u6.1⟩,e6⟩
 ·rw[QC hc]at hE hL;rw[hE,hL];refine go ?_;refine WO.stC0 (cs:=[.slice none 0 0]) o6h e14 ?_;intro h6 e6 o66 u6;refine go ?_;refine rt (vs:=[.slice none 0 0,I 8]) ?_ (Res.consB sl_ o66 rfl (Res.cons sl_ Res.nil));exact⟨⟨_,rfl,MineW.nil⟩,e6⟩
theorem bit_or:Bitw (fun a b=>a|||b) (fun a b=>a||b):=⟨rfl,fun a b ha hb=>⟨(zNy ha hb).2,fun i=>Nat.testBit_or ..⟩⟩
theorem bit_not:Bitw zC3 (fun a b=>a&& !b):=⟨rfl,fun a b ha hb=>(zPf ha hb).2⟩
def zQ4:ACode:=(oV (oR [oK 4 (.slice none 0 0),oN 5 0]) (oV (oR [oM 6 0,oM 7 1,⟨some 8,none,(.call (.func 183) [(.tmp 6),(.tmp 7),(.func 184)])⟩,oE 9 8 0,oE 10 8 1,oM 4 9,oM 5 10]) .ret))
theorem zTF (h:AHeap) (va vb:Value) (A B:List LWd) (ka:SlW h va A) (kb:SlW h vb B) (la:A.length<=1000) (lb:B.length<=1000) (hm:h.mark<=h.n):
  WC Tryz.prog tb 133 [va,vb] h fun r h'=>(∃ v,r= .tuple #[v,I (zDY A B)]/\MineW h h' v (zGC (fun a b=>a|||b) A B))/\Ext h h':=by
 refine en 11 [(4,none),(5,none)] zQ4 ?_;refine WO.con (zLL h va vb (.func (.func 184) #[] #[]) (fun a b=>a|||b) (fun h a b ha hb=>WV.func (zUF h a b ha hb)) (fun x y hx hy=>(bit_or.bit x y hx hy).1) rfl A B ka kb la lb hm) ?_;rintro _ h1 ⟨⟨v,rfl,m⟩,e1⟩;refine gr ?_;exact⟨⟨v,rfl,m⟩,e1⟩
def zSC:ACode:=(oV (oR [oK 4 (.slice none 0 0),oN 5 0]) (oV (oR [oM 6 0,oM 7 1,⟨some 8,none,(.call (.func 183) [(.tmp 6),(.tmp 7),(.func 187)])⟩,oE 9 8 0,oE 10 8 1,oM 4 9,oM 5 10]) .ret))
theorem zP9 (h:AHeap) (va vb:Value) (A B:List LWd) (ka:SlW h va A) (kb:SlW h vb B) (la:A.length<=1000) (lb:B.length<=1000) (hm:h.mark<=h.n):
  WC Tryz.prog tb 137 [va,vb] h fun r h'=>(∃ v,r= .tuple #[v,I (zDY A B)]/\MineW h h' v (zGC zC3 A B))/\Ext h h':=by
 refine en 11 [(4,none),(5,none)] zSC ?_;refine WO.con (zLL h va vb (.func (.func 187) #[] #[]) zC3 (fun h a b ha hb=>WV.func (zM9 h a b ha hb)) (fun x y hx hy=>(bit_not.bit x y hx hy).1) rfl A B ka kb la lb hm) ?_;rintro _ h1 ⟨⟨v,rfl,m⟩,e1⟩;refine gr ?_;exact⟨⟨v,rfl,m⟩,e1⟩
set_option maxRecDepth 100000
theorem zVO {a b:LWd} (h1:a.pos=b.pos) (h2:a.bits=b.bits):a=b:=by cases a;cases b;cases h1;cases h2;rfl
theorem zTZ {A B:List LWd} (hl:A.length=B.length) (h:∀ i,i<A.length->A.getD i default=B.getD i default):A=B:=by
 refine List.ext_getElem hl fun i h1 h2=> ?_;have:=h i h1;rwa [QE,QE,QB h1,QB h2]at this
theorem zVn (x y:LWd):Yd [I x.pos,W x.bits] [I y.pos,W y.bits]=decide (x=y):=by
 by_cases h:x=y
 ·subst h;simp[Yd,zDh,I]
 ·rw[QR h];cases hb:Yd [I x.pos,W x.bits] [I y.pos,W y.bits]with
  |false=>rfl
  |true=>
   exfalso;simp[Yd,zDh,I]at hb;exact h (zVO hb.1 (by omega))
def zM2:ACode:=(oV (oR [oB .lss 14 13 12]) (oV (oT 14 0) (oV (o5 1 (oV (oR [oM 15 13,oM 5 15]) (oV (o6 [oM 16 0,oM 17 5,oI 2 18 16 17,oA 2 19 18,oM 20 1,oM 21 5,oI 2 22 20 21,oA 2 23 22,(⟨some 24,none,(.binP .neq 207 (.tmp 19) (.tmp 23))⟩,[])]) (oJ 24 (oV (oR [oZ 4]) .ret) .skip)))) (oR [oC .add 25 13 1,oM 13 25]))))
def zQe:ACode:=(oV (oR [oZ 4]) (oV (oV (oR [oM 6 0,oQ 7 6,oM 8 1,oQ 9 8,oB .neq 10 7 9]) (oJ 10 (oV (oR [oZ 4]) .ret) .skip)) (oV (oV (oR [oM 11 0,oQ 12 11,oN 13 0]) (o5 0 (.loop zM2))) (oV (oR [oK 4 (.bool true)]) .ret))))
theorem zPj (h:AHeap) (va vb:Value) (A B:List LWd) (ka:SlW h va A) (kb:SlW h vb B) (la:(A.length:Int)<=1000000000):WC Tryz.prog tb 185 [va,vb] h fun r h'=>r= .bool (decide (A=B))/\h=h':=by
 refine en 26 [(4,none)] zQe ?_;by_cases hl:A.length=B.length;case neg=>
  refine gr ?_;exact⟨by rw[QR (fun e=>hl (by rw[e]))];rfl,rfl⟩
 refine go ?_;refine WX.loopA [14,15,5,16,17,18,19,20,21,22,23,24,4,25,13] (by kernel_rfl) (fun i=>A.length - i) (fun i t h1=>h=h1/\zB t 13=I i/\i<=A.length/\Hid (∀ j,j<i->A.getD j default=B.getD j default)) 0 ?_ ?_
 ·exact⟨rfl,sl_,QW _,⟨fun j hj=>absurd hj (GH _)⟩⟩
 rintro i t _ hsame ⟨rfl,s13,hi,hI⟩;refine go ?_;refine WX.br (fun hb=> ?_) (fun hb=> ?_)<;>simp only[DB]at hb
 ·obtain⟨ca,⟨rfl,x1,x2,x3⟩,pca,hsa⟩:=zDZ ka (show i<A.length by omega);obtain⟨cb,⟨rfl,y1,y2,y3⟩,pcb,hsb⟩:=zDZ kb (show i<B.length by omega);refine go ?_;refine WO.bp (zTX (xs:=#[I (A.getD i default).pos,W (A.getD i default).bits]) (ys:=#[I (B.getD i default).pos,W (B.getD i default).bits]) (b:=decide (A.getD i default=B.getD i default)) (by kernel_rfl) (zVn _ _)) ?_;refine go ?_;repeat' (first|(refine WX.br (fun hb=> ?_) (fun hb=> ?_)<;>(try simp only[DB]at hb)<;>refine go ?_)|(refine WO.sp (fun hb=> ?_) (fun hb=> ?_)<;>(try simp only[DB]at hb)<;>refine go ?_))
  ·refine rt ?_;refine⟨?_,rfl⟩;rw[QR (fun e=>by subst e;exact hb rfl)];rfl
  ·refine zA (i+1) (by omega) ⟨rfl,sln,by omega,⟨fun j hj=> ?_⟩⟩;by_cases e:j=i
   ·subst e;exact hb
   ·exact hI.out j (by omega)
 ·refine gr ?_;exact⟨by rw[QX (zTZ hl fun j hj=>hI.out j (by omega))];rfl,rfl⟩
def zRI:ACode:=(oV (oR [oZ 4]) (oV (oR [oM 5 0,oM 6 1,o2 7 185 5 6,oM 4 7]) .ret))
theorem zQT (h:AHeap) (va vb:Value) (A B:List LWd) (ka:SlW h va A) (kb:SlW h vb B) (la:(A.length:Int)<=1000000000):WC Tryz.prog tb 135 [va,vb] h fun r h'=>r= .bool (decide (A=B))/\h=h':=by
 refine en 8 [(4,none)] zRI ?_;refine WO.con (zPj h va vb A B ka kb la) ?_;rintro _ _ ⟨rfl,rfl⟩;refine gr ?_;exact⟨rfl,rfl⟩
set_option maxRecDepth 100000
structure ExtN (h h':AHeap):Prop where
 n:h.n<=h'.n
 get:∀ g,g<h.n->h'.get g=h.get g
 wf:Wf h->Wf h'
theorem ExtN.of {h h':AHeap} (e:Ext h h'):ExtN h h':=⟨e.n,e.get,e.wf⟩
theorem ExtN.trans {a b c:AHeap} (h:ExtN a b) (k:ExtN b c):ExtN a c:=⟨QV h.n k.n,fun g hg=>(k.get g (QG hg h.n)).trans (h.get g hg),fun w=>k.wf (h.wf w)⟩
theorem ExtN.to {h h':AHeap} (e:ExtN h h'):Ext {h with mark:=h'.mark,wr:=h'.wr} h':=⟨e.n,e.get,fun w=>e.wf w,rfl,fun _=>rfl⟩
theorem ZG {h v s} (k:SlW h v s):∃ a n m,v= .slice a n m:=let ⟨_,a,_⟩:=k;a.shape
theorem SlW.extN {h h' v s} (k:SlW h v s) (e:ExtN h h'):SlW h' v s:=by
 have:=SlW.ext (h:={h with mark:=h'.mark,wr:=h'.wr}) (by exact k) e.to;exact this
theorem TzT.extN {h h'} (T:TzT h) (e:ExtN h h'):TzT h':=by
 have:=TzT.ext (h:={h with mark:=h'.mark,wr:=h'.wr}) (by exact T) e.to;exact this
theorem zIQ (w:LWd) (s:List LWd):zx (w::s)=(zAa w.bits).map (fun k:Nat=>64 * w.pos+(k:Int))++zx s:=rfl
theorem zMp {l r:List Int} {j:Nat} {x:Int} (h:l.drop j=x::r):j<l.length/\l.getD j 0=x/\l.drop (j+1)=r:=by
 have hj:j<l.length:=by
  rcases GG j l.length with h1|h1
  ·exact h1
  ·rw[G8 h1]at h;cases h
 rw[Qt hj]at h;cases h;exact⟨hj,by rw[QE,QB hj];rfl,rfl⟩
def zMw:ACode:=(oV (oV (oR [oM 14 5,⟨some 15,none,(.bin .neq (.tmp 14) (.const (.int .u64 0)))⟩]) (oT 15 2)) (oV (o5 3 (oV (o6 [oM 20 0,oF 0 21 4,oL 22 21,(⟨some 23,none,(.bin .mul (.const (.int .i64 64)) (.tmp 22))⟩,[]),oM 24 5,(o1 25 132 24,[2]),oB .add 26 23 25,(⟨some 27,none,(.call (.tmp 20) [(.tmp 26)])⟩,[]),oW 28 27]) (oJ 28 .ret .skip))) (oR [oM 16 5,oM 17 5,⟨some 18,none,(.bin .sub (.tmp 17) (.const (.int .u64 1)))⟩,oB .and 19 16 18,oM 5 19])))
def zLz:ACode:=(oV (oR [oB .lss 9 8 7]) (oV (oT 9 0) (oV (o5 1 (oV (oR [oI 2 10 6 8,oA 2 11 10,⟨some 4,none,(.alloc [(.int .i64 0),(.int .u64 0)])⟩,oS 2 4 11]) (oV (oR [oF 1 12 4,oL 13 12,oM 5 13]) (o5 2 (.loop zMw))))) (oR [oC .add 29 8 1,oM 8 29]))))
def zS6:ACode:=(oV (oR [oL 6 1,oQ 7 6,oN 8 0]) (o5 0 (.loop zLz)))
theorem zIH (hA hB h:AHeap) (y p v:Value) (s:List LWd) (ok:OkW s) (hl:(s.length:Int)<=1000000000) (J:Nat->(Nat->Prop)->AHeap->Prop) (W0:Nat->Prop) (h0:J 0 W0 h) (o:OwnC hA h p [v]) (k:SlW hB v s) (T:TzT hB) (eB:ExtN hB h) (hm:h.mark<=hB.n)
  (hp:∀ i Wr h',J i Wr h'->ExtN hB h'/\∀ k,Wr k->hB.n<=k/\k<h'.n) (hk:∀ i Wr h' h'',J i Wr h'->ExtN h' h''->J i Wr h'')
  (hy:∀ i Wr h',i<(zx s).length->J i Wr h'->h'.mark<=h'.n->WV Tryz.prog tb y [I ((zx s).getD i 0)] h' fun r h''=>r= .bool true/\h'.n<=h''.n/\(∀ k,k<h'.n->¬Wr k->h''.get k=h'.get k)/\(∀ g∈h''.wr,g∈h'.wr\/hB.n<=g)/\∃ Wr',J (i+1) Wr' h''/\∀ k,Wr' k->Wr k\/h'.n<=k):
  WC Tryz.prog tb 131 [y,p] h fun _ h'=>(∃ Wr,J (zx s).length Wr h')/\h'.mark=h.mark/\h'.wr=h.wr:=by
 have kh:=k.extN eB;have hp:=Hid.mk hp;have hk:=Hid.mk hk;have hy:=Hid.mk hy;have ok:=Hid.mk ok;obtain⟨_,_,_,rfl⟩:=ZG k;refine en 30 [] zS6 ?_;refine WX.loopA [9,10,11,4,12,13,5,14,15,20,21,22,23,24,25,26,27,28,16,17,18,19,5,29,8] (by kernel_rfl) (fun i=>s.length - i) (fun i t h1=>∃ j Wr,zB t 8=I i/\i<=s.length/\j<=(zx s).length/\J j Wr h1/\ExtN hB h1/\h1.mark=h.mark/\h1.wr=h.wr/\Hid ((zx s).drop j=zx (s.drop i))) 0 ?_ ?_
 ·exact⟨0,W0,sl_,QW _,QW _,h0,eB,rfl,rfl,⟨rfl⟩⟩
 clear h0 eB kh;rintro i t h1 hsame ⟨j,Wr,s8,hi,hjl,j1,e1,m1,r1,hI⟩;have k1:=k.extN e1;refine go ?_;refine WX.br (fun hb=> ?_) (fun hb=> ?_)<;>simp only[DB]at hb
 ·have hi':i<s.length:=by omega
  obtain⟨cs,⟨rfl,w1,w2,w3⟩,pc,hs⟩:=zDZ k1 hi';have hd:=hI.out;rw[zGG hi',zIQ]at hd;have hw4:=ok.out.each (s.getD i default) (by rw[QE,QB hi'];exact JE hi');generalize s.getD i default=w at *;have hd:=Hid.mk hd;refine go ?_;refine WO.al ?_;intro p4 h2 e2 o4;refine go ?_;refine WO.stC0 (cs:=[I w.pos,W w.bits]) o4 e2 ?_;intro h3 e3 o43 u3;refine go ?_;obtain⟨g4,g41,g42,rfl,g44⟩:=id o43;refine WX.loopA [14,15,20,21,22,23,24,25,26,27,28,16,17,18,19,5] (by kernel_rfl) (fun rest=>rest) (fun rest t h4=>∃ j Wr,zB t 5=W rest/\j<=(zx s).length/\rest<18446744073709551616/\J j Wr h4/\ExtN hB h4/\h4.mark=h.mark/\h4.wr=h.wr/\OwnC h1 h4 (.pointer (some ⟨g4,0,none⟩)) [I w.pos,W w.bits]/\¬Wr g4/\Hid ((zx s).drop j=(zAa rest).map (fun k:Nat=>64 * w.pos+(k:Int))++zx (s.drop (i+1)))) w.bits ?_ ?_
  ·refine⟨j,Wr,sl_,hjl,w1,hk.out _ _ _ _ j1 (ExtN.of e3),e1.trans (ExtN.of e3),e3.mark.trans m1,?_,o43,fun hw=> ?_,hd⟩
   ·have:=e1.n;rw[e3.wr (by rw[m1];omega)];exact r1
   ·have:=((hp.out _ _ _ j1).2 _ hw).2;omega
  clear hd hI j1 e1 m1 r1 k1 pc hs e2 o4 u3 o43 e3 g44;rintro rest t4 h4 hsame4 ⟨j,Wr,s5,hjl,hr,j4,e4,m4,r4,o4,hw,hI⟩;refine go ?_;refine WX.br (fun hb2=> ?_) (fun hb2=> ?_)<;>simp only[DB]at hb2
  ·have hr0:rest≠0:=by omega
   obtain⟨kk,L⟩:=low hr0 hr;have hlt:=L.lt;have hI:=hI.out;rw[L.list,Qh,List.cons_append]at hI;obtain⟨hj1,hj2,hj3⟩:=zMp hI;have hI:=Hid.mk hj3;have hless:=L.less;refine go ?_;refine WX.regionU2 0 rfl rfl ?_;have o4X:OwnC h1 (inC (zC 0 h4)) (.pointer (some ⟨g4,0,none⟩)) [I w.pos,W w.bits]:=o4;have TX:TzT (inC (zC 0 h4)):=by have:=T.extN e4;exact this
   refine goU ?_;refine WO.con (zOL _ rest kk TX hr hr0 L) ?_;rintro _ _ ⟨rfl,rfl⟩;refine nE (Ext.refl _) ?_;refine goU ?_;have hyy:=hy.out j Wr (inC (inC (zC 0 h4))) hj1 (hk.out _ _ _ _ j4 ⟨QF _,fun _ _=>rfl,id⟩) (QF _);rw[hj2]at hyy;refine WO.conV hyy ?_;rintro _ h5 ⟨rfl,n5,k5,w5,Wr',j5,hW'⟩;refine WO.nil ?_;refine zP6 (fun k hk=> ?_) n5 (fun cl'=> ?_)
   ·rcases w5 k hk with h|h
    ·cases h
    ·rw[m4];omega
   refine goU ?_;have n5:h4.n<=h5.n:=n5;have o45:OwnC h1 (ze h4 (inC h5)) (.pointer (some ⟨g4,0,none⟩)) [I w.pos,W w.bits]:=by
    obtain⟨q,q1,q2,q3,q4⟩:=o4;cases q3;exact⟨g4,q1,QG q2 n5,rfl,(k5 g4 q2 hw).trans q4⟩
   have j6:=hk.out _ _ _ (ze h4 (inC h5)) j5 ⟨QF _,fun _ _=>rfl,id⟩;have e5:ExtN hB (ze h4 (inC h5)):=(hp.out _ _ _ j6).1;have m6:(ze h4 (inC h5)).mark=h.mark:=m4;have r6:(ze h4 (inC h5)).wr=h.wr:=r4;have hw6:¬Wr' g4:=fun hW=>by
    rcases hW' g4 hW with h|h
    ·exact hw h
    ·obtain⟨q,q1,q2,q3,q4⟩:=o4;cases q3;have:h4.n<=g4:=h;omega
   generalize ze h4 (inC h5)=h6 at *;refine WO.bin zU rfl (zVL (a:=rest) (b:=1) hr (by omega)) ?_;refine go ?_;refine WO.bin zU zU (zTI (a:=rest) (b:=rest - 1) hr (by omega)) ?_;refine go ?_;exact zA (rest&&& (rest - 1)) hless ⟨j+1,Wr',sl_,hj1,Nat.lt_trans hless hr,j6,e5,m6,r6,o45,hw6,hI⟩
  ·have hr0:rest=0:=by omega
   subst hr0;refine go ?_;have hI:=hI.out;rw[zJk]at hI;exact zA (i+1) (by omega) ⟨j,Wr,sln,by omega,hjl,j4,e4,m4,r4,⟨hI⟩⟩
 ·refine go ?_;refine rtN ?_;have hI:=hI.out;rw[show i=s.length by omega,List.drop_length,show zx []=[] from rfl]at hI;have hje:j=(zx s).length:=by
   have:=congrArg List.length hI;rw[GO,Gg]at this;omega
  subst hje;exact⟨⟨Wr,j1⟩,m1,r1⟩
def zTo:ACode:=(oV (oR [oX 1 0,⟨some 2,none,(.mov (.const .nilFunc))⟩]) (oV (oR [⟨some 3,none,(.mkFunc (.func 131) [] [(.tmp 1)])⟩,oM 2 3]) .ret))
theorem zJe (h:AHeap) (v:Value) (s:List LWd) (k:SlW h v s):WC Tryz.prog tb 83 [v] h fun r h'=>(∃ p,r= .func (.func 131) #[] #[p]/\OwnC h h' p [v])/\Ext h h':=by
 obtain⟨_,_,_,rfl⟩:=ZG k;refine en 4 [(2,none)] zTo ?_;refine WO.bx ?_;intro p h1 e1 o1;refine gr ?_;exact⟨⟨p,rfl,o1⟩,e1⟩
theorem Lies.extN {h h':AHeap} {g:Nat} {o:AObj} (k:Lies h g o) (e:ExtN h h'):Lies h' g o:=⟨QG k.1 e.n,(e.get g k.1).trans k.2⟩
theorem OwnC.extN {h0 h h' p cells} (o:OwnC h0 h p cells) (e:ExtN h h'):OwnC h0 h' p cells:=by
 obtain⟨g,a,b,c,d⟩:=o;exact⟨g,a,QG b e.n,c,(e.get g b).trans d⟩
theorem OwnN.extN {h0 h h' v xs} (o:OwnN h0 h v xs) (e:ExtN h h'):OwnN h0 h' v xs:=by
 rcases o with o|⟨g,a,b,c,d⟩
 ·exact .inl o
 ·exact .inr ⟨g,a,QG b e.n,c,(e.get g b).trans d⟩
theorem zIc {h0 h1 h:AHeap} {p v:Value} {a:Option Addr} {n k:Nat} {cs:List Value} {xs:List Int} (o:OwnC h0 h p (.slice a n k::cs)) (i:OwnN h1 h v xs):∀ b m c,v= .slice (some b) m c->p≠ .pointer (some ⟨b.block,0,none⟩):=by
 intro b m c hv hp;obtain⟨g,_,_,rfl,hg⟩:=o;rcases i with ⟨rfl,_⟩|⟨g2,_,_,rfl,hg2⟩
 ·cases hv
 ·cases hv;cases hp;rw[hg]at hg2;cases xs with
  |nil=>cases hg2
  |cons x xs=>cases hg2
theorem zMC {h0 h h':AHeap} {p v:Value} {a:Option Addr} {n k:Nat} {cs:List Value} {xs:List Int} (o:OwnC h0 h p (.slice a n k::cs)) (i:OwnN h0 h v xs) (u:Upd v h h'):OwnC h0 h' p (.slice a n k::cs):=by
 have hne:=zIc o i;obtain⟨g,g1,g2,rfl,hg⟩:=o;exact⟨g,g1,QG g2 u.1,rfl,(u.2 g g2 fun b m c hv e=>hne b m c hv (by rw[e])).trans hg⟩
theorem zEH {h0 h h':AHeap} {p v:Value} {a:Option Addr} {n k:Nat} {cs:List Value} {xs:List Int} (i:OwnI h0 h v xs) (o:OwnC h0 h p (.slice a n k::cs)) (u:UpdC p h h'):OwnI h0 h' v xs:=by
 have hne:=zIc o (.inr i);obtain⟨g,g1,g2,rfl,hg⟩:=i;exact⟨g,g1,QG g2 u.1,rfl,(u.2 g g2 fun e=>hne _ _ _ rfl e).trans hg⟩
def zVI:ACode:=(oV (oR [⟨some 2,none,(.alloc [(.slice none 0 0)])⟩,oN 3 0]) (oV (oV (oR [oM 6 0,o1 7 82 6,oM 4 7]) (oV (oR [oM 8 4,oC .neq 9 8 0]) (oJ 9 (oV (oR [oM 10 4,⟨none,none,(.store 1 (.tmp 2) (.const (.slice none 0 0)))⟩,oM 3 10]) .ret) .skip))) (oV (oV (oR [oM 11 0,o1 12 83 11]) (o5 0 (.rangeFunc (.tmp 12) [13] (oR [oM 5 13]) (o5 1 (oR [oL 14 2,oM 15 5,⟨some 16,none,(.buildSlice 1 1 [(.int .i64 0)] [(0,1,(.tmp 15))])⟩,oY 1 17 14 16,oS 1 2 17]))))) (oV (oR [oL 18 2,oS 1 2 18,oN 3 0]) .ret))))
theorem zRZ (h:AHeap) (v:Value) (s:List LWd) (k:SlW h v s) (T:TzT h) (hl:(s.length:Int)<=1000000) (hm:h.mark<=h.n):
  WC Tryz.prog tb 48 [v] h fun r h'=>(∃ w,r= .tuple #[w,I (zI6 (yJ (-1) s))]/\OwnN h h' w (if yJ (-1) s then zx s else []))/\Ext h h':=by
 refine en 19 [(2,some (false,1)),(3,none)] zVI ?_;refine WO.al ?_;intro p2 h1 e1 o1;have k1:=SlW.ext k e1;refine go ?_;refine WO.con (zCw h1 v s k1 (by omega)) ?_;rintro _ h2 ⟨rfl,e2⟩;have e12:=e1.trans e2;have o2:=o1.ext e2;have k2:=SlW.ext k e12;by_cases hc:yJ (-1) s=true;case neg=>
  have hc:yJ (-1) s=false:=by simpa using hc
  rw[hc,show zI6 false=8 from rfl];refine go ?_;refine WO.stC0 (cs:=[.slice none 0 0]) o2 e12 ?_;intro h3 e3 o3 u3;refine go ?_;refine rt (vs:=[.slice none 0 0,I 8]) ?_ (Res.consB sl_ o3 rfl (Res.cons sl_ Res.nil));exact⟨⟨_,rfl,.inl ⟨rfl,rfl⟩⟩,e3⟩
 have ok:=(zK3 k.bd).1 hc;rw[hc,show zI6 true=0 from rfl];refine go ?_;refine WO.con (zJe h2 v s k2) ?_;rintro _ h3 ⟨⟨p,rfl,o3⟩,e3⟩;have o23:=o2.ext e3;have e13:=e12.trans e3;refine go ?_;refine WX.rangeG ?_;intro L g r hO rdy eO hL hg lL lg;have eb:=e13.trans eO;have hnL:h.n<=L:=QV e13.n hL;have o2O:=o23.ext eO;have hlen:((zx s).length:Int)<=64 * s.length:=by
  have:∀ l:List LWd,(zx l).length<=64 * l.length:=fun l=>by
   induction l with
   |nil=>exact QF _
   |cons w l ih=>rw[zEd,Q2];have:=zPW w.bits;omega
  have:=this s;omega
 have hmO:hO.mark<=h.n:=by rw[eb.mark];exact hm
 refine WV.func ?_;refine WC.mono (zIH h2 h hO _ p v s ok (by omega) (fun i Wr h'=>ExtN h h'/\Lies h' L (.loop r)/\Lies h' g (.deferred (some []))/\∃ w,OwnC h h' p2 [w]/\OwnN h h' w ((zx s).take i)/\Wr=fun k=>p2= .pointer (some ⟨k,0,none⟩)\/k=L\/∃ n c,w= .slice (some ⟨k,0,none⟩) n c)
  (fun k=>p2= .pointer (some ⟨k,0,none⟩)\/k=L\/∃ n c,Value.slice none 0 0= .slice (some ⟨k,0,none⟩) n c) ?_ (o3.ext eO) k T (ExtN.of eb) hmO ?_ ?_ ?_) ?_
 ·exact⟨ExtN.of eb,lL,lg,_,o2O,.inl ⟨rfl,rfl⟩,rfl⟩
 ·rintro i _ h' ⟨e',lL',lg',w,ow,on,rfl⟩;refine⟨e',fun k hk=> ?_⟩;rcases hk with hk|rfl|⟨n,c,hk⟩
  ·obtain⟨q,q1,q2,q3,q4⟩:=ow;rw[q3]at hk;cases hk;exact⟨q1,q2⟩
  ·exact⟨hnL,lL'.1⟩
  ·rcases on with ⟨q,_⟩|⟨q,q1,q2,q3,q4⟩
   ·rw[q]at hk;cases hk
   ·rw[q3]at hk;cases hk;exact⟨q1,q2⟩
 ·rintro i _ h' h'' ⟨e',lL',lg',w,ow,on,rfl⟩ e'';exact⟨e'.trans e'',Lies.extN lL' e'',Lies.extN lg' e'',w,OwnC.extN ow e'',OwnN.extN on e'',rfl⟩
 ·rintro i _ h' hi ⟨e',lL',lg',w,ow,on,rfl⟩ hm';refine WV.yieldG lL' rdy rfl ?_;simp only[zBG];refine go ?_;refine zA6 ?_;intro h4 hh4;have eB:=e'.to;generalize hBB:({h with mark:=h'.mark,wr:=h'.wr}:AHeap)=hb at eB;have hbn:hb.n=h.n:=by rw[<-hBB]
  have ownb:∀ {hx p cells},OwnC h hx p cells->OwnC hb hx p cells:=fun o=>by rw[<-hBB];exact o
  have ownb':∀ {hx p cells},OwnC hb hx p cells->OwnC h hx p cells:=fun o=>by rw[<-hBB]at o;exact o
  have ownn:∀ {hx v xs},OwnN h hx v xs->OwnN hb hx v xs:=fun o=>by rw[<-hBB];exact o
  have ownn':∀ {hx v xs},OwnN hb hx v xs->OwnN h hx v xs:=fun o=>by rw[<-hBB]at o;exact o
  have e4:Ext hb h4:=by rw[hh4];exact eB.set (by omega) lL'.1 _
  have n4:h4.n=h'.n:=by rw[hh4];rfl
  have m4:h4.mark=h'.mark:=by rw[hh4];rfl
  have w4:∀ k∈h4.wr,k∈h'.wr\/h.n<=k:=fun k hk=>by
   rw[hh4]at hk;have hk:k∈h'.log L:=hk;rcases y8 hk with rfl|h
   ·exact .inr hnL
   ·exact .inl h
  have g4:∀ k,k≠L->h4.get k=h'.get k:=fun k hk=>by rw[hh4,zS,QC hk]
  have ow4:OwnC hb h4 p2 [w]:=by rw[hh4];exact(ownb ow).setR lL' rfl
  have on4:OwnN hb h4 w ((zx s).take i):=by rw[hh4];exact OwnN.setR (ownn on) lL' rfl
  have lL4:Lies h4 L (.loop (busy r)):=by rw[hh4];exact lL'.self
  have lg4:Lies h4 g (.deferred (some [])):=by
   rw[hh4];refine lg'.set ?_;intro e;subst e;have:=lg'.2;rw[lL'.2]at this;cases this
  clear hh4;obtain⟨wa,wn,wk,rfl⟩:=SlC.shape on4.sl;refine go ?_;refine WO.bl [(zx s).getD i 0] ?_;intro v5 h5 e5 o5;have m5:h4.mark<=h4.n:=by omega
  have w5:h5.wr=h4.wr:=e5.wr m5;refine go ?_;have e05:=e4.trans e5;have htl:((zx s).take i).length<=i:=by rw[Q1];omega
  refine WO.apNw (OwnN.ext on4 e5) o5.sl e05 (by simp) (by simp only[Qa];omega) ?_;intro v6 h6 e6 o6 u6 w6 f6;have ow6:=zMC (ow4.ext e5) (OwnN.ext on4 e5) u6;have lL6:=(lL4.ext e5).upd rfl (OwnN.ext on4 e5) u6;have lg6:=(lg4.ext e5).upd rfl (OwnN.ext on4 e5) u6;obtain⟨va,vn,vk,rfl⟩:=SlC.shape o6.sl;refine go ?_;refine WO.stC0w (cs:=[.slice va vn vk]) ow6 e6 ?_;intro h7 e7 ow7 u7 w7;have o6I:OwnI hb h6 (.slice va vn vk) ((zx s).take i++[(zx s).getD i 0]):=by
   rcases o6 with ⟨_,q⟩|q
   ·simp at q
   ·exact q
  have on7:=zEH o6I ow6 u7;have lL7:=lL6.updC rfl ow6 u7;have lg7:=lg6.updC rfl ow6 u7;refine go ?_;refine zA2 lL7 ?_;have tk:(zx s).take (i+1)=(zx s).take i++[(zx s).getD i 0]:=by rw[GI];simp[List.getD,QB hi]
  have n57:h'.n<=h7.n:=by have:=e5.n;have:=u6.1;have:=u7.1;omega
  have e8:Ext hb (h7.set L (.loop r)):=e7.set (by omega) lL7.1 _;have oldg:∀ k,k<h'.n->¬(p2= .pointer (some ⟨k,0,none⟩)\/k=L\/∃ n c,Value.slice wa wn wk= .slice (some ⟨k,0,none⟩) n c)->(h7.set L (.loop r)).get k=h'.get k:=fun k hk hnW=>by
   have h1:k≠L:=fun e=>hnW (.inr (.inl e));have a1:=e5.n;have a2:=u6.1;rw[zS,QC h1,u7.2 k (by omega) (fun e=>hnW (.inl e)),u6.2 k (by omega) (fun b m c e1 e2=> ?_),e5.get k (by omega),g4 k h1];subst e2;rcases on with ⟨q,_⟩|⟨q,q1,q2,q3,q4⟩
   ·rw[q]at e1;cases e1
   ·rw[q3]at e1;cases e1;exact hnW (.inr (.inr ⟨_,_,q3⟩))
  have belowN:∀ k,k<h.n->¬(p2= .pointer (some ⟨k,0,none⟩)\/k=L\/∃ n c,Value.slice wa wn wk= .slice (some ⟨k,0,none⟩) n c):=fun k hk hW=>by
   rcases hW with hW|rfl|⟨n,c,hW⟩
   ·obtain⟨q,q1,q2,q3,q4⟩:=ow;rw[q3]at hW;cases hW;omega
   ·omega
   ·rcases on with ⟨q,_⟩|⟨q,q1,q2,q3,q4⟩
    ·rw[q]at hW;cases hW
    ·rw[q3]at hW;cases hW;omega
  have eN:ExtN h (h7.set L (.loop r)):=⟨QV e'.n n57,fun k hk=>(oldg k (QG hk e'.n) (belowN k hk)).trans (e'.get k hk),fun wf=>e8.wf (by rw[<-hBB];exact wf)⟩;refine⟨rfl,n57,oldg,fun k hk=> ?_,_,⟨eN,lL7.self,lg7.set ?_,_,ownb' (ow7.setR lL7 rfl),?_,rfl⟩,fun k hk=> ?_⟩
  ·have hk:k∈h7.log L:=hk;rcases y8 hk with rfl|hk
   ·exact .inr hnL
   rcases w7 k hk with hk|hk
   ·rcases w6 k hk with hk|hk
    ·rw[w5]at hk;exact w4 k hk
    ·exact .inr (by omega)
   ·exact .inr (by omega)
  ·intro e;subst e;have:=lg7.2;rw[lL7.2]at this;cases this
  ·rw[tk];exact ownn' (OwnN.setR (.inr on7) lL7 rfl)
  ·rcases hk with hk|hk|⟨n,c,hk⟩
   ·exact .inl (.inl hk)
   ·exact .inl (.inr (.inl hk))
   ·refine .inr ?_;have:=f6 _ _ _ hk;have:=e5.n;omega
 ·rintro _ h4 ⟨⟨_,e4,lL4,lg4,w,ow4,on4,rfl⟩,m4,r4⟩;refine⟨lL4,fun r3=> ?_⟩;have lgL:g≠L:=by intro e;subst e;have:=lg4.2;rw[lL4.2]at this;cases this
  have E4:Ext h h4:=⟨e4.n,e4.get,e4.wf,m4.trans eb.mark,fun hm=>r4.trans (eb.wr hm)⟩;obtain⟨h5,hh5⟩:∃ h5,h5=h4.set L (.loop r3):=⟨_,rfl⟩;have e5:Ext h h5:=by rw[hh5];exact E4.set hnL lL4.1 _
  have ow5:OwnC h h5 p2 [w]:=by rw[hh5];exact ow4.setR lL4 rfl
  have on5:OwnN h h5 w ((zx s).take (zx s).length):=by rw[hh5];exact OwnN.setR on4 lL4 rfl
  have lg5:Lies h5 g (.deferred (some [])):=by rw[hh5];exact lg4.set lgL
  rw[<-hh5];clear hh5;obtain⟨wa,wn,wk,rfl⟩:=SlC.shape on5.sl;refine go ?_;refine WO.stC0 ow5 e5 ?_;intro h6 e6 ow6 u6;have on6:OwnN h h6 (.slice wa wn wk) ((zx s).take (zx s).length):=by
   rcases on5 with q|q
   ·exact .inl q
   ·exact .inr (zEH q ow5 u6)
  have lg6:=lg5.updC rfl ow5 u6;refine go ?_;refine zEj lg6 ?_;refine rt (vs:=[.slice wa wn wk,I 0]) ?_ (Res.consB sl_ (ow6.setR lg6 rfl) rfl (Res.cons sl_ Res.nil));rw[GN]at on6;refine⟨⟨_,rfl,OwnN.setR on6 lg6 rfl⟩,e6.set (by have:=e13.n;omega) lg6.1 _⟩
end
end Go.Proofs.YteekipjpghikkaaGreatDoor
