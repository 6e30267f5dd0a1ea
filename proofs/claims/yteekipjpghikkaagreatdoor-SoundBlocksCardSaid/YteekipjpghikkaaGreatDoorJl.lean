/- What functions of the program come to in the abstract machine, and plain laws about it; no statement of the seat is proved in this text. -/
import Derived.Test.YteekipjpghikkaaGreatDoorJk
import Derived.Test.YteekipjpghikkaaGreatDoorAmU
import Derived.Test.YteekipjpghikkaaGreatDoorJe
import Derived.Test.YteekipjpghikkaaGreatDoorJh
import Derived.Test.YteekipjpghikkaaGreatDoorAmV
set_option linter.unusedVariables false
set_option linter.unusedSimpArgs false
set_option maxHeartbeats 1000000
namespace Go.Proofs.YteekipjpghikkaaGreatDoor
noncomputable section
open Go.Am
set_option maxRecDepth 100000
def zDW (A B:List LWd):Int:=if yF (-1) A&&yF (-1) B then 0 else 8
def zGA (f:Nat->Nat->Nat) (A B:List LWd):List LWd:=if yF (-1) A&&yF (-1) B then zn f A B else []
def MineW (h h':AHeap) (v:Value) (s:List LWd):Prop:=∃ b,h.n<=b/\zFW b h' v s
theorem MineW.sl {h h' v s} (m:MineW h h' v s):SlW h' v s:=let ⟨_,_,o⟩:=m;OwnR.sl o
theorem MineW.ext {h h1 h2 v s} (m:MineW h h1 v s) (e:Ext h1 h2):MineW h h2 v s:=let ⟨b,hb,o⟩:=m;⟨b,hb,OwnR.ext o e⟩
theorem MineW.nil {h h':AHeap}:MineW h h' (.slice none 0 0) []:=⟨h.n,QF _,OwnR.nil⟩
section
variable {P:Program} {tab:Tab} {t:Trie Value} {h:AHeap} {ds:List Deferred} {rd:Option Nat} {l:List AOper} {Q:AFr->AHeap->Prop}
theorem WO.max2 {d:Nat} {x y:Operand} {a b r:Int} (hr:r=if a<b then b else a) (k:WO P tab l ⟨t.set d (I r),ds,rd⟩ h Q) (hx:Ope t x (I a):=by exact zT) (hy:Ope t y (I b):=by exact zT):WO P tab (⟨some d,none,.maxmin true [x,y]⟩::l) ⟨t,ds,rd⟩ h Q:=by
 have hx:ev t x=I a:=hx;have hy:ev t y=I b:=hy;refine WO.op (I r) h rfl ?_ k;subst hr;simp only[aop,hx,hy,Qh,G4];rfl
end
def zSI:ACode:=(oV (oR [oX 5 2,⟨some 6,none,(.alloc [(.slice none 0 0)])⟩,oN 7 0]) (oV (oV (oR [oM 9 0,o1 10 82 9,oM 11 1,o1 12 82 11,⟨some 13,none,(.maxmin true [(.tmp 10),(.tmp 12)])⟩,oM 8 13]) (oV (oR [oM 14 8,oC .neq 15 14 0]) (oJ 15 (oV (oR [oM 16 8,⟨none,none,(.store 1 (.tmp 6) (.const (.slice none 0 0)))⟩,oM 7 16]) .ret) .skip))) (oV (oR [oM 17 0,oM 18 1,⟨some 19,none,(.mkFunc (.func 208) [] [(.tmp 5),(.tmp 6)])⟩,⟨some 20,none,(.call (.func 206) [(.tmp 17),(.tmp 18),(.func 207),(.tmp 19)])⟩]) (oV (oR [oL 21 6,oS 1 6 21,oN 7 0]) .ret))))
theorem zK8 (h:AHeap) (va vb fv:Value) (f:Nat->Nat->Nat) (hf:zUM fv f) (hfz:∀ x y,x<18446744073709551616->y<18446744073709551616->f x y<18446744073709551616) (hfc:fv.cells=#[fv]) (A B:List LWd) (ka:SlW h va A) (kb:SlW h vb B) (la:A.length<=1000) (lb:B.length<=1000) (hm:h.mark<=h.n):
  WC Tryz.prog tb 183 [va,vb,fv] h fun r h'=>(∃ v,r= .tuple #[v,I (zDW A B)]/\MineW h h' v (zGA f A B))/\Ext h h':=by
 refine en 22 [(6,some (false,1)),(7,none)] zSI ?_;refine WO.bx ?_;intro p5 h1 e1 o5;rw[hfc]at o5;have o5:OwnC h h1 p5 [fv]:=o5;refine go ?_;refine WO.al ?_;intro p6 h2 e2 o6;have o5':=o5.ext e2;have e12:=e1.trans e2;have hne:p5≠p6:=fun e=>by
  obtain⟨g,_,g2,a,_⟩:=o5;obtain⟨g',g1,_,b,_⟩:=o6;rw[a,b]at e;cases e;omega
 have ka2:=SlW.ext ka e12;refine go ?_;refine WO.con (zCy h2 va A ka2 (by omega)) ?_;rintro _ h3 ⟨rfl,e3⟩;have kb3:=SlW.ext kb (e12.trans e3);refine go ?_;refine WO.con (zCy h3 vb B kb3 (by omega)) ?_;rintro _ h4 ⟨rfl,e4⟩;have e14:=e12.trans (e3.trans e4);have o5:=o5'.ext (e3.trans e4);have o6:=o6.ext (e3.trans e4);have o6h:=o6.since e1;have hm4:h4.mark<=h4.n:=by have:=e14.mark;have:=e14.n;omega
 refine go ?_;refine WO.max2 (a:=zHw (yF (-1) A)) (b:=zHw (yF (-1) B)) (r:=zDW A B) (by unfold zDW zHw;cases yF (-1) A<;>cases yF (-1) B<;>rfl) ?_;have hE:zDW A B=if (yF (-1) A&&yF (-1) B)=true then 0 else 8:=rfl;have hL:zGA f A B=if (yF (-1) A&&yF (-1) B)=true then zn f A B else []:=rfl;by_cases hc:(yF (-1) A&&yF (-1) B)=true
 ·rw[QI hc]at hE hL;rw[hE,hL];refine go ?_;refine WO.con (zNr h h4 va vb p5 p6 fv f hf hfz A B ka kb la lb e14 hm o5 o6h hne) ?_;rintro _ h5 ⟨e5,v,b,hb,o65,ow,h6b⟩;obtain⟨va',vn',vk',rfl,hvn⟩:=YV ow;refine go ?_;refine WO.stC0 (cs:=[.slice va' vn' vk']) o65 e5 ?_;intro h6 e6 o66 u6;refine go ?_;refine rt (vs:=[.slice va' vn' vk',I 0]) ?_ (Res.consB sl_ o66 rfl (Res.cons sl_ Res.nil));exact⟨⟨_,rfl,b,hb,OwnR.upd ow (fun k k1 k2=>u6.2 k k2 fun e=>by have:=h6b k e;omega) u6.1⟩,e6⟩
 ·rw[QD hc]at hE hL;rw[hE,hL];refine go ?_;refine WO.stC0 (cs:=[.slice none 0 0]) o6h e14 ?_;intro h6 e6 o66 u6;refine go ?_;refine rt (vs:=[.slice none 0 0,I 8]) ?_ (Res.consB sl_ o66 rfl (Res.cons sl_ Res.nil));exact⟨⟨_,rfl,MineW.nil⟩,e6⟩
theorem bit_or:Bitw (fun a b=>a|||b) (fun a b=>a||b):=⟨rfl,fun a b ha hb=>⟨(zPR ha hb).2,fun i=>Nat.testBit_or ..⟩⟩
theorem bit_not:Bitw zC1 (fun a b=>a&& !b):=⟨rfl,fun a b ha hb=>(zPW ha hb).2⟩
def zRm:ACode:=(oV (oR [oK 4 (.slice none 0 0),oN 5 0]) (oV (oR [oM 6 0,oM 7 1,⟨some 8,none,(.call (.func 183) [(.tmp 6),(.tmp 7),(.func 184)])⟩,oE 9 8 0,oE 10 8 1,oM 4 9,oM 5 10]) .ret))
theorem zSw (h:AHeap) (va vb:Value) (A B:List LWd) (ka:SlW h va A) (kb:SlW h vb B) (la:A.length<=1000) (lb:B.length<=1000) (hm:h.mark<=h.n):
  WC Tryz.prog tb 133 [va,vb] h fun r h'=>(∃ v,r= .tuple #[v,I (zDW A B)]/\MineW h h' v (zGA (fun a b=>a|||b) A B))/\Ext h h':=by
 refine en 11 [(4,none),(5,none)] zRm ?_;refine WO.con (zK8 h va vb (.func (.func 184) #[] #[]) (fun a b=>a|||b) (fun h a b ha hb=>WV.func (zTA h a b ha hb)) (fun x y hx hy=>(bit_or.bit x y hx hy).1) rfl A B ka kb la lb hm) ?_;rintro _ h1 ⟨⟨v,rfl,m⟩,e1⟩;refine gr ?_;exact⟨⟨v,rfl,m⟩,e1⟩
def zQn:ACode:=(oV (oR [oK 4 (.slice none 0 0),oN 5 0]) (oV (oR [oM 6 0,oM 7 1,⟨some 8,none,(.call (.func 183) [(.tmp 6),(.tmp 7),(.func 187)])⟩,oE 9 8 0,oE 10 8 1,oM 4 9,oM 5 10]) .ret))
theorem zP0 (h:AHeap) (va vb:Value) (A B:List LWd) (ka:SlW h va A) (kb:SlW h vb B) (la:A.length<=1000) (lb:B.length<=1000) (hm:h.mark<=h.n):
  WC Tryz.prog tb 137 [va,vb] h fun r h'=>(∃ v,r= .tuple #[v,I (zDW A B)]/\MineW h h' v (zGA zC1 A B))/\Ext h h':=by
 refine en 11 [(4,none),(5,none)] zQn ?_;refine WO.con (zK8 h va vb (.func (.func 187) #[] #[]) zC1 (fun h a b ha hb=>WV.func (zNN h a b ha hb)) (fun x y hx hy=>(bit_not.bit x y hx hy).1) rfl A B ka kb la lb hm) ?_;rintro _ h1 ⟨⟨v,rfl,m⟩,e1⟩;refine gr ?_;exact⟨⟨v,rfl,m⟩,e1⟩
set_option maxRecDepth 100000
theorem zVK {a b:LWd} (h1:a.pos=b.pos) (h2:a.bits=b.bits):a=b:=by cases a;cases b;cases h1;cases h2;rfl
theorem zS5 {A B:List LWd} (hl:A.length=B.length) (h:∀ i,i<A.length->A.getD i default=B.getD i default):A=B:=by
 refine List.ext_getElem hl fun i h1 h2=> ?_;have:=h i h1;rwa [QE,QE,QB h1,QB h2]at this
theorem zU0 (x y:LWd):YZ [I x.pos,W x.bits] [I y.pos,W y.bits]=decide (x=y):=by
 by_cases h:x=y
 ·subst h;simp[YZ,zDf,I]
 ·rw[QT h];cases hb:YZ [I x.pos,W x.bits] [I y.pos,W y.bits]with
  |false=>rfl
  |true=>
   exfalso;simp[YZ,zDf,I]at hb;exact h (zVK hb.1 (by omega))
def zM1:ACode:=(oV (oR [oB .lss 14 13 12]) (oV (oT 14 0) (oV (o5 1 (oV (oR [oM 15 13,oM 5 15]) (oV (o6 [oM 16 0,oM 17 5,oI 2 18 16 17,oA 2 19 18,oM 20 1,oM 21 5,oI 2 22 20 21,oA 2 23 22,(⟨some 24,none,(.binP .neq 207 (.tmp 19) (.tmp 23))⟩,[])]) (oJ 24 (oV (oR [oZ 4]) .ret) .skip)))) (oR [oC .add 25 13 1,oM 13 25]))))
def zSU:ACode:=(oV (oR [oZ 4]) (oV (oV (oR [oM 6 0,oQ 7 6,oM 8 1,oQ 9 8,oB .neq 10 7 9]) (oJ 10 (oV (oR [oZ 4]) .ret) .skip)) (oV (oV (oR [oM 11 0,oQ 12 11,oN 13 0]) (o5 0 (.loop zM1))) (oV (oR [oK 4 (.bool true)]) .ret))))
theorem zNR (h:AHeap) (va vb:Value) (A B:List LWd) (ka:SlW h va A) (kb:SlW h vb B) (la:(A.length:Int)<=1000000000):WC Tryz.prog tb 185 [va,vb] h fun r h'=>r= .bool (decide (A=B))/\h=h':=by
 refine en 26 [(4,none)] zSU ?_;by_cases hl:A.length=B.length;case neg=>
  refine gr ?_;exact⟨by rw[QT (fun e=>hl (by rw[e]))];rfl,rfl⟩
 refine go ?_;refine WX.loopA [14,15,5,16,17,18,19,20,21,22,23,24,4,25,13] (by kernel_rfl) (fun i=>A.length - i) (fun i t h1=>h=h1/\zB t 13=I i/\i<=A.length/\Hid (∀ j,j<i->A.getD j default=B.getD j default)) 0 ?_ ?_
 ·exact⟨rfl,sl_,QV _,⟨fun j hj=>absurd hj (GG _)⟩⟩
 rintro i t _ hsame ⟨rfl,s13,hi,hI⟩;refine go ?_;refine WX.br (fun hb=> ?_) (fun hb=> ?_)<;>simp only[DB]at hb
 ·obtain⟨ca,⟨rfl,x1,x2,x3⟩,pca,hsa⟩:=zDT ka (show i<A.length by omega);obtain⟨cb,⟨rfl,y1,y2,y3⟩,pcb,hsb⟩:=zDT kb (show i<B.length by omega);refine go ?_;refine WO.bp (zUW (xs:=#[I (A.getD i default).pos,W (A.getD i default).bits]) (ys:=#[I (B.getD i default).pos,W (B.getD i default).bits]) (b:=decide (A.getD i default=B.getD i default)) (by kernel_rfl) (zU0 _ _)) ?_;refine go ?_;repeat' (first|(refine WX.br (fun hb=> ?_) (fun hb=> ?_)<;>(try simp only[DB]at hb)<;>refine go ?_)|(refine WO.sp (fun hb=> ?_) (fun hb=> ?_)<;>(try simp only[DB]at hb)<;>refine go ?_))
  ·refine rt ?_;refine⟨?_,rfl⟩;rw[QT (fun e=>by subst e;exact hb rfl)];rfl
  ·refine zA (i+1) (by omega) ⟨rfl,sln,by omega,⟨fun j hj=> ?_⟩⟩;by_cases e:j=i
   ·subst e;exact hb
   ·exact hI.out j (by omega)
 ·refine gr ?_;exact⟨by rw[QZ (zS5 hl fun j hj=>hI.out j (by omega))];rfl,rfl⟩
def zRU:ACode:=(oV (oR [oZ 4]) (oV (oR [oM 5 0,oM 6 1,o2 7 185 5 6,oM 4 7]) .ret))
theorem zQR (h:AHeap) (va vb:Value) (A B:List LWd) (ka:SlW h va A) (kb:SlW h vb B) (la:(A.length:Int)<=1000000000):WC Tryz.prog tb 135 [va,vb] h fun r h'=>r= .bool (decide (A=B))/\h=h':=by
 refine en 8 [(4,none)] zRU ?_;refine WO.con (zNR h va vb A B ka kb la) ?_;rintro _ _ ⟨rfl,rfl⟩;refine gr ?_;exact⟨rfl,rfl⟩
set_option maxRecDepth 100000
structure ExtN (h h':AHeap):Prop where
 n:h.n<=h'.n
 get:∀ g,g<h.n->h'.get g=h.get g
 wf:Wf h->Wf h'
theorem ExtN.of {h h':AHeap} (e:Ext h h'):ExtN h h':=⟨e.n,e.get,e.wf⟩
theorem ExtN.trans {a b c:AHeap} (h:ExtN a b) (k:ExtN b c):ExtN a c:=⟨QW h.n k.n,fun g hg=>(k.get g (QG hg h.n)).trans (h.get g hg),fun w=>k.wf (h.wf w)⟩
theorem ExtN.to {h h':AHeap} (e:ExtN h h'):Ext {h with mark:=h'.mark,wr:=h'.wr} h':=⟨e.n,e.get,fun w=>e.wf w,rfl,fun _=>rfl⟩
theorem ZE {h v s} (k:SlW h v s):∃ a n m,v= .slice a n m:=let ⟨_,a,_⟩:=k;a.shape
theorem SlW.extN {h h' v s} (k:SlW h v s) (e:ExtN h h'):SlW h' v s:=by
 have:=SlW.ext (h:={h with mark:=h'.mark,wr:=h'.wr}) (by exact k) e.to;exact this
theorem TzT.extN {h h'} (T:TzT h) (e:ExtN h h'):TzT h':=by
 have:=TzT.ext (h:={h with mark:=h'.mark,wr:=h'.wr}) (by exact T) e.to;exact this
theorem zID (w:LWd) (s:List LWd):zv (w::s)=(zAS w.bits).map (fun k:Nat=>64 * w.pos+(k:Int))++zv s:=rfl
theorem zLO {l r:List Int} {j:Nat} {x:Int} (h:l.drop j=x::r):j<l.length/\l.getD j 0=x/\l.drop (j+1)=r:=by
 have hj:j<l.length:=by
  rcases GE j l.length with h1|h1
  ·exact h1
  ·rw[JK h1]at h;cases h
 rw[Qx hj]at h;cases h;exact⟨hj,by rw[QE,QB hj];rfl,rfl⟩
def zLM:ACode:=(oV (oV (oR [oM 14 5,⟨some 15,none,(.bin .neq (.tmp 14) (.const (.int .u64 0)))⟩]) (oT 15 2)) (oV (o5 3 (oV (o6 [oM 20 0,oF 0 21 4,oL 22 21,(⟨some 23,none,(.bin .mul (.const (.int .i64 64)) (.tmp 22))⟩,[]),oM 24 5,(o1 25 132 24,[2]),oB .add 26 23 25,(⟨some 27,none,(.call (.tmp 20) [(.tmp 26)])⟩,[]),oW 28 27]) (oJ 28 .ret .skip))) (oR [oM 16 5,oM 17 5,⟨some 18,none,(.bin .sub (.tmp 17) (.const (.int .u64 1)))⟩,oB .and 19 16 18,oM 5 19])))
def zMQ:ACode:=(oV (oR [oB .lss 9 8 7]) (oV (oT 9 0) (oV (o5 1 (oV (oR [oI 2 10 6 8,oA 2 11 10,⟨some 4,none,(.alloc [(.int .i64 0),(.int .u64 0)])⟩,oS 2 4 11]) (oV (oR [oF 1 12 4,oL 13 12,oM 5 13]) (o5 2 (.loop zLM))))) (oR [oC .add 29 8 1,oM 8 29]))))
def zQx:ACode:=(oV (oR [oL 6 1,oQ 7 6,oN 8 0]) (o5 0 (.loop zMQ)))
theorem zId (hA hB h:AHeap) (y p v:Value) (s:List LWd) (ok:OkW s) (hl:(s.length:Int)<=1000000000) (J:Nat->(Nat->Prop)->AHeap->Prop) (W0:Nat->Prop) (h0:J 0 W0 h) (o:OwnC hA h p [v]) (k:SlW hB v s) (T:TzT hB) (eB:ExtN hB h) (hm:h.mark<=hB.n)
  (hp:∀ i Wr h',J i Wr h'->ExtN hB h'/\∀ k,Wr k->hB.n<=k/\k<h'.n) (hk:∀ i Wr h' h'',J i Wr h'->ExtN h' h''->J i Wr h'')
  (hy:∀ i Wr h',i<(zv s).length->J i Wr h'->h'.mark<=h'.n->WV Tryz.prog tb y [I ((zv s).getD i 0)] h' fun r h''=>r= .bool true/\h'.n<=h''.n/\(∀ k,k<h'.n->¬Wr k->h''.get k=h'.get k)/\(∀ g∈h''.wr,g∈h'.wr\/hB.n<=g)/\∃ Wr',J (i+1) Wr' h''/\∀ k,Wr' k->Wr k\/h'.n<=k):
  WC Tryz.prog tb 131 [y,p] h fun _ h'=>(∃ Wr,J (zv s).length Wr h')/\h'.mark=h.mark/\h'.wr=h.wr:=by
 have kh:=k.extN eB;have hp:=Hid.mk hp;have hk:=Hid.mk hk;have hy:=Hid.mk hy;have ok:=Hid.mk ok;obtain⟨_,_,_,rfl⟩:=ZE k;refine en 30 [] zQx ?_;refine WX.loopA [9,10,11,4,12,13,5,14,15,20,21,22,23,24,25,26,27,28,16,17,18,19,5,29,8] (by kernel_rfl) (fun i=>s.length - i) (fun i t h1=>∃ j Wr,zB t 8=I i/\i<=s.length/\j<=(zv s).length/\J j Wr h1/\ExtN hB h1/\h1.mark=h.mark/\h1.wr=h.wr/\Hid ((zv s).drop j=zv (s.drop i))) 0 ?_ ?_
 ·exact⟨0,W0,sl_,QV _,QV _,h0,eB,rfl,rfl,⟨rfl⟩⟩
 clear h0 eB kh;rintro i t h1 hsame ⟨j,Wr,s8,hi,hjl,j1,e1,m1,r1,hI⟩;have k1:=k.extN e1;refine go ?_;refine WX.br (fun hb=> ?_) (fun hb=> ?_)<;>simp only[DB]at hb
 ·have hi':i<s.length:=by omega
  obtain⟨cs,⟨rfl,w1,w2,w3⟩,pc,hs⟩:=zDT k1 hi';have hd:=hI.out;rw[zFf hi',zID]at hd;have hw4:=ok.out.each (s.getD i default) (by rw[QE,QB hi'];exact JC hi');generalize s.getD i default=w at *;have hd:=Hid.mk hd;refine go ?_;refine WO.al ?_;intro p4 h2 e2 o4;refine go ?_;refine WO.stC0 (cs:=[I w.pos,W w.bits]) o4 e2 ?_;intro h3 e3 o43 u3;refine go ?_;obtain⟨g4,g41,g42,rfl,g44⟩:=id o43;refine WX.loopA [14,15,20,21,22,23,24,25,26,27,28,16,17,18,19,5] (by kernel_rfl) (fun rest=>rest) (fun rest t h4=>∃ j Wr,zB t 5=W rest/\j<=(zv s).length/\rest<18446744073709551616/\J j Wr h4/\ExtN hB h4/\h4.mark=h.mark/\h4.wr=h.wr/\OwnC h1 h4 (.pointer (some ⟨g4,0,none⟩)) [I w.pos,W w.bits]/\¬Wr g4/\Hid ((zv s).drop j=(zAS rest).map (fun k:Nat=>64 * w.pos+(k:Int))++zv (s.drop (i+1)))) w.bits ?_ ?_
  ·refine⟨j,Wr,sl_,hjl,w1,hk.out _ _ _ _ j1 (ExtN.of e3),e1.trans (ExtN.of e3),e3.mark.trans m1,?_,o43,fun hw=> ?_,hd⟩
   ·have:=e1.n;rw[e3.wr (by rw[m1];omega)];exact r1
   ·have:=((hp.out _ _ _ j1).2 _ hw).2;omega
  clear hd hI j1 e1 m1 r1 k1 pc hs e2 o4 u3 o43 e3 g44;rintro rest t4 h4 hsame4 ⟨j,Wr,s5,hjl,hr,j4,e4,m4,r4,o4,hw,hI⟩;refine go ?_;refine WX.br (fun hb2=> ?_) (fun hb2=> ?_)<;>simp only[DB]at hb2
  ·have hr0:rest≠0:=by omega
   obtain⟨kk,L⟩:=low hr0 hr;have hlt:=L.lt;have hI:=hI.out;rw[L.list,Qh,List.cons_append]at hI;obtain⟨hj1,hj2,hj3⟩:=zLO hI;have hI:=Hid.mk hj3;have hless:=L.less;refine go ?_;refine WX.regionU2 0 rfl rfl ?_;have o4X:OwnC h1 (inC (zC 0 h4)) (.pointer (some ⟨g4,0,none⟩)) [I w.pos,W w.bits]:=o4;have TX:TzT (inC (zC 0 h4)):=by have:=T.extN e4;exact this
   refine goU ?_;refine WO.con (zNj _ rest kk TX hr hr0 L) ?_;rintro _ _ ⟨rfl,rfl⟩;refine nE (Ext.refl _) ?_;refine goU ?_;have hyy:=hy.out j Wr (inC (inC (zC 0 h4))) hj1 (hk.out _ _ _ _ j4 ⟨QF _,fun _ _=>rfl,id⟩) (QF _);rw[hj2]at hyy;refine WO.conV hyy ?_;rintro _ h5 ⟨rfl,n5,k5,w5,Wr',j5,hW'⟩;refine WO.nil ?_;refine zPr (fun k hk=> ?_) n5 (fun cl'=> ?_)
   ·rcases w5 k hk with h|h
    ·cases h
    ·rw[m4];omega
   refine goU ?_;have n5:h4.n<=h5.n:=n5;have o45:OwnC h1 (zc h4 (inC h5)) (.pointer (some ⟨g4,0,none⟩)) [I w.pos,W w.bits]:=by
    obtain⟨q,q1,q2,q3,q4⟩:=o4;cases q3;exact⟨g4,q1,QG q2 n5,rfl,(k5 g4 q2 hw).trans q4⟩
   have j6:=hk.out _ _ _ (zc h4 (inC h5)) j5 ⟨QF _,fun _ _=>rfl,id⟩;have e5:ExtN hB (zc h4 (inC h5)):=(hp.out _ _ _ j6).1;have m6:(zc h4 (inC h5)).mark=h.mark:=m4;have r6:(zc h4 (inC h5)).wr=h.wr:=r4;have hw6:¬Wr' g4:=fun hW=>by
    rcases hW' g4 hW with h|h
    ·exact hw h
    ·obtain⟨q,q1,q2,q3,q4⟩:=o4;cases q3;have:h4.n<=g4:=h;omega
   generalize zc h4 (inC h5)=h6 at *;refine WO.bin zT rfl (zUx (a:=rest) (b:=1) hr (by omega)) ?_;refine go ?_;refine WO.bin zT zT (zSu (a:=rest) (b:=rest - 1) hr (by omega)) ?_;refine go ?_;exact zA (rest&&& (rest - 1)) hless ⟨j+1,Wr',sl_,hj1,Nat.lt_trans hless hr,j6,e5,m6,r6,o45,hw6,hI⟩
  ·have hr0:rest=0:=by omega
   subst hr0;refine go ?_;have hI:=hI.out;rw[zJK]at hI;exact zA (i+1) (by omega) ⟨j,Wr,sln,by omega,hjl,j4,e4,m4,r4,⟨hI⟩⟩
 ·refine go ?_;refine rtN ?_;have hI:=hI.out;rw[show i=s.length by omega,List.drop_length,show zv []=[] from rfl]at hI;have hje:j=(zv s).length:=by
   have:=congrArg List.length hI;rw[GO,Gh]at this;omega
  subst hje;exact⟨⟨Wr,j1⟩,m1,r1⟩
def zUd:ACode:=(oV (oR [oX 1 0,⟨some 2,none,(.mov (.const .nilFunc))⟩]) (oV (oR [⟨some 3,none,(.mkFunc (.func 131) [] [(.tmp 1)])⟩,oM 2 3]) .ret))
theorem zJQ (h:AHeap) (v:Value) (s:List LWd) (k:SlW h v s):WC Tryz.prog tb 83 [v] h fun r h'=>(∃ p,r= .func (.func 131) #[] #[p]/\OwnC h h' p [v])/\Ext h h':=by
 obtain⟨_,_,_,rfl⟩:=ZE k;refine en 4 [(2,none)] zUd ?_;refine WO.bx ?_;intro p h1 e1 o1;refine gr ?_;exact⟨⟨p,rfl,o1⟩,e1⟩
theorem Lies.extN {h h':AHeap} {g:Nat} {o:AObj} (k:Lies h g o) (e:ExtN h h'):Lies h' g o:=⟨QG k.1 e.n,(e.get g k.1).trans k.2⟩
theorem OwnC.extN {h0 h h' p cells} (o:OwnC h0 h p cells) (e:ExtN h h'):OwnC h0 h' p cells:=by
 obtain⟨g,a,b,c,d⟩:=o;exact⟨g,a,QG b e.n,c,(e.get g b).trans d⟩
theorem OwnN.extN {h0 h h' v xs} (o:OwnN h0 h v xs) (e:ExtN h h'):OwnN h0 h' v xs:=by
 rcases o with o|⟨g,a,b,c,d⟩
 ·exact .inl o
 ·exact .inr ⟨g,a,QG b e.n,c,(e.get g b).trans d⟩
theorem zIJ {h0 h1 h:AHeap} {p v:Value} {a:Option Addr} {n k:Nat} {cs:List Value} {xs:List Int} (o:OwnC h0 h p (.slice a n k::cs)) (i:OwnN h1 h v xs):∀ b m c,v= .slice (some b) m c->p≠ .pointer (some ⟨b.block,0,none⟩):=by
 intro b m c hv hp;obtain⟨g,_,_,rfl,hg⟩:=o;rcases i with ⟨rfl,_⟩|⟨g2,_,_,rfl,hg2⟩
 ·cases hv
 ·cases hv;cases hp;rw[hg]at hg2;cases xs with
  |nil=>cases hg2
  |cons x xs=>cases hg2
theorem zLa {h0 h h':AHeap} {p v:Value} {a:Option Addr} {n k:Nat} {cs:List Value} {xs:List Int} (o:OwnC h0 h p (.slice a n k::cs)) (i:OwnN h0 h v xs) (u:Upd v h h'):OwnC h0 h' p (.slice a n k::cs):=by
 have hne:=zIJ o i;obtain⟨g,g1,g2,rfl,hg⟩:=o;exact⟨g,g1,QG g2 u.1,rfl,(u.2 g g2 fun b m c hv e=>hne b m c hv (by rw[e])).trans hg⟩
theorem zD8 {h0 h h':AHeap} {p v:Value} {a:Option Addr} {n k:Nat} {cs:List Value} {xs:List Int} (i:OwnI h0 h v xs) (o:OwnC h0 h p (.slice a n k::cs)) (u:UpdC p h h'):OwnI h0 h' v xs:=by
 have hne:=zIJ o (.inr i);obtain⟨g,g1,g2,rfl,hg⟩:=i;exact⟨g,g1,QG g2 u.1,rfl,(u.2 g g2 fun e=>hne _ _ _ rfl e).trans hg⟩
def zUT:ACode:=(oV (oR [⟨some 2,none,(.alloc [(.slice none 0 0)])⟩,oN 3 0]) (oV (oV (oR [oM 6 0,o1 7 82 6,oM 4 7]) (oV (oR [oM 8 4,oC .neq 9 8 0]) (oJ 9 (oV (oR [oM 10 4,⟨none,none,(.store 1 (.tmp 2) (.const (.slice none 0 0)))⟩,oM 3 10]) .ret) .skip))) (oV (oV (oR [oM 11 0,o1 12 83 11]) (o5 0 (.rangeFunc (.tmp 12) [13] (oR [oM 5 13]) (o5 1 (oR [oL 14 2,oM 15 5,⟨some 16,none,(.buildSlice 1 1 [(.int .i64 0)] [(0,1,(.tmp 15))])⟩,oY 1 17 14 16,oS 1 2 17]))))) (oV (oR [oL 18 2,oS 1 2 18,oN 3 0]) .ret))))
theorem zRY (h:AHeap) (v:Value) (s:List LWd) (k:SlW h v s) (T:TzT h) (hl:(s.length:Int)<=1000000) (hm:h.mark<=h.n):
  WC Tryz.prog tb 48 [v] h fun r h'=>(∃ w,r= .tuple #[w,I (zHw (yF (-1) s))]/\OwnN h h' w (if yF (-1) s then zv s else []))/\Ext h h':=by
 refine en 19 [(2,some (false,1)),(3,none)] zUT ?_;refine WO.al ?_;intro p2 h1 e1 o1;have k1:=SlW.ext k e1;refine go ?_;refine WO.con (zCy h1 v s k1 (by omega)) ?_;rintro _ h2 ⟨rfl,e2⟩;have e12:=e1.trans e2;have o2:=o1.ext e2;have k2:=SlW.ext k e12;by_cases hc:yF (-1) s=true;case neg=>
  have hc:yF (-1) s=false:=by simpa using hc
  rw[hc,show zHw false=8 from rfl];refine go ?_;refine WO.stC0 (cs:=[.slice none 0 0]) o2 e12 ?_;intro h3 e3 o3 u3;refine go ?_;refine rt (vs:=[.slice none 0 0,I 8]) ?_ (Res.consB sl_ o3 rfl (Res.cons sl_ Res.nil));exact⟨⟨_,rfl,.inl ⟨rfl,rfl⟩⟩,e3⟩
 have ok:=(zKv k.bd).1 hc;rw[hc,show zHw true=0 from rfl];refine go ?_;refine WO.con (zJQ h2 v s k2) ?_;rintro _ h3 ⟨⟨p,rfl,o3⟩,e3⟩;have o23:=o2.ext e3;have e13:=e12.trans e3;refine go ?_;refine WX.rangeG ?_;intro L g r hO rdy eO hL hg lL lg;have eb:=e13.trans eO;have hnL:h.n<=L:=QW e13.n hL;have o2O:=o23.ext eO;have hlen:((zv s).length:Int)<=64 * s.length:=by
  have:∀ l:List LWd,(zv l).length<=64 * l.length:=fun l=>by
   induction l with
   |nil=>exact QF _
   |cons w l ih=>rw[zFG,Q2];have:=zOp w.bits;omega
  have:=this s;omega
 have hmO:hO.mark<=h.n:=by rw[eb.mark];exact hm
 refine WV.func ?_;refine WC.mono (zId h2 h hO _ p v s ok (by omega) (fun i Wr h'=>ExtN h h'/\Lies h' L (.loop r)/\Lies h' g (.deferred (some []))/\∃ w,OwnC h h' p2 [w]/\OwnN h h' w ((zv s).take i)/\Wr=fun k=>p2= .pointer (some ⟨k,0,none⟩)\/k=L\/∃ n c,w= .slice (some ⟨k,0,none⟩) n c)
  (fun k=>p2= .pointer (some ⟨k,0,none⟩)\/k=L\/∃ n c,Value.slice none 0 0= .slice (some ⟨k,0,none⟩) n c) ?_ (o3.ext eO) k T (ExtN.of eb) hmO ?_ ?_ ?_) ?_
 ·exact⟨ExtN.of eb,lL,lg,_,o2O,.inl ⟨rfl,rfl⟩,rfl⟩
 ·rintro i _ h' ⟨e',lL',lg',w,ow,on,rfl⟩;refine⟨e',fun k hk=> ?_⟩;rcases hk with hk|rfl|⟨n,c,hk⟩
  ·obtain⟨q,q1,q2,q3,q4⟩:=ow;rw[q3]at hk;cases hk;exact⟨q1,q2⟩
  ·exact⟨hnL,lL'.1⟩
  ·rcases on with ⟨q,_⟩|⟨q,q1,q2,q3,q4⟩
   ·rw[q]at hk;cases hk
   ·rw[q3]at hk;cases hk;exact⟨q1,q2⟩
 ·rintro i _ h' h'' ⟨e',lL',lg',w,ow,on,rfl⟩ e'';exact⟨e'.trans e'',Lies.extN lL' e'',Lies.extN lg' e'',w,OwnC.extN ow e'',OwnN.extN on e'',rfl⟩
 ·rintro i _ h' hi ⟨e',lL',lg',w,ow,on,rfl⟩ hm';refine WV.yieldG lL' rdy rfl ?_;simp only[zA8];refine go ?_;refine zBE ?_;intro h4 hh4;have eB:=e'.to;generalize hBB:({h with mark:=h'.mark,wr:=h'.wr}:AHeap)=hb at eB;have hbn:hb.n=h.n:=by rw[<-hBB]
  have ownb:∀ {hx p cells},OwnC h hx p cells->OwnC hb hx p cells:=fun o=>by rw[<-hBB];exact o
  have ownb':∀ {hx p cells},OwnC hb hx p cells->OwnC h hx p cells:=fun o=>by rw[<-hBB]at o;exact o
  have ownn:∀ {hx v xs},OwnN h hx v xs->OwnN hb hx v xs:=fun o=>by rw[<-hBB];exact o
  have ownn':∀ {hx v xs},OwnN hb hx v xs->OwnN h hx v xs:=fun o=>by rw[<-hBB]at o;exact o
  have e4:Ext hb h4:=by rw[hh4];exact eB.set (by omega) lL'.1 _
  have n4:h4.n=h'.n:=by rw[hh4];rfl
  have m4:h4.mark=h'.mark:=by rw[hh4];rfl
  have w4:∀ k∈h4.wr,k∈h'.wr\/h.n<=k:=fun k hk=>by
   rw[hh4]at hk;have hk:k∈h'.log L:=hk;rcases yv hk with rfl|h
   ·exact .inr hnL
   ·exact .inl h
  have g4:∀ k,k≠L->h4.get k=h'.get k:=fun k hk=>by rw[hh4,zR,QD hk]
  have ow4:OwnC hb h4 p2 [w]:=by rw[hh4];exact(ownb ow).setR lL' rfl
  have on4:OwnN hb h4 w ((zv s).take i):=by rw[hh4];exact OwnN.setR (ownn on) lL' rfl
  have lL4:Lies h4 L (.loop (busy r)):=by rw[hh4];exact lL'.self
  have lg4:Lies h4 g (.deferred (some [])):=by
   rw[hh4];refine lg'.set ?_;intro e;subst e;have:=lg'.2;rw[lL'.2]at this;cases this
  clear hh4;obtain⟨wa,wn,wk,rfl⟩:=SlC.shape on4.sl;refine go ?_;refine WO.bl [(zv s).getD i 0] ?_;intro v5 h5 e5 o5;have m5:h4.mark<=h4.n:=by omega
  have w5:h5.wr=h4.wr:=e5.wr m5;refine go ?_;have e05:=e4.trans e5;have htl:((zv s).take i).length<=i:=by rw[Q1];omega
  refine WO.apNw (OwnN.ext on4 e5) o5.sl e05 (by simp) (by simp only[Qa];omega) ?_;intro v6 h6 e6 o6 u6 w6 f6;have ow6:=zLa (ow4.ext e5) (OwnN.ext on4 e5) u6;have lL6:=(lL4.ext e5).upd rfl (OwnN.ext on4 e5) u6;have lg6:=(lg4.ext e5).upd rfl (OwnN.ext on4 e5) u6;obtain⟨va,vn,vk,rfl⟩:=SlC.shape o6.sl;refine go ?_;refine WO.stC0w (cs:=[.slice va vn vk]) ow6 e6 ?_;intro h7 e7 ow7 u7 w7;have o6I:OwnI hb h6 (.slice va vn vk) ((zv s).take i++[(zv s).getD i 0]):=by
   rcases o6 with ⟨_,q⟩|q
   ·simp at q
   ·exact q
  have on7:=zD8 o6I ow6 u7;have lL7:=lL6.updC rfl ow6 u7;have lg7:=lg6.updC rfl ow6 u7;refine go ?_;refine zA7 lL7 ?_;have tk:(zv s).take (i+1)=(zv s).take i++[(zv s).getD i 0]:=by rw[GI];simp[List.getD,QB hi]
  have n57:h'.n<=h7.n:=by have:=e5.n;have:=u6.1;have:=u7.1;omega
  have e8:Ext hb (h7.set L (.loop r)):=e7.set (by omega) lL7.1 _;have oldg:∀ k,k<h'.n->¬(p2= .pointer (some ⟨k,0,none⟩)\/k=L\/∃ n c,Value.slice wa wn wk= .slice (some ⟨k,0,none⟩) n c)->(h7.set L (.loop r)).get k=h'.get k:=fun k hk hnW=>by
   have h1:k≠L:=fun e=>hnW (.inr (.inl e));have a1:=e5.n;have a2:=u6.1;rw[zR,QD h1,u7.2 k (by omega) (fun e=>hnW (.inl e)),u6.2 k (by omega) (fun b m c e1 e2=> ?_),e5.get k (by omega),g4 k h1];subst e2;rcases on with ⟨q,_⟩|⟨q,q1,q2,q3,q4⟩
   ·rw[q]at e1;cases e1
   ·rw[q3]at e1;cases e1;exact hnW (.inr (.inr ⟨_,_,q3⟩))
  have belowN:∀ k,k<h.n->¬(p2= .pointer (some ⟨k,0,none⟩)\/k=L\/∃ n c,Value.slice wa wn wk= .slice (some ⟨k,0,none⟩) n c):=fun k hk hW=>by
   rcases hW with hW|rfl|⟨n,c,hW⟩
   ·obtain⟨q,q1,q2,q3,q4⟩:=ow;rw[q3]at hW;cases hW;omega
   ·omega
   ·rcases on with ⟨q,_⟩|⟨q,q1,q2,q3,q4⟩
    ·rw[q]at hW;cases hW
    ·rw[q3]at hW;cases hW;omega
  have eN:ExtN h (h7.set L (.loop r)):=⟨QW e'.n n57,fun k hk=>(oldg k (QG hk e'.n) (belowN k hk)).trans (e'.get k hk),fun wf=>e8.wf (by rw[<-hBB];exact wf)⟩;refine⟨rfl,n57,oldg,fun k hk=> ?_,_,⟨eN,lL7.self,lg7.set ?_,_,ownb' (ow7.setR lL7 rfl),?_,rfl⟩,fun k hk=> ?_⟩
  ·have hk:k∈h7.log L:=hk;rcases yv hk with rfl|hk
   ·exact .inr hnL
   rcases w7 k hk with hk|hk
   ·rcases w6 k hk with hk|hk
    ·rw[w5]at hk;exact w4 k hk
    ·exact .inr (by omega)
   ·exact .inr (by omega)
  ·intro e;subst e;have:=lg7.2;rw[lL7.2]at this;cases this
  ·rw[tk];exact ownn' (OwnN.setR (.inr on7) lL7 rfl)
  ·rcases hk with hk|hk|⟨n,c,hk⟩
   ·exact .inl (.inl hk)
   ·exact .inl (.inr (.inl hk))
   ·refine .inr ?_;have:=f6 _ _ _ hk;have:=e5.n;omega
 ·rintro _ h4 ⟨⟨_,e4,lL4,lg4,w,ow4,on4,rfl⟩,m4,r4⟩;refine⟨lL4,fun r3=> ?_⟩;have lgL:g≠L:=by intro e;subst e;have:=lg4.2;rw[lL4.2]at this;cases this
  have E4:Ext h h4:=⟨e4.n,e4.get,e4.wf,m4.trans eb.mark,fun hm=>r4.trans (eb.wr hm)⟩;obtain⟨h5,hh5⟩:∃ h5,h5=h4.set L (.loop r3):=⟨_,rfl⟩;have e5:Ext h h5:=by rw[hh5];exact E4.set hnL lL4.1 _
  have ow5:OwnC h h5 p2 [w]:=by rw[hh5];exact ow4.setR lL4 rfl
  have on5:OwnN h h5 w ((zv s).take (zv s).length):=by rw[hh5];exact OwnN.setR on4 lL4 rfl
  have lg5:Lies h5 g (.deferred (some [])):=by rw[hh5];exact lg4.set lgL
  rw[<-hh5];clear hh5;obtain⟨wa,wn,wk,rfl⟩:=SlC.shape on5.sl;refine go ?_;refine WO.stC0 ow5 e5 ?_;intro h6 e6 ow6 u6;have on6:OwnN h h6 (.slice wa wn wk) ((zv s).take (zv s).length):=by
   rcases on5 with q|q
   ·exact .inl q
   ·exact .inr (zD8 q ow5 u6)
  have lg6:=lg5.updC rfl ow5 u6;refine go ?_;refine zEM lg6 ?_;refine rt (vs:=[.slice wa wn wk,I 0]) ?_ (Res.consB sl_ (ow6.setR lg6 rfl) rfl (Res.cons sl_ Res.nil));rw[GN]at on6;refine⟨⟨_,rfl,OwnN.setR on6 lg6 rfl⟩,e6.set (by have:=e13.n;omega) lg6.1 _⟩
set_option maxRecDepth 100000
theorem zLS {x:Int} {l:List Int}:x∈ZS l↔x∈l:=(JF l _).mem_iff
theorem zLr (l:List Int):(ZS l).length=l.length:=(JF l _).length_eq
theorem zJR (l:List Int):(ZS l).Pairwise (·<=·):=by
 have hp:(ZS l).Pairwise (fun a b=>decide (a<=b)=true):=List.pairwise_mergeSort (fun a b c h1 h2=>by simp only[Qb]at *;omega) (fun a b=>by simp only[GA,Qb];omega) l;exact hp.imp fun h=>G2 h
theorem zSE {s:List LWd} {xs:List Int} {n:Int} (u:Upto s xs) (h:∀ x∈xs,x<=n):∀ w∈s,w.pos<=n / 64:=by
 intro w hw;obtain⟨a,b,c,d⟩:=u.ok.each w hw;obtain⟨k,hk⟩:=zDw c;have hk2:=YQ d hk;have:=(u.mem (64 * w.pos+k)).1 ⟨w,hw,by omega,by rw[show ((64 * w.pos+(k:Int)) % 64).toNat=k by omega];exact hk⟩;have:=h _ this;omega
def ofE (l:List Int):Int:=if l.all (fun n=>decide (0<=n)&&decide (n<1048576)) then 0 else 2
theorem zP5 {l:List Int} {n:Int} (h:n∈l) (hn:(decide (0<=n)&&decide (n<1048576))=false):ofE l=2:=by
 unfold ofE;rw[QD fun ha=>by
  have:=QY.1 ha n h;rw[hn]at this;cases this]
theorem zEb {l:List Int} (h:∀ n∈l,0<=n/\n<1048576):ofE l=0:=by
 unfold ofE;rw[QI (QY.2 fun n hn=>by have:=h n hn;simp[this.1,this.2])]
theorem Upto.perm {s:List LWd} {xs ys:List Int} (u:Upto s xs) (h:∀ n,n∈xs↔n∈ys):Upto s ys:=⟨u.ok,fun n=>(u.mem n).trans (h n)⟩
theorem zMv {α:Type} (l:List α) (h:l≠[]):∃ s w,l=s++[w]:=⟨l.dropLast,l.getLast h,(List.dropLast_concat_getLast h).symm⟩
theorem zNm:Upto [] []:=⟨OkW.nil,fun n=>⟨(fun ⟨_,h,_⟩=>by cases h),(fun h=>by cases h)⟩⟩
def zMV:ACode:=(oV (oR [oB .lss 17 16 15]) (oV (oT 17 0) (oV (o5 1 (oV (oR [oI 1 18 14 16,oL 19 18,oM 7 19]) (oV (oV (oR [oM 20 7,o1 21 186 20,oW 22 21]) (oJ 22 (oV (oR [oK 2 (.slice none 0 0),oN 3 2]) .ret) .skip)) (oV (oR [oM 23 7,oC .quo 24 23 64,oM 8 24]) (oV (oV (oR [oM 25 5,oQ 26 25,oM 9 26]) (oV (oR [oM 27 9,oC .eql 28 27 0,oM 29 28,oH 29 (oM 30 5),oH 29 (oM 31 9),oH 29 (oC .sub 32 31 1),oH 29 (oI 2 33 30 32),oH 29 (oF 0 34 33),oH 29 (oL 35 34),oH 29 (oM 36 8),oH 29 (oB .neq 37 35 36),oO 38 29 37]) (oJ 38 (oR [oM 39 5,oM 40 8,⟨some 41,none,(.build [(.int .i64 0),(.int .u64 0)] [(0,1,(.tmp 40))])⟩,⟨some 42,none,(.buildSlice 1 2 [(.int .i64 0),(.int .u64 0)] [(0,2,(.tmp 41))])⟩,oY 2 43 39 42,oM 5 43]) .skip))) (o6 [oM 44 5,oM 45 5,oQ 46 45,oC .sub 47 46 1,oI 2 48 44 47,oF 1 49 48,oL 50 49,oM 51 7,oC .rem 52 51 64,(⟨some 53,none,(.bin .shl (.const (.int .u64 1)) (.tmp 52))⟩,[]),oB .or 54 50 53,oI 2 55 44 47,oF 1 56 55,oS 1 56 54])))))) (oR [oC .add 57 16 1,oM 16 57]))))
def zQm:ACode:=(oV (oR [oK 2 (.slice none 0 0),oN 3 0]) (oV (oR [oM 10 0,o1 11 55 10,oM 4 11]) (oV (oR [oM 12 4,o1 13 159 12]) (oV (oR [oK 5 (.slice none 0 0)]) (oV (oV (oR [oM 14 4,oQ 15 14,oN 16 0]) (o5 0 (.loop zMV))) (oV (oR [oM 58 5,oM 2 58,oN 3 0]) .ret))))))
theorem zPt (h:AHeap) (v:Value) (l:List Int) (s:SlI h v l) (hl:l.length<=10000) (hm:h.mark<=h.n):
  WC Tryz.prog tb 136 [v] h fun r h'=>(∃ w t,r= .tuple #[w,I (ofE l)]/\MineW h h' w t/\(ofE l=0->Upto t l)/\(ofE l≠0->t=[]))/\Ext h h':=by
 refine en 59 [(2,none),(3,none)] zQm ?_;refine WO.con (zIC h v l s (by omega)) ?_;rintro c h1 ⟨o1,e1⟩;refine go ?_;refine WO.con (zLC h h1 c l e1 hm o1 (by omega)) ?_;rintro _ h2 ⟨o2,e2,_⟩;have sl2:=o2.sl;have hlen:=zLr l;have hrise:=zJR l;have hmem:∀ n,n∈ZS l↔n∈l:=fun n=>zLS;generalize ZS l=L at *;have hrise:=Hid.mk hrise;have hmem:=Hid.mk hmem;have hm2:h2.mark<=h2.n:=by have:=e2.mark;have:=e2.n;omega
 refine go ?_;refine WX.loopA [17,18,19,7,20,21,22,2,3,23,24,8,25,26,9,27,28,29,30,31,32,33,34,35,36,37,38,39,40,41,42,43,5,44,45,46,47,48,49,50,51,52,53,54,55,56,57,16] (by kernel_rfl) (fun i=>L.length - i) (fun i t h3=>∃ w out,zB t 16=I i/\i<=L.length/\Ext h2 h3/\zB t 5=w/\zFW h2.n h3 w out/\Hid (Upto out (L.take i))/\out.length<=i/\Hid (∀ j,j<i->0<=L.getD j 0/\L.getD j 0<1048576)) 0 ?_ ?_
 ·exact⟨_,[],sl_,QV _,Ext.refl _,sl_,OwnR.nil,⟨zNm⟩,QF _,⟨fun j hj=>by omega⟩⟩
 rintro i t h3 hsame ⟨w,out,s16,hi,e3,s5,ow,hU,hol,hin⟩;have sl3:SlI h3 c L:=SlI.ext sl2 e3;refine go ?_;refine WX.br (fun hb=> ?_) (fun hb=> ?_)<;>simp only[DB]at hb
 ·have hi':i<L.length:=by omega
  refine go ?_;refine WO.con (zMk h3 (L.getD i 0)) ?_;rintro _ _ ⟨rfl,rfl⟩;have hmi:L.getD i 0∈L:=by rw[QE,QB hi'];exact JC hi'
  have htk:L.take (i+1)=L.take i++[L.getD i 0]:=by rw[GI];simp[List.getD,QB hi']
  have hle:∀ x∈L.take i,x<=L.getD i 0:=fun x hx=>by
   obtain⟨j,hj,rfl⟩:=List.getElem_of_mem hx;rw[Q1]at hj;rw[List.getElem_take,QE,QB hi'];exact List.pairwise_iff_getElem.1 hrise.out j i (by omega) hi' (by omega)
  have hup:=zSE hU.out hle;by_cases hw:(decide (0<=L.getD i 0)&&decide (L.getD i 0<1048576))=false
  ·rw[hw];have hE:=zP5 ((hmem.out _).1 hmi) hw;refine gr ?_;rw[hE];exact⟨⟨_,[],rfl,MineW.nil,(fun h=>by cases h),fun _=>rfl⟩,e2.trans e3⟩
  have hw:(decide (0<=L.getD i 0)&&decide (L.getD i 0<1048576))=true:=by simpa using hw
  have hn:0<=L.getD i 0/\L.getD i 0<1048576:=by simpa using hw
  rw[hw];generalize hnn:L.getD i 0=n at *;have htk:=Hid.mk htk;have hin2:Hid (∀ j,j<i+1->0<=L.getD j 0/\L.getD j 0<1048576):=⟨fun j hj=>by
   by_cases e:j=i
   ·subst e;rw[hnn];exact hn
   ·exact hin.out j (by omega)⟩
  clear hle hmi hw;have hup:=Hid.mk hup;refine go ?_;refine WO.bin zT rfl (zUw hn.1 (by omega)) ?_;have owl:=OwnR.sl ow;have hm3:h3.mark<=h2.n:=by rw[e3.mark];exact hm2
  by_cases h0:out.length=0
  ·have ho:out=[]:=Ga h0;subst ho;refine go ?_;refine WO.apRw (b:=h2.n) (R:=RW) (hB:=h2) ⟨n / 64,0⟩ (fun _=>False) ow e3 (QF _) e3.n (by decide) (by omega) (RW.dep (show (0:Nat)<18446744073709551616 by decide) (by simp only;omega) (by simp only;omega) _) (fun k hk=>hk.elim) (fun _ _ _ _ h=>h) ?_;intro w5 h5 lit e5 ow5 n5 keep5 wr5;obtain⟨va,vn,vk,rfl,_⟩:=YV ow5;obtain⟨O5,sI,lw,hO,hsI,hlw⟩:∃ (O5 sI:List LWd) (lw:LWd),O5=sI++[lw]/\sI=[]/\lw=⟨n / 64,0⟩:=⟨_,_,_,rfl,rfl,rfl⟩;have ow5:zFW h2.n h5 (.slice va vn vk) O5:=by rw[hO,hsI,hlw];exact ow5
   have hsl:sI.length=0:=by rw[hsI];rfl
   have hsl:sI.length<=i:=by omega
   have hO5:O5.length=sI.length+1:=by rw[hO];simp
   have hlO:O5.length<=20000:=by omega
   refine go ?_;refine WX.regionU2 0 rfl rfl ?_;have owX:zFW h2.n (zC 0 h5) (.slice va vn vk) O5:=OwnR.upd ow5 (fun _ _ _=>rfl) (QF _);have slX:SlW (inC (zC 0 h5)) (.slice va vn vk) O5:=OwnR.sl owX;obtain⟨cs,⟨rfl,y1,y2,y3⟩,pc,hs⟩:=zDT (i:=((O5.length:Int) - 1).toNat) slX (by omega);have hgl:O5.getD ((O5.length:Int) - 1).toNat default=lw:=by
    rw[show ((O5.length:Int) - 1).toNat=sI.length by omega,hO];simp[List.getD]
   rw[hgl]at y1 y2 y3 pc;have hsh:zd .shl (W 1) (I (n % 64))=some (W (2 ^ (n % 64).toNat)):=by
    rw[show I (n % 64)=I (((n % 64).toNat:Nat):Int) by congr 1;omega];exact(zDB (by omega)).1
   have hp2:2 ^ (n % 64).toNat<18446744073709551616:=(zDB (k:=(n % 64).toNat) (by omega)).2;have hor:=zPR y1 hp2;generalize hk2:2 ^ (n % 64).toNat=k2 at hsh hp2 hor;refine goU ?_;refine WO.bin zT rfl (zOd hn.1) ?_;refine nQ ?_;refine goU ?_;refine WO.bin rfl zT hsh ?_;refine nQ ?_;refine goU ?_;refine WO.bin zT zT hor.1 ?_;refine nQ ?_;refine goU ?_;refine WU2.stR (i:=((O5.length:Int) - 1).toNat) (off:=1) (cs:=[W (lw.bits|||k2)]) (ho:=by simp) ⟨lw.pos,lw.bits|||k2⟩ owX e5 (by rw[e5.mark];exact hm2) rfl (QF _) (by omega) (fun old hx hr ho=>by
    rw[hgl]at hr;obtain⟨rfl,r1,r2,r3⟩:=hr;exact⟨rfl,hor.2,r2,r3⟩) ?_
   intro h6 e6 ow6 n6 f6;have hset:O5.set ((O5.length:Int) - 1).toNat ⟨lw.pos,lw.bits|||k2⟩=sI++[⟨lw.pos,lw.bits|||k2⟩]:=by
    rw[show ((O5.length:Int) - 1).toNat=sI.length by omega,hO,List.set_append_right _ _ (QF _),Nat.sub_self];rfl
   rw[hset]at ow6;refine go ?_;refine zA (i+1) (by omega) ⟨_,_,sln,by omega,e6,sl_,ow6,⟨?_⟩,by simp only[QX,Qa];omega,hin2⟩;rw[htk.out,<-hk2];subst hlw hsI;have:=hU.out.new hn (fun w hw=>by cases hw);rw[Nat.zero_or];exact this
  ·obtain⟨sI,lw,hO⟩:=zMv out (fun e=>h0 (by rw[e];rfl));have hO5:out.length=sI.length+1:=by rw[hO];simp
   obtain⟨cs,⟨rfl,y1,y2,y3⟩,pc,hs⟩:=zDT (i:=((out.length:Int) - 1).toNat) owl (by omega);have hgl:out.getD ((out.length:Int) - 1).toNat default=lw:=by
    rw[show ((out.length:Int) - 1).toNat=sI.length by omega,hO];simp[List.getD]
   rw[hgl]at y1 y2 y3 pc;by_cases hat:lw.pos=n / 64
   ·refine go ?_;clear pc y1 y2 y3 hs hgl hO5;obtain⟨O5,hOO⟩:∃ O5,O5=out:=⟨_,rfl⟩;rw[<-hOO]at ow hO hol;have hsl:sI.length<=i:=by rw[hO,QX,Qa]at hol;omega
    have hO5:O5.length=sI.length+1:=by rw[hO];simp
    have hlO:O5.length<=20000:=by omega
    refine go ?_;refine WX.regionU2 0 rfl rfl ?_;have owX:zFW h2.n (zC 0 h3) w O5:=OwnR.upd ow (fun _ _ _=>rfl) (QF _);have slX:SlW (inC (zC 0 h3)) w O5:=OwnR.sl owX;obtain⟨cs,⟨rfl,y1,y2,y3⟩,pc,hs⟩:=zDT (i:=((O5.length:Int) - 1).toNat) slX (by omega);have hgl:O5.getD ((O5.length:Int) - 1).toNat default=lw:=by
     rw[show ((O5.length:Int) - 1).toNat=sI.length by omega,hO];simp[List.getD]
    rw[hgl]at y1 y2 y3 pc;have hsh:zd .shl (W 1) (I (n % 64))=some (W (2 ^ (n % 64).toNat)):=by
     rw[show I (n % 64)=I (((n % 64).toNat:Nat):Int) by congr 1;omega];exact(zDB (by omega)).1
    have hp2:2 ^ (n % 64).toNat<18446744073709551616:=(zDB (k:=(n % 64).toNat) (by omega)).2;have hor:=zPR y1 hp2;generalize hk2:2 ^ (n % 64).toNat=k2 at hsh hp2 hor;refine goU ?_;refine WO.bin zT rfl (zOd hn.1) ?_;refine nQ ?_;refine goU ?_;refine WO.bin rfl zT hsh ?_;refine nQ ?_;refine goU ?_;refine WO.bin zT zT hor.1 ?_;refine nQ ?_;refine goU ?_;refine WU2.stR (i:=((O5.length:Int) - 1).toNat) (off:=1) (cs:=[W (lw.bits|||k2)]) (ho:=by simp) ⟨lw.pos,lw.bits|||k2⟩ owX e3 (by rw[e3.mark];exact hm2) rfl (QF _) (by omega) (fun old hx hr ho=>by
     rw[hgl]at hr;obtain⟨rfl,r1,r2,r3⟩:=hr;exact⟨rfl,hor.2,r2,r3⟩) ?_
    intro h6 e6 ow6 n6 f6;have hset:O5.set ((O5.length:Int) - 1).toNat ⟨lw.pos,lw.bits|||k2⟩=sI++[⟨lw.pos,lw.bits|||k2⟩]:=by
     rw[show ((O5.length:Int) - 1).toNat=sI.length by omega,hO,List.set_append_right _ _ (QF _),Nat.sub_self];rfl
    rw[hset]at ow6;refine go ?_;refine zA (i+1) (by omega) ⟨_,_,sln,by omega,e6,sl_,ow6,⟨?_⟩,by simp only[QX,Qa];omega,hin2⟩;rw[htk.out,<-hk2];subst hOO;rw[hO]at hU;exact hU.out.old hn hat
   ·refine go ?_;refine WO.apRw (b:=h2.n) (R:=RW) (hB:=h2) ⟨n / 64,0⟩ (fun _=>False) ow e3 (QF _) e3.n (by decide) (by omega) (RW.dep (show (0:Nat)<18446744073709551616 by decide) (by simp only;omega) (by simp only;omega) _) (fun k hk=>hk.elim) (fun _ _ _ _ h=>h) ?_;intro w5 h5 lit e5 ow5 n5 keep5 wr5;obtain⟨va,vn,vk,rfl,_⟩:=YV ow5;clear pc y1 y2 y3 hs hgl hO5;have hfar:∀ x∈out,x.pos<n / 64:=fun x hx=>by
     have hle:=hup.out x hx;rcases Qf.1 (hO▸hx:x∈sI++[lw])with h|h
     ·have h1:=(List.pairwise_append.1 (hO▸hU.out.ok.rise:(sI++[lw]).Pairwise _)).2.2 x h lw (by simp);have h2:=hup.out lw (by rw[hO];simp);omega
     ·rw[QQ]at h;subst h;omega
    have hfar:=Hid.mk hfar;clear hO;obtain⟨O5,sI2,lw2,hO,hsI,hlw⟩:∃ (O5 sI:List LWd) (lw:LWd),O5=sI++[lw]/\sI=out/\lw=⟨n / 64,0⟩:=⟨_,_,_,rfl,rfl,rfl⟩;have ow5:zFW h2.n h5 (.slice va vn vk) O5:=by rw[hO,hsI,hlw];exact ow5
    have hsl:sI2.length=out.length:=by rw[hsI]
    have hsl:sI2.length<=i:=by omega
    have hO5:O5.length=sI2.length+1:=by rw[hO];simp
    have hlO:O5.length<=20000:=by omega
    refine go ?_;refine WX.regionU2 0 rfl rfl ?_;have owX:zFW h2.n (zC 0 h5) (.slice va vn vk) O5:=OwnR.upd ow5 (fun _ _ _=>rfl) (QF _);have slX:SlW (inC (zC 0 h5)) (.slice va vn vk) O5:=OwnR.sl owX;obtain⟨cs,⟨rfl,y1,y2,y3⟩,pc,hs⟩:=zDT (i:=((O5.length:Int) - 1).toNat) slX (by omega);have hgl:O5.getD ((O5.length:Int) - 1).toNat default=lw2:=by
     rw[show ((O5.length:Int) - 1).toNat=sI2.length by omega,hO];simp[List.getD]
    rw[hgl]at y1 y2 y3 pc;have hsh:zd .shl (W 1) (I (n % 64))=some (W (2 ^ (n % 64).toNat)):=by
     rw[show I (n % 64)=I (((n % 64).toNat:Nat):Int) by congr 1;omega];exact(zDB (by omega)).1
    have hp2:2 ^ (n % 64).toNat<18446744073709551616:=(zDB (k:=(n % 64).toNat) (by omega)).2;have hor:=zPR y1 hp2;generalize hk2:2 ^ (n % 64).toNat=k2 at hsh hp2 hor;refine goU ?_;refine WO.bin zT rfl (zOd hn.1) ?_;refine nQ ?_;refine goU ?_;refine WO.bin rfl zT hsh ?_;refine nQ ?_;refine goU ?_;refine WO.bin zT zT hor.1 ?_;refine nQ ?_;refine goU ?_;refine WU2.stR (i:=((O5.length:Int) - 1).toNat) (off:=1) (cs:=[W (lw2.bits|||k2)]) (ho:=by simp) ⟨lw2.pos,lw2.bits|||k2⟩ owX e5 (by rw[e5.mark];exact hm2) rfl (QF _) (by omega) (fun old hx hr ho=>by
     rw[hgl]at hr;obtain⟨rfl,r1,r2,r3⟩:=hr;exact⟨rfl,hor.2,r2,r3⟩) ?_
    intro h6 e6 ow6 n6 f6;have hset:O5.set ((O5.length:Int) - 1).toNat ⟨lw2.pos,lw2.bits|||k2⟩=sI2++[⟨lw2.pos,lw2.bits|||k2⟩]:=by
     rw[show ((O5.length:Int) - 1).toNat=sI2.length by omega,hO,List.set_append_right _ _ (QF _),Nat.sub_self];rfl
    rw[hset]at ow6;refine go ?_;refine zA (i+1) (by omega) ⟨_,_,sln,by omega,e6,sl_,ow6,⟨?_⟩,by simp only[QX,Qa];omega,hin2⟩;rw[htk.out,<-hk2];subst hlw hsI;have:=hU.out.new hn hfar.out;rw[Nat.zero_or];exact this
 ·refine gr ?_;have hiL:i=L.length:=by omega
  subst hiL;rw[GN]at hU;have hE:ofE l=0:=zEb fun n hn=>by
   obtain⟨j,hj,e⟩:=List.getElem_of_mem ((hmem.out n).2 hn);have:=hin.out j hj;rwa [QE,QB hj,Q7,e]at this
  rw[hE];subst s5;exact⟨⟨_,out,rfl,⟨h2.n,e2.n,ow⟩,fun _=>hU.out.perm hmem.out,fun h=>absurd rfl h⟩,e2.trans e3⟩
theorem ZV (f:Nat->Nat->Nat):∀ A B:List LWd,(zn f A B).length<=A.length+B.length
 |[],[]=>by rw[zn];exact QF _
 |x::a,[]=>by
  have:=ZV f a [];rw[zn];unfold zAm;split<;>simp only[Q2,Gh]at * <;>omega
 |[],y::b=>by
  have:=ZV f [] b;rw[zn];unfold zAm;split<;>simp only[Q2,Gh]at * <;>omega
 |x::a,y::b=>by
  rw[zn];have h1:=ZV f a (y::b);have h2:=ZV f (x::a) b;have h3:=ZV f a b;unfold zAm;split
  ·split<;>simp only[Q2]at * <;>omega
  ·split
   ·split<;>simp only[Q2]at * <;>omega
   ·split<;>simp only[Q2]at * <;>omega
 termination_by A B=>A.length+B.length
theorem zAK {s:List LWd} (h:OkW s):yF (-1) s=true:=(zKv h.bd).2 h
abbrev orL (A B:List LWd):=zn (fun a b=>a|||b) A B
abbrev zVQ (A B:List LWd):=zn zC1 A B
theorem zSr {A B:List LWd} (ha:OkW A) (hb:OkW B):OkW (orL A B)/\∀ n,inB (orL A B) n=(inB A n||inB B n):=let ⟨a,b,_⟩:=YF bit_or ha hb;⟨a,b⟩
theorem zTk {A B:List LWd} (ha:OkW A) (hb:OkW B):OkW (zVQ A B)/\∀ n,inB (zVQ A B) n=(inB A n&& !inB B n):=let ⟨a,b,_⟩:=YF bit_not ha hb;⟨a,b⟩
theorem zEx {A B:List LWd} (ha:OkW A) (hb:OkW B):zDW A B=0:=by unfold zDW;rw[zAK ha,zAK hb];rfl
theorem zEw {f:Nat->Nat->Nat} {A B:List LWd} (ha:OkW A) (hb:OkW B):zGA f A B=zn f A B:=by unfold zGA;rw[zAK ha,zAK hb];rfl
section
variable {P:Program} {tab:Tab} {t:Trie Value} {h:AHeap} {ds:List Deferred} {rd:Option Nat} {l:List AOper} {Q:AFr->AHeap->Prop}
end
def Z2 (x:LIns):List Int:=if x.op=22 then [] else yg x
def zFb (E:Int->Prop):List LIns->Int->Int->Prop
 |[],_,r=>E r
 |x::l,k,r=>r∈Z2 x\/(r≠k/\zFb E l (k+1) r)
def YU (par:Int) (L:List LBlk) (b:Int):Int:=par+zt (L.take b.toNat)
def ZC (par:Int) (L:List LBlk) (b:Int) (k:Nat) (E:Int->Prop) (r:Int):Prop:=
 zFb (fun r=>r∈yQ (L.getD b.toNat default).fin\/E r) ((L.getD b.toNat default).ins.drop k) (YU par L b+k) r
def Yw:List Int->List Int->Int->List Int
 |f::fs,a::gs,b=>if f=b then a::Yw fs gs b else Yw fs gs b
 |_,_,_=>[]
def zAv (B:LBlk) (from':Int):List Int:=B.ins.flatMap fun x=>if x.op=22 then Yw x.frm x.args from' else []
def zAX (L:List LBlk) (B:Int->Int->Prop) (b r:Int):Prop:=∃ k∈nxL L b,B k r\/r∈zAv (L.getD k.toNat default) b
theorem zEA {E E':Int->Prop} (h:∀ r,E r->E' r):∀ (l:List LIns) (k r:Int),zFb E l k r->zFb E' l k r
 |[],_,r,q=>h r q
 |x::l,k,r,q=>q.imp id fun ⟨a,b⟩=>⟨a,zEA h l (k+1) r b⟩
theorem yZ {par:Int} {L:List LBlk} {b:Int} {k:Nat} {E E':Int->Prop} (h:∀ r,E r->E' r) {r:Int} (q:ZC par L b k E r):ZC par L b k E' r:=
 zEA (fun r q=>q.imp id (h r)) _ _ _ q
theorem Yi {L:List LBlk} {B B':Int->Int->Prop} {b r:Int} (h:∀ k∈nxL L b,∀ r,B k r->B' k r) (q:zAX L B b r):zAX L B' b r:=
 let ⟨k,hk,q⟩:=q;⟨k,hk,q.imp (h k hk r) id⟩
structure Clo (par:Int) (L:List LBlk) (B E:Int->Int->Prop):Prop where
 e:∀ b r,0<=b->b<(L.length:Int)->zAX L B b r->E b r
 b:∀ b r,0<=b->b<(L.length:Int)->ZC par L b 0 (E b) r->B b r
structure LFix (par:Int) (L:List LBlk) (B E:Int->Int->Prop):Prop where
 e:∀ b r,0<=b->b<(L.length:Int)->(E b r↔zAX L B b r)
 b:∀ b r,0<=b->b<(L.length:Int)->(B b r↔ZC par L b 0 (E b) r)
 least:∀ B' E',Clo par L B' E'->∀ b r,0<=b->b<(L.length:Int)->(B b r->B' b r)/\(E b r->E' b r)
theorem LFix.clo {par L B E} (h:LFix par L B E):Clo par L B E:=⟨fun b r h1 h2 q=>(h.e b r h1 h2).2 q,fun b r h1 h2 q=>(h.b b r h1 h2).2 q⟩
theorem zDF {par:Int} {L:List LBlk} {b:Int} {E:Int->Prop} {r:Int} {k:Nat} (hk:(L.getD b.toNat default).ins.length<=k):ZC par L b k E r↔r∈yQ (L.getD b.toNat default).fin\/E r:=by
 unfold ZC;rw[JK hk];exact Iff.rfl
theorem zO3 {l:List LIns} {i:Nat} (h:i<l.length):l.drop i=l.getD i default::l.drop (i+1):=by
 rw[Qx h,QE,QB h];rfl
theorem zBt {par:Int} {L:List LBlk} {b:Int} {E:Int->Prop} {r:Int} {k:Nat} (hk:k<(L.getD b.toNat default).ins.length):
  ZC par L b k E r↔r∈Z2 ((L.getD b.toNat default).ins.getD k default)\/(r≠YU par L b+k/\ZC par L b (k+1) E r):=by
 unfold ZC;rw[zO3 hk,zFb];rw[show YU par L b+(k:Int)+1=YU par L b+((k+1:Nat):Int) by omega]
abbrev Z6:=List (List LWd)
def inS (s:Z6) (b r:Int):Prop:=InW (s.getD b.toNat []) r
structure WInv (par:Int) (L:List LBlk) (N:Int) (bg ed:Z6) (K:Int->Prop):Prop where
 lb:bg.length=L.length
 le:ed.length=L.length
 okb:∀ s∈bg,OkW s/\∀ r,InW s r->r<N
 oke:∀ s∈ed,OkW s/\∀ r,InW s r->r<N
 low:∀ b r,0<=b->b<(L.length:Int)->inS ed b r->zAX L (inS bg) b r
 sub:∀ b r,0<=b->b<(L.length:Int)->inS bg b r->ZC par L b 0 (inS ed b) r
 done:∀ b,0<=b->b<(L.length:Int)->¬K b->(∀ r,zAX L (inS bg) b r->inS ed b r)/\∀ r,ZC par L b 0 (inS ed b) r->inS bg b r
 least:∀ B' E',Clo par L B' E'->∀ b r,0<=b->b<(L.length:Int)->(inS bg b r->B' b r)/\(inS ed b r->E' b r)
theorem ZP {s:Z6} {b c r:Int} {x:List LWd} (hb:0<=b) (hb2:b<(s.length:Int)) (hc:0<=c):inS (s.set b.toNat x) c r↔if c=b then InW x r else inS s c r:=by
 unfold inS;by_cases e:c=b
 ·subst e;rw[QI rfl,QE,JJ (by omega)];rfl
 ·rw[QD e,QE,List.getElem?_set_ne (by omega),<-QE]
theorem zPT {s:Z6} {i:Nat} {x:List LWd} {P:List LWd->Prop} (h:∀ y∈s,P y) (hx:P x):∀ y∈s.set i x,P y:=fun y hy=>by
 rcases List.mem_or_eq_of_mem_set hy with h1|h1
 ·exact h y h1
 ·rw[h1];exact hx
theorem WInv.look {par:Int} {L:List LBlk} {N:Int} {bg ed:Z6} {K K':Int->Prop} {b:Int} {s1 s:List LWd} (I:WInv par L N bg ed K) (hb:0<=b) (hb2:b<(L.length:Int)) (hn:∀ c,0<=c->c<(L.length:Int)->∀ k∈nxL L c,0<=k/\k<(L.length:Int))
  (h1:OkW s1/\∀ r,InW s1 r->r<N) (h2:OkW s/\∀ r,InW s r->r<N) (m1:∀ r,InW s1 r↔inS ed b r\/zAX L (inS bg) b r) (m2:∀ r,InW s r↔ZC par L b 0 (InW s1) r)
  (hK:∀ c,0<=c->c<(L.length:Int)->¬K' c->(c=b\/¬K c)/\(s=bg.getD b.toNat []\/b∉nxL L c)):WInv par L N (bg.set b.toNat s) (ed.set b.toNat s1) K':=by
 have hbl:b<(bg.length:Int):=by rw[I.lb];exact hb2
 have hel:b<(ed.length:Int):=by rw[I.le];exact hb2
 have gb:∀ c r,0<=c->c<(L.length:Int)->inS bg c r->inS (bg.set b.toNat s) c r:=fun c r hc hc2 q=>by
  rw[ZP hb hbl hc];by_cases e:c=b
  ·subst e;rw[QI rfl,m2];exact yZ (fun r q=>(m1 r).2 (.inl q)) (I.sub c r hc hc2 q)
  ·rw[QD e];exact q
 have ge:∀ r,zAX L (inS bg) b r->zAX L (inS (bg.set b.toNat s)) b r:=fun r q=>Yi (fun k hk r q=>gb k r (hn b hb hb2 k hk).1 (hn b hb hb2 k hk).2 q) q;have same:∀ c,0<=c->c<(L.length:Int)->(s=bg.getD b.toNat []\/b∉nxL L c)->∀ r,zAX L (inS (bg.set b.toNat s)) c r->zAX L (inS bg) c r:=fun c hc hc2 hs r q=>
  Yi (fun k hk r q=>by
   rw[ZP hb hbl (hn c hc hc2 k hk).1]at q;by_cases e:k=b
   ·subst e;rw[QI rfl]at q;rcases hs with hs|hs
    ·rw[hs]at q;exact q
    ·exact absurd hk hs
   ·rw[QD e]at q;exact q) q
 refine⟨by rw[GJ];exact I.lb,by rw[GJ];exact I.le,zPT I.okb h2,zPT I.oke h1,fun c r hc hc2 q=> ?_,fun c r hc hc2 q=> ?_,fun c hc hc2 hk=> ?_,fun B' E' hcl c r hc hc2=> ?_⟩
 ·rw[ZP hb hel hc]at q;by_cases e:c=b
  ·subst e;rw[QI rfl,m1]at q;exact ge r (q.elim (I.low c r hc hc2) id)
  ·rw[QD e]at q;exact Yi (fun k hk r q=>gb k r (hn c hc hc2 k hk).1 (hn c hc hc2 k hk).2 q) (I.low c r hc hc2 q)
 ·rw[ZP hb hbl hc]at q;by_cases e:c=b
  ·subst e;rw[QI rfl,m2]at q;exact yZ (fun r q=>by rw[ZP hb hel hc,QI rfl];exact q) q
  ·rw[QD e]at q;exact yZ (fun r q=>by rw[ZP hb hel hc,QD e];exact q) (I.sub c r hc hc2 q)
 ·obtain⟨k1,k2⟩:=hK c hc hc2 hk;by_cases e:c=b
  ·subst e;refine⟨fun r q=> ?_,fun r q=> ?_⟩
   ·rw[ZP hb hel hc,QI rfl,m1];exact .inr (same c hc hc2 k2 r q)
   ·rw[ZP hb hbl hc,QI rfl,m2];exact yZ (fun r q=>by rw[ZP hb hel hc,QI rfl]at q;exact q) q
  ·obtain⟨d1,d2⟩:=I.done c hc hc2 (k1.resolve_left e);refine⟨fun r q=> ?_,fun r q=> ?_⟩
   ·rw[ZP hb hel hc,QD e];exact d1 r (same c hc hc2 k2 r q)
   ·rw[ZP hb hbl hc,QD e];exact d2 r (yZ (fun r q=>by rw[ZP hb hel hc,QD e]at q;exact q) q)
 ·have he:∀ r,InW s1 r->E' b r:=fun r q=>((m1 r).1 q).elim (fun q=>(I.least B' E' hcl b r hb hb2).2 q) fun q=>hcl.e b r hb hb2 (Yi (fun k hk r q=>(I.least B' E' hcl k r (hn b hb hb2 k hk).1 (hn b hb hb2 k hk).2).1 q) q);constructor
  ·intro q;rw[ZP hb hbl hc]at q;by_cases e:c=b
   ·subst e;rw[QI rfl,m2]at q;exact hcl.b c r hc hc2 (yZ he q)
   ·rw[QD e]at q;exact(I.least B' E' hcl c r hc hc2).1 q
  ·intro q;rw[ZP hb hel hc]at q;by_cases e:c=b
   ·subst e;rw[QI rfl]at q;exact he r q
   ·rw[QD e]at q;exact(I.least B' E' hcl c r hc hc2).2 q
theorem WInv.fix {par:Int} {L:List LBlk} {N:Int} {bg ed:Z6} {K:Int->Prop} (I:WInv par L N bg ed K) (hK:∀ b,0<=b->b<(L.length:Int)->¬K b):LFix par L (inS bg) (inS ed):=
 ⟨fun b r h1 h2=>⟨I.low b r h1 h2,(I.done b h1 h2 (hK b h1 h2)).1 r⟩,fun b r h1 h2=>⟨I.sub b r h1 h2,(I.done b h1 h2 (hK b h1 h2)).2 r⟩,I.least⟩
theorem zD3 {n:Nat} {b r:Int}:¬inS (List.replicate n []) b r:=by
 unfold inS;rintro⟨w,hw,_⟩;rw[QE,Gt]at hw;split at hw<;>cases hw
theorem WInv.start (par:Int) (L:List LBlk) (N:Int) {K:Int->Prop} (hK:∀ b,0<=b->b<(L.length:Int)->K b):WInv par L N (List.replicate L.length []) (List.replicate L.length []) K:=by
 have hr:∀ s∈(List.replicate L.length ([]:List LWd)),OkW s/\∀ r,InW s r->r<N:=fun s hs=>by
  rw[List.eq_of_mem_replicate hs];exact⟨OkW.nil,fun r ⟨_,h,_⟩=>by cases h⟩
 exact⟨by simp,by simp,hr,hr,fun b r _ _ q=>absurd q zD3,fun b r _ _ q=>absurd q zD3,fun b h1 h2 hk=>absurd (hK b h1 h2) hk,fun _ _ _ b r _ _=>⟨fun q=>absurd q zD3,fun q=>absurd q zD3⟩⟩
def YW (bg:Z6):Nat:=(bg.map fun s=>(zv s).length).sum
theorem zKp {s:List LWd} {N:Nat} (h:OkW s) (hr:∀ r,InW s r->r<(N:Int)):(zv s).length<=N:=by
 have hd:(zv s).Nodup:=(zAj h).imp fun h=>by omega
 have:=List.Nodup.length_le_of_subset hd (l₂:=(List.range N).map fun (i:Nat)=>(i:Int)) fun x hx=>by
  have h1:=(YL h).1 hx;have h2:=h1.range h;have h3:=hr x h1;exact Q0.2 ⟨x.toNat,GH.2 (by omega),by omega⟩
 simpa using this
theorem zIu {N:Nat}:∀ {bg:Z6},(∀ s∈bg,OkW s/\∀ r,InW s r->r<(N:Int))->YW bg<=bg.length * N
 |[],_=>QV _
 |s::bg,h=>by
  have h1:=h s (QS ..);have h2:=zKp h1.1 h1.2;have h3:=zIu (bg:=bg) fun t ht=>h t (Qc _ ht);unfold YW at *;rw[Qh,List.sum_cons,Q2,Gj];omega
theorem zF2:∀ {bg:Z6} {i:Nat} {s:List LWd},i<bg.length->YW (bg.set i s)+(zv (bg.getD i [])).length=YW bg+(zv s).length
 |[],i,s,h=>absurd h (GG _)
 |t::bg,0,s,_=>by unfold YW;simp[List.getD];omega
 |t::bg,i+1,s,h=>by
  have:=zF2 (bg:=bg) (i:=i) (s:=s) (by simpa using h);unfold YW at *;simp only[List.set_cons_succ,Qh,List.sum_cons,List.getD_cons_succ]at *;omega
theorem zMf {s t:List LWd} (hs:OkW s) (ht:OkW t) (h:∀ r,InW s r->InW t r) (hne:t≠s):(zv s).length<(zv t).length:=by
 have hd:(zv s).Nodup:=(zAj hs).imp fun h=>by omega
 have hdt:(zv t).Nodup:=(zAj ht).imp fun h=>by omega
 have hex:∃ r,InW t r/\¬InW s r:=by
  by_cases q:∃ r,InW t r/\¬InW s r
  ·exact q
  ·exact absurd (zKR ht hs fun r=>⟨fun a=>JE fun b=>q ⟨r,a,b⟩,h r⟩) hne
 obtain⟨r,r1,r2⟩:=hex;have hc:(r::zv s).Nodup:=G7.2 ⟨fun q=>r2 ((YL hs).1 q),hd⟩;have:=List.Nodup.length_le_of_subset hc (l₂:=zv t) fun x hx=>by
  rcases Qj.1 hx with rfl|hx
  ·exact(YL ht).2 r1
  ·exact(YL ht).2 (h x ((YL hs).1 hx))
 rw[Q2]at this;omega
end
end Go.Proofs.YteekipjpghikkaaGreatDoor
