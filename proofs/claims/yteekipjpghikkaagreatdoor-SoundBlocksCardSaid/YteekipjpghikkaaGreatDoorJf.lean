/- What functions of the program come to in the abstract machine, and plain laws about it; no statement of the seat is proved in this text. -/
import Derived.Test.YteekipjpghikkaaGreatDoorJe
import Derived.Test.YteekipjpghikkaaGreatDoorJd
import Derived.Test.YteekipjpghikkaaGreatDoorJb
import Derived.Test.YteekipjpghikkaaGreatDoorAmU
import Derived.Test.YteekipjpghikkaaGreatDoorAmV
set_option linter.unusedVariables false
set_option linter.unusedSimpArgs false
set_option maxHeartbeats 1000000
namespace Go.Proofs.YteekipjpghikkaaGreatDoor
noncomputable section
open Go.Am
theorem zC5 {x:Int} {l:List Int}:x∈ZS l↔x∈l:=(JF l _).mem_iff
theorem zL4 (l:List Int):(ZS l).length=l.length:=(JF l _).length_eq
theorem zEj {L:List LBlk} {a b:Int} (h:0<=a/\a<(L.length:Int)):a∈zK L b L.length↔b∈nxL L a:=by
 unfold zK nxL;simp only[Q0,Gf,GH,Qb];constructor
 ·rintro⟨i,⟨_,h1⟩,rfl⟩;rw[GQ];exact h1
 ·intro h1;exact⟨a.toNat,⟨by omega,h1⟩,by omega⟩
theorem Y6 {L:List LBlk} {a b:Int}:a∈zK L b L.length↔(0<=a/\a<(L.length:Int))/\b∈nxL L a:=by
 constructor
 ·intro h;have h':=h;unfold zK at h';simp only[Q0,Gf,GH]at h';obtain⟨i,⟨hi,_⟩,rfl⟩:=h';exact⟨by omega,(zEj (by omega)).1 h⟩
 ·rintro⟨h1,h2⟩;exact(zEj h1).2 h2
theorem Yh {T:List LType} {F:List LFn} {f b:Int} (h:(zD T F f 0).2=0):b∈(yM T F f).1↔Way (nxL (zD T F f 0).1) 0 b:=by
 obtain⟨_,hpos,_,_⟩:=yh h;obtain⟨hlen,hin⟩:=Zc h;unfold yM;rw[QD (by rw[h];exact fun e=>e rfl)];simp only;rw[zC5];unfold Yn;rw[zKX hin (fun c hc=>by rw[QQ]at hc;subst hc;exact⟨Qi _,hpos⟩)];simp
theorem zGU {T:List LType} {F:List LFn} {f b:Int}:(yd T F f b).2=(zD T F f b).2:=by
 unfold yd;split
 ·rfl
 ·rename_i h;simp only[ne_eq,Decidable.not_not]at h;exact h.symm
theorem zGQ {T:List LType} {F:List LFn} {f:Int}:(yM T F f).2=(zD T F f 0).2:=by
 unfold yM;split
 ·rfl
 ·rename_i h;simp only[ne_eq,Decidable.not_not]at h;exact h.symm
set_option maxRecDepth 100000
def zMa:ACode:=(oV (oV (oR [oM 7 3,oC .geq 8 7 0]) (oT 8 0)) (oV (o5 1 (oV (oR [oM 11 0,oM 12 3,oL 13 1,oM 14 3,oI 1 15 13 14,oL 16 15,⟨some 17,none,(.call (.tmp 11) [(.tmp 12),(.tmp 16)])⟩,oW 18 17]) (oJ 18 .ret .skip))) (oR [oM 9 3,oC .sub 10 9 1,oM 3 10])))
def zRI:ACode:=(oV (oR [oL 4 1,oQ 5 4,oC .sub 6 5 1,oM 3 6]) (o5 0 (.loop zMa)))
theorem zG7 (hA h:AHeap) (y p v:Value) (l:List Int) (hl:(l.length:Int)<=1000000000) (J:Nat->AHeap->Prop) (h0:J 0 h) (hr:∀ i h',J i h'->OwnC hA h' p [v]/\SlI h' v l)
  (hy:∀ i h',i<l.length->J i h'->WV Tryz.prog tb y [I ((l.length:Int) - 1 - i),I (l.getD (l.length - 1 - i) 0)] h' fun r h''=>r= .bool true/\J (i+1) h''):
  WC Tryz.prog tb 209 [y,p] h fun _ h'=>J l.length h':=by
 obtain⟨o,s⟩:=hr 0 h h0;obtain⟨_,_,_,rfl⟩:=SlC.shape s;have hr:=Hid.mk hr;have hy:=Hid.mk hy;refine en 19 [] zRI ?_;refine WX.loopA [7,8,11,12,13,14,15,16,17,18,9,10,3] (by kernel_rfl) (fun i=>l.length - i) (fun i t h1=>zB t 3=I ((l.length:Int) - 1 - i)/\i<=l.length/\J i h1) 0 ?_ ?_
 ·exact⟨by rw[show (l.length:Int) - 1 - ((0:Nat):Int)=l.length - 1 by omega];exact sl_,QV _,h0⟩
 rintro i t h1 hsame ⟨s3,hi,j1⟩;obtain⟨o1,s1⟩:=hr.out i h1 j1;refine go ?_;refine WX.br (fun hb=> ?_) (fun hb=> ?_)<;>simp only[DB]at hb
 ·have hi':i<l.length:=by omega
  have hidx:((l.length:Int) - 1 - i).toNat=l.length - 1 - i:=by omega
  refine go ?_;have hyi:=hy.out i h1 hi' j1;rw[<-hidx]at hyi;refine WO.conV hyi ?_;rintro _ h2 ⟨rfl,j2⟩;refine go ?_;exact zA (i+1) (by omega) ⟨by rw[show (l.length:Int) - 1 - ((i+1:Nat):Int)=l.length - 1 - i - 1 by omega];exact sl_,by omega,j2⟩
 ·refine go ?_;refine rtN ?_;have:i=l.length:=by omega
  subst this;exact j1
def zSZ:ACode:=(oV (oR [oX 1 0,⟨some 2,none,(.mov (.const .nilFunc))⟩]) (oV (oR [⟨some 3,none,(.mkFunc (.func 209) [] [(.tmp 1)])⟩,oM 2 3]) .ret))
theorem zIO (h:AHeap) (v:Value):
  WC Tryz.prog tb 188 [v] h fun r h'=>(∃ p,r= .func (.func 209) #[] #[p]/\OwnC h h' p v.cells.toList)/\Ext h h':=by
 refine en 4 [(2,none)] zSZ ?_;refine WO.bx ?_;intro p h1 e1 o1;refine gr ?_;exact⟨⟨p,rfl,o1⟩,e1⟩
theorem zPj (l:List Int) {i:Nat} (hi:i<l.length):l.reverse.take (i+1)=l.reverse.take i++[l.getD (l.length - 1 - i) 0]:=by
 rw[GI,List.getElem?_reverse hi];simp[List.getD,QB (show l.length - 1 - i<l.length by omega)]
def zRA:ACode:=(oV (oR [oX 2 0,⟨some 4,none,(.alloc [(.slice none 0 0)])⟩,oN 5 0]) (oV (oR [oA 2 10 2,oM 11 1,⟨some 12,none,(.call (.func 44) [(.tmp 10),(.tmp 11),(.const (.int .i64 0))])⟩,oM 9 12,oE 13 9 0,oE 14 9 1,oM 6 13,oM 5 14]) (oV (oV (oR [oM 15 5,oC .neq 16 15 0]) (oJ 16 (oV (oR [oM 17 5,⟨none,none,(.store 1 (.tmp 4) (.const (.slice none 0 0)))⟩,oM 5 17]) .ret) .skip)) (oV (oV (oR [oM 18 6,⟨some 19,none,(.buildSlice 1 1 [(.int .i64 0)] [(0,1,(.const (.int .i64 0)))])⟩,o2 20 108 18 19,o1 21 188 20]) (o5 0 (.rangeFunc (.tmp 21) [22,23] (oR [oM 8 23]) (o5 1 (oR [oL 24 4,oM 25 8,⟨some 26,none,(.buildSlice 1 1 [(.int .i64 0)] [(0,1,(.tmp 25))])⟩,oY 1 27 24 26,oS 1 4 27]))))) (oV (oR [oL 28 4,oS 1 4 28,oN 5 0]) .ret)))))
theorem zNw (h:AHeap) (vt vf:Value) (T:List LType) (F:List LFn) (f:Int) (tt:Tbl h) (hm:h.mark<=h.n) (sm:Small T F) (st:SlT h vt T) (sf:SlF h vf F):
  WC Tryz.prog tb 138 [.agg #[vt,vf],I f] h fun r h'=>(∃ v,r= .tuple #[v,I (zU T F f).2]/\OwnN h h' v (zU T F f).1)/\Ext h h':=by
 refine en 29 [(4,some (false,1)),(5,none)] zRA ?_;refine WO.bx ?_;intro p h1 e1 o1;refine go ?_;refine WO.al ?_;intro p4 h2 e2 o2;have o2:=o2.since e1;have o1:=o1.ext e2;have e02:=e1.trans e2;refine go ?_;refine WO.con (zBO h2 vt vf T F f 0 (tt.ext e02) (yA e02 hm) sm (st.ext e02) (SlF.ext sf e02)) ?_;rintro _ h3 ⟨⟨v,rfl,sb⟩,e3⟩;have e03:=e02.trans e3;have o3:=o2.ext e3;refine go ?_;refine WX.br (fun hb=> ?_) (fun hb=> ?_)<;>simp only[DB]at hb<;>refine go ?_
 ·refine WO.stC0 o3 e03 ?_;intro h4 e4 o4 _;refine go ?_;rw[show zU T F f=([],(zD T F f 0).2) from by rw[zU,QI hb]];refine rt ?_ (Res.consB sl_ o4 rfl (Res.cons sl_ Res.nil));exact⟨⟨_,rfl,.inl ⟨rfl,rfl⟩⟩,e4⟩
 have hb0:(zD T F f 0).2=0:=by omega
 obtain⟨hlen,hnx⟩:=Zc hb0;obtain⟨_,hpos,_,_⟩:=yh hb0;have hr0:∀ c∈([0]:List Int),0<=c/\c<((zD T F f 0).1.length:Int):=fun c hc=>by
  rw[QQ]at hc;subst hc;exact⟨Qi _,hpos⟩
 have hlp:=zEL hnx [0] hr0;rw[show zU T F f=((Yn T F f).reverse,0) from by rw[zU,QD (by omega)]];refine WO.bl [0] ?_;intro v4 h4 e4 o4;have e04:=e03.trans e4;have o24:=o3.ext e4;refine go ?_;refine WO.con (zLA h4 (yA e04 hm) _ v v4 [0] (SlB.ext sb e4) (by omega) hnx o4.sl (by decide) hr0) ?_;rintro q h5 ⟨o5,e5⟩;have e05:=e04.trans e5;have o25:=o24.ext e5;obtain⟨qa,qn,qk,rfl⟩:=SlC.shape o5.sl;refine go ?_;refine WO.con (zIO h5 _) ?_;rintro _ h6 ⟨⟨p6,rfl,o6⟩,e6⟩;have e06:=e05.trans e6;have o26:=o25.ext e6;have o56:=(o5.ext e6).since (Ext.refl h4);have hpl:Yn T F f=(Zl (nxL (zD T F f 0).1) (zD T F f 0).1.length [0] ([],[])).2:=rfl;rw[<-hpl]at hlp o56 o5;generalize Yn T F f=l at hlp o56 o5 |-;clear hpl;refine go ?_;refine WX.rangeG ?_;intro L g r hO rdy eO hL hg lL lg;have eOb:=e06.trans eO;obtain⟨g4,hg4,rfl⟩:∃ g4,g4<h4.n/\p4= .pointer (some ⟨g4,0,none⟩):=let ⟨g,_,a,b,_⟩:=o24;⟨g,a,b⟩;have oO:=o26.ext eO;refine WV.func ?_;refine WC.mono (zG7 h5 hO _ p6 (.slice qa qn qk) l (by omega) (fun i h'=>Ext h h'/\UpdC (.pointer (some ⟨g4,0,none⟩)) h6 h'/\Lies h' L (.loop r)/\Lies h' g (.deferred (some []))/\∃ w,OwnC h h' (.pointer (some ⟨g4,0,none⟩)) [w]/\OwnN h6 h' w (l.reverse.take i)) ?_ ?_ ?_) ?_
 ·exact⟨eOb,(UpdC.refl _ h6).extd eO,lL,lg,.slice none 0 0,oO,.inl ⟨rfl,rfl⟩⟩
 ·rintro i h' ⟨_,u',_⟩;exact⟨o6.offC u' (QG hg4 e5.n),(o56.offC u' hg4).sl⟩
 ·rintro i h' hi ⟨e',u',lL',lg',w,ow,on⟩;refine WV.yieldG lL' rdy rfl ?_;simp only[zA8];refine go ?_;refine zBE ?_;intro j2 hh2;have e2':Ext h j2:=by rw[hh2];exact e'.set (QW e06.n hL) lL'.1 _
  have u2':UpdC (.pointer (some ⟨g4,0,none⟩)) h6 j2:=by rw[hh2];exact u'.setL hL
  have ow2:OwnC h j2 (.pointer (some ⟨g4,0,none⟩)) [w]:=by rw[hh2];exact ow.setR lL' rfl
  have on2:OwnN h6 j2 w (l.reverse.take i):=by rw[hh2];exact on.setR lL' rfl
  have lL2:Lies j2 L (.loop (busy r)):=by rw[hh2];exact lL'.self
  have lg2:Lies j2 g (.deferred (some [])):=by
   rw[hh2];refine lg'.set ?_;intro e;subst e;have:=lg'.2;rw[lL'.2]at this;cases this
  clear hh2;obtain⟨_,_,_,rfl⟩:=SlC.shape on2.sl;refine go ?_;refine WO.bl [l.getD (l.length - 1 - i) 0] ?_;intro v3 j3 e3' o3';refine go ?_;have e03':=e2'.trans e3';have htl:(l.reverse.take i).length<=i:=by rw[Q1];omega
  have on3:=on2.ext e3';refine WO.appendF (v:= .slice _ _ _) (w:=v3) (by exact zT) (by exact zT) (on3.since e06) o3'.sl e03' (by simp) (by simp only[Qa];omega) ?_;intro j4 e4' o4' u4';have ow4:=OwnC.upd (ow2.ext e3') (on3.since e06) u4';have lL4:=(lL2.ext e3').upd rfl on3 u4';have lg4:=(lg2.ext e3').upd rfl on3 u4';have u4:=(u2'.extd e3').upd on3 u4';refine go ?_;refine WO.stC0 ow4 e4' ?_;intro j5 e5' ow5 u5';have on5:=(OwnI.updC o4' ow4 u5').rebase (QW u2'.1 e3'.n);have lL5:=lL4.updC rfl ow4 u5';have lg5:=lg4.updC rfl ow4 u5';have u5:=u4.trans u5';refine go ?_;refine zA7 lL5 ?_;have tk:=zPj l hi;refine⟨rfl,e5'.set (QW e06.n hL) lL5.1 _,u5.setL hL,lL5.self,lg5.set ?_,_,ow5.setR lL5 rfl,?_⟩
  ·intro e;subst e;have:=lg5.2;rw[lL5.2]at this;cases this
  ·rw[tk];exact(OwnN.setR (.inr on5) lL5 rfl)
 ·rintro _ j2 ⟨e2',u2',lL2,lg2,w,ow,on⟩;refine⟨lL2,fun r3=> ?_⟩;have lgL:g≠L:=by intro e;subst e;have:=lg2.2;rw[lL2.2]at this;cases this
  obtain⟨j3,hh3⟩:∃ j3,j3=j2.set L (.loop r3):=⟨_,rfl⟩;have e3':Ext h j3:=by rw[hh3];exact e2'.set (QW e06.n hL) lL2.1 _
  have ow3:OwnC h j3 (.pointer (some ⟨g4,0,none⟩)) [w]:=by rw[hh3];exact ow.setR lL2 rfl
  have on3:OwnN h6 j3 w (l.reverse.take l.length):=by rw[hh3];exact on.setR lL2 rfl
  have lg3:Lies j3 g (.deferred (some [])):=by rw[hh3];exact lg2.set lgL
  rw[<-hh3];clear hh3;obtain⟨_,_,_,rfl⟩:=SlC.shape on3.sl;rw[Q5 (by rw[List.length_reverse];exact QF _)]at on3;refine go ?_;refine WO.stC0 ow3 e3' ?_;intro j4 e4' ow4 u4';have lg4:=lg3.updC rfl ow3 u4';have on4:=on3.offC u4' (QG hg4 (e5.trans e6).n);refine go ?_;refine zEM lg4 ?_;refine rt ?_ (Res.consB sl_ (ow4.setR lg4 rfl) rfl (Res.cons sl_ Res.nil));exact⟨⟨_,rfl,(on4.setR lg4 rfl).since e06⟩,e4'.set (QW e06.n hg) lg4.1 _⟩
def Ord (nx:Int->List Int) (d:List Int):Prop:=∀ d1 u d2,d=d1++u::d2->∀ v∈nx u,v∈d1\/Way nx v u
theorem Ord.snoc {nx:Int->List Int} {d:List Int} {b:Int} (h:Ord nx d) (k:∀ v∈nx b,v∈d\/Way nx v b):Ord nx (d++[b]):=by
 intro d1 u d2 e v hv;rcases List.eq_nil_or_concat d2 with rfl|⟨d3,x,rfl⟩
 ·have:=List.append_inj' (s₁:=d) (t₁:=[b]) (s₂:=d1) (t₂:=[u]) e rfl;obtain⟨rfl,e2⟩:=this;cases e2;exact k v hv
 ·have e':d++[b]=(d1++u::d3)++[x]:=by rw[e];simp
  obtain⟨e1,e2⟩:=List.append_inj' e' rfl;exact h d1 u d3 e1 v hv
structure Lv (nx:Int->List Int) (s t:DS):Prop where
 bg:∀ c,Bg s c->Bg t c
 dn:∀ c∈t.2,Bg t c
 nd:t.2.Nodup
 ord:Ord nx t.2
 open_:∀ c,Bg t c->c∈t.2\/Bg s c/\c∉s.2
 old:∀ c∈t.2,c∈s.2\/¬Bg s c
 keep:∀ c∈s.2,c∈t.2
theorem Lv.refl {nx:Int->List Int} {s:DS} (dn:∀ c∈s.2,Bg s c) (nd:s.2.Nodup) (ord:Ord nx s.2):Lv nx s s:=
 ⟨fun _ h=>h,dn,nd,ord,fun c h=>by by_cases e:c∈s.2<;>simp[e,h],fun c h=> .inl h,fun _ h=>h⟩
theorem Lv.trans {nx:Int->List Int} {s t u:DS} (a:Lv nx s t) (b:Lv nx t u):Lv nx s u where
 bg:=fun c h=>b.bg c (a.bg c h)
 dn:=b.dn
 nd:=b.nd
 ord:=b.ord
 open_:=fun c h=>by
  rcases b.open_ c h with h|⟨h1,h2⟩
  ·exact .inl h
  ·rcases a.open_ c h1 with h|h
   ·exact absurd h h2
   ·exact .inr h
 old:=fun c h=>by
  rcases b.old c h with h|h
  ·exact a.old c h
  ·exact .inr fun e=>h (a.bg c e)
 keep:=fun c h=>b.keep c (a.keep c h)
theorem zTP {nx:Int->List Int} {N:Nat} (hin:∀ b,0<=b/\b<(N:Int)->∀ c∈nx b,0<=c/\c<(N:Int)):∀ (n:Nat) (b:Int) (s:DS),unb N s.1<=n->0<=b/\b<(N:Int)->
  (∀ c∈s.2,Bg s c)->s.2.Nodup->Ord nx s.2->(∀ c,Bg s c->c∈s.2\/Way nx c b)->Lv nx s (ZB nx n b s):=by
 intro n;induction n with
 |zero=>intro b s h hb dn nd ord hw;exact Lv.refl dn nd ord
 |succ n ih=>
  intro b s h hb dn nd ord hw;by_cases hbb:Bg s b
  ·rw[zBS hbb];exact Lv.refl dn nd ord
  ·have hnone:s.1.lookup b=none:=by
    unfold Bg at hbb;cases hq:s.1.lookup b with
    |none=>rfl
    |some w=>rw[hq]at hbb;exact absurd rfl hbb
   have hlt:=zEc (v:=(s.1.length:Int)) hnone hb;have go:∀ (l:List Int) (t:DS),unb N t.1<=n->(∀ c∈l,c∈nx b)->(∀ c∈t.2,Bg t c)->t.2.Nodup->Ord nx t.2->(∀ c,Bg t c->c∈t.2\/Way nx c b)->Lv nx t (l.foldl (fun (t:DS) (c:Int)=>ZB nx n c t) t):=by
    intro l;induction l with
    |nil=>intro t _ _ dn nd ord _;exact Lv.refl dn nd ord
    |cons x l ihl=>
     intro t ht hl dn nd ord hw;have hxn:=hl x (by simp);have hx:=ih x t ht (hin b hb x hxn) dn nd ord (fun c hc=>(hw c hc).imp id fun w=> .step w hxn);refine hx.trans (ihl _ (QW (zCm fun c hc=>hx.bg c hc) ht) (fun c hc=>hl c (by simp[hc])) hx.dn hx.nd hx.ord fun c hc=> ?_);rcases hx.open_ c hc with h|⟨h1,h2⟩
     ·exact .inl h
     ·rcases hw c h1 with h|h
      ·exact absurd h h2
      ·exact .inr h
   have dn0:∀ c∈s.2,Bg (s.1++[(b,(s.1.length:Int))],s.2) c:=fun c hc=>zAG.2 (.inl (dn c hc));have hw0:∀ c,Bg (s.1++[(b,(s.1.length:Int))],s.2) c->c∈s.2\/Way nx c b:=fun c hc=>by
    rcases zAG.1 hc with h|rfl
    ·exact hw c h
    ·exact .inr .here
   have k:=go (nx b) (s.1++[(b,(s.1.length:Int))],s.2) (by simp only;omega) (fun c hc=>hc) dn0 nd ord hw0;have k2:=zC6 (nx:=nx) (n:=n) hin (nx b) (s.1++[(b,(s.1.length:Int))],s.2) (by simp only;omega) (hin b hb);have hu:ZB nx (n+1) b s=(((nx b).foldl (fun (t:DS) (c:Int)=>ZB nx n c t) (s.1++[(b,(s.1.length:Int))],s.2)).1,((nx b).foldl (fun (t:DS) (c:Int)=>ZB nx n c t) (s.1++[(b,(s.1.length:Int))],s.2)).2++[b]):=by
    conv=>lhs;unfold ZB
    rw[QD (by rw[hnone];exact Bool.noConfusion)]
   have hk2:Zl nx n (nx b) (s.1++[(b,(s.1.length:Int))],s.2)=(nx b).foldl (fun (t:DS) (c:Int)=>ZB nx n c t) (s.1++[(b,(s.1.length:Int))],s.2):=rfl;rw[hk2]at k2;rw[hu];generalize (nx b).foldl (fun (t:DS) (c:Int)=>ZB nx n c t) (s.1++[(b,(s.1.length:Int))],s.2)=t at k k2 |-;have hbs:b∉s.2:=fun e=>hbb (dn b e);have hb0:Bg (s.1++[(b,(s.1.length:Int))],s.2) b:=zAG.2 (.inr rfl);have hbt:b∉t.2:=fun e=>by
    rcases k.old b e with h|h
    ·exact hbs h
    ·exact h hb0
   have opn:∀ c,Bg t c->c∈t.2\/c=b\/Bg s c/\c∉s.2:=fun c hc=>by
    rcases k.open_ c hc with h|⟨h1,h2⟩
    ·exact .inl h
    ·rcases zAG.1 h1 with h|h
     ·exact .inr (.inr ⟨h,h2⟩)
     ·exact .inr (.inl h)
   refine⟨fun c h=>k.bg c (zAG.2 (.inl h)),fun c hc=> ?_,?_,k.ord.snoc fun v hv=> ?_,fun c hc=> ?_,fun c hc=> ?_,fun c hc=> ?_⟩
   ·simp only[Qf,QQ]at hc;rcases hc with h|rfl
    ·exact k.dn c h
    ·exact k.bg _ hb0
   ·simp only;rw[List.nodup_append];exact⟨k.nd,by simp,fun a ha c hc=>by rw[QQ]at hc;subst hc;exact fun e=>hbt (e▸ha)⟩
   ·rcases opn v (k2.all v hv)with h|rfl|⟨h1,h2⟩
    ·exact .inl h
    ·exact .inr .here
    ·rcases hw v h1 with h|h
     ·exact absurd h h2
     ·exact .inr h
   ·simp only[Qf,QQ];rcases opn c hc with h|h|h
    ·exact .inl (.inl h)
    ·exact .inl (.inr h)
    ·exact .inr h
   ·simp only[Qf,QQ]at hc;rcases hc with h|rfl
    ·rcases k.old c h with h|h
     ·exact .inl h
     ·exact .inr fun e=>h (zAG.2 (.inl e))
    ·exact .inr hbb
   ·simp only[Qf];exact .inl (k.keep c hc)
theorem zIE {nx:Int->List Int} {N:Nat} (hin:∀ b,0<=b/\b<(N:Int)->∀ c∈nx b,0<=c/\c<(N:Int)) {a:Int} (ha:0<=a/\a<(N:Int)):
  (Zl nx N [a] ([],[])).2.Nodup/\Ord nx (Zl nx N [a] ([],[])).2/\∃ d,(Zl nx N [a] ([],[])).2=d++[a]:=by
 have e:Zl nx N [a] ([],[])=ZB nx N a ([],[]):=rfl;have no:∀ d,¬Bg (([],[]):DS) d:=fun d h=>by unfold Bg at h;exact Bool.noConfusion h
 have k:=zTP (nx:=nx) hin N a ([],[]) (zED _ _) ha (fun c h=>by cases h) .nil (fun d1 u d2 e=>by cases d1<;>cases e) (fun c h=>absurd h (no c));rw[e];refine⟨k.nd,k.ord,?_⟩;obtain⟨n,rfl⟩:∃ n,N=n+1:=⟨N - 1,by omega⟩;unfold ZB;rw[QD (by simp)];exact⟨_,rfl⟩
theorem zL1 (l:List Int) (hn:l.Nodup):∀ i,i+1<(ZS l).length->(ZS l).getD i 0<(ZS l).getD (i+1) 0:=by
 intro i hi;have hp:(ZS l).Pairwise (fun a b=>decide (a<=b)=true):=List.pairwise_mergeSort (fun a b c h1 h2=>by simp only[Qb]at *;omega) (fun a b=>by simp only[GA,Qb];omega) l;have hd:(ZS l).Nodup:=(JF l _).nodup_iff.2 hn;have h1:=List.pairwise_iff_getElem.1 hp i (i+1) (by omega) hi (by omega);have h2:(ZS l)[i]≠(ZS l)[i+1]:=fun e=>by
  have:=(List.getElem_inj hd).1 e;omega
 simp only[Qb]at h1;simp only[QE,QB hi,QB (show i<(ZS l).length by omega),Q7];omega
theorem zBV {T:List LType} {F:List LFn} {f:Int} (h:(zD T F f 0).2=0):
  (zU T F f).1.length=(yM T F f).1.length/\(zU T F f).1.length<=16/\(∃ l,(zU T F f).1=0::l)/\(∀ c,c∈(yM T F f).1->c∈(zU T F f).1)/\
  (∀ n,n+1<(yM T F f).1.length->(yM T F f).1.getD n 0<(yM T F f).1.getD (n+1) 0)/\(∀ c∈(zU T F f).1,0<=c/\c<((zD T F f 0).1.length:Int))/\
  (∀ i k,i<(zU T F f).1.length->k<(zU T F f).1.length->(zU T F f).1.getD k 0∈nxL (zD T F f 0).1 ((zU T F f).1.getD i 0)->¬Way (nxL (zD T F f 0).1) ((zU T F f).1.getD k 0) ((zU T F f).1.getD i 0)->i<k):=by
 obtain⟨_,hpos,_,_⟩:=yh h;obtain⟨hlen,hin⟩:=Zc h;have hr0:∀ c∈([0]:List Int),0<=c/\c<((zD T F f 0).1.length:Int):=fun c hc=>by
  rw[QQ]at hc;subst hc;exact⟨Qi _,hpos⟩
 obtain⟨nd,ord,d,hd⟩:=zIE hin (hr0 0 (by simp));have hl:=zEL hin [0] hr0;have eO:(zU T F f).1=(Yn T F f).reverse:=by unfold zU;rw[QD (by rw[h];exact fun e=>e rfl)]
 have eR:(yM T F f).1=ZS (Yn T F f):=by unfold yM;rw[QD (by rw[h];exact fun e=>e rfl)]
 have eP:Yn T F f=(Zl (nxL (zD T F f 0).1) (zD T F f 0).1.length [0] ([],[])).2:=rfl;have hmem:∀ c,c∈Yn T F f->0<=c/\c<((zD T F f 0).1.length:Int):=fun c hc=>by
  rw[eP,zKX hin hr0]at hc;obtain⟨a,ha,w⟩:=hc;have ha':=hr0 a ha;clear ha;induction w with
  |here=>exact ha'
  |step _ hd ih=>exact hin _ ih _ hd
 rw[<-eP]at nd ord hd hl;rw[eO,eR];generalize Yn T F f=l at *;refine⟨by rw[List.length_reverse,zL4],by rw[List.length_reverse];omega,⟨d.reverse,by rw[hd];simp⟩,fun c hc=>by rw[List.mem_reverse];exact zC5.1 hc,zL1 l nd,fun c hc=>hmem c (List.mem_reverse.1 hc),fun i k hi hk he hw=> ?_⟩;rw[List.length_reverse]at hi hk;have ei:l.reverse.getD i 0=l.getD (l.length - 1 - i) 0:=by
  rw[QE,List.getElem?_reverse hi,QE]
 have ek:l.reverse.getD k 0=l.getD (l.length - 1 - k) 0:=by
  rw[QE,List.getElem?_reverse hk,QE]
 rw[ei,ek]at he hw;have hi2:l.length - 1 - i<l.length:=by omega
 have hk2:l.length - 1 - k<l.length:=by omega
 have hsplit:l=l.take (l.length - 1 - i)++l.getD (l.length - 1 - i) 0::l.drop (l.length - 1 - i+1):=by
  conv=>lhs;rw[<-Gb (l.length - 1 - i) l,Qx hi2]
  simp[List.getD,QB hi2]
 rcases ord _ _ _ hsplit _ he with hm|hm
 ·obtain⟨j,hj,e⟩:=JS.1 hm;rw[Q1]at hj;rw[List.getElem_take]at e;have e2:l.getD (l.length - 1 - k) 0=l[l.length - 1 - k]:=by simp[List.getD,QB hk2]
  rw[e2]at e;have:=(List.getElem_inj nd).1 e;omega
 ·exact absurd hm hw
theorem zU2 {n:Int} (h:(Lit.int .u8 n).wf=true):0<=n/\n<=255:=by
 simp[Lit.wf,IntKind.wrap,IntKind.signed,IntKind.bits]at h;have h1:IntKind.min .u8=0:=by decide
 have h2:IntKind.max .u8=255:=by decide
 omega
theorem zU1 {l:List Value} (h:l.length=2):∃ a b,l=[a,b]:=by
 match l,h with
 |[a,b],_=>exact⟨a,b,rfl⟩
theorem zVS {l:List Value} (h:l.length=4):∃ a b c d,l=[a,b,c,d]:=by
 match l,h with
 |[a,b,c,d],_=>exact⟨a,b,c,d,rfl⟩
theorem zVZ {l:List Value} (h:l.length=5):∃ a b c d e,l=[a,b,c,d,e]:=by
 match l,h with
 |[a,b,c,d,e],_=>exact⟨a,b,c,d,e,rfl⟩
theorem zVc {l:List Value} (h:l.length=7):∃ a b c d e f g,l=[a,b,c,d,e,f,g]:=by
 match l,h with
 |[a,b,c,d,e,f,g],_=>exact⟨a,b,c,d,e,f,g,rfl⟩
section
variable {H:Type} {h:AHeap}
theorem zRd (cs:List Value) (d:DataW H) (r:Rd Tryz.prog h 62 cs d) (hw:wOk Tryz.prog 62 d):∃ a,RTy h cs a:=by
 obtain⟨hl,hr⟩:=YO r Tryz.underlying62 hw;have hc:Tryz.prog.cellsOf 62=4:=by kernel_rfl
 rw[hc]at hl;obtain⟨x0,x1,x2,x3,rfl⟩:∃ x0 x1 x2 x3,cs=[x0,x1,x2,x3]:=by
  exact zVS hl
 obtain⟨d0,r0,w0⟩:=hr 0 _ rfl;have c0:Tryz.prog.cellsOf 5=1:=by kernel_rfl
 replace r0:Rd Tryz.prog h 5 (([x0,x1,x2,x3].drop 0).take (Tryz.prog.cellsOf 5)) d0:=r0;replace w0:wOk Tryz.prog 5 d0:=w0;rw[c0]at r0;replace r0:Rd Tryz.prog h 5 [x0] d0:=r0;obtain⟨d1,r1,w1⟩:=hr 1 _ rfl;have c1:Tryz.prog.cellsOf 3=1:=by kernel_rfl
 replace r1:Rd Tryz.prog h 3 (([x0,x1,x2,x3].drop 1).take (Tryz.prog.cellsOf 3)) d1:=r1;replace w1:wOk Tryz.prog 3 d1:=w1;rw[c1]at r1;replace r1:Rd Tryz.prog h 3 [x1] d1:=r1;obtain⟨d2,r2,w2⟩:=hr 2 _ rfl;have c2:Tryz.prog.cellsOf 3=1:=by kernel_rfl
 replace r2:Rd Tryz.prog h 3 (([x0,x1,x2,x3].drop 2).take (Tryz.prog.cellsOf 3)) d2:=r2;replace w2:wOk Tryz.prog 3 d2:=w2;rw[c2]at r2;replace r2:Rd Tryz.prog h 3 [x2] d2:=r2;obtain⟨d3,r3,w3⟩:=hr 3 _ rfl;have c3:Tryz.prog.cellsOf 43=1:=by kernel_rfl
 replace r3:Rd Tryz.prog h 43 (([x0,x1,x2,x3].drop 3).take (Tryz.prog.cellsOf 43)) d3:=r3;replace w3:wOk Tryz.prog 43 d3:=w3;rw[c3]at r3;replace r3:Rd Tryz.prog h 43 [x3] d3:=r3;obtain⟨k,e0,f0⟩:=Ze r0 Tryz.underlying5;cases e0;obtain⟨e,e1,f1⟩:=Ze r1 Tryz.underlying3;cases e1;obtain⟨m,e2,f2⟩:=Ze r2 Tryz.underlying3;cases e2;obtain⟨va,l,e3,s3,b3,_⟩:=zFB r3 Tryz.underlying43 Tryz.underlying3 (by kernel_rfl) (by decide+kernel) w3;cases e3;exact⟨⟨k,e,m,l⟩,_,rfl,s3,by simp only;omega⟩
theorem zUR (cs:List Value) (d:DataW H) (r:Rd Tryz.prog h 45 cs d) (hw:wOk Tryz.prog 45 d):∃ a,RIns h cs a:=by
 obtain⟨hl,hr⟩:=YO r Tryz.underlying45 hw;have hc:Tryz.prog.cellsOf 45=7:=by kernel_rfl
 rw[hc]at hl;obtain⟨x0,x1,x2,x3,x4,x5,x6,rfl⟩:∃ x0 x1 x2 x3 x4 x5 x6,cs=[x0,x1,x2,x3,x4,x5,x6]:=by
  exact zVc hl
 obtain⟨d0,r0,w0⟩:=hr 0 _ rfl;have c0:Tryz.prog.cellsOf 5=1:=by kernel_rfl
 replace r0:Rd Tryz.prog h 5 (([x0,x1,x2,x3,x4,x5,x6].drop 0).take (Tryz.prog.cellsOf 5)) d0:=r0;replace w0:wOk Tryz.prog 5 d0:=w0;rw[c0]at r0;replace r0:Rd Tryz.prog h 5 [x0] d0:=r0;obtain⟨d1,r1,w1⟩:=hr 1 _ rfl;have c1:Tryz.prog.cellsOf 3=1:=by kernel_rfl
 replace r1:Rd Tryz.prog h 3 (([x0,x1,x2,x3,x4,x5,x6].drop 1).take (Tryz.prog.cellsOf 3)) d1:=r1;replace w1:wOk Tryz.prog 3 d1:=w1;rw[c1]at r1;replace r1:Rd Tryz.prog h 3 [x1] d1:=r1;obtain⟨d2,r2,w2⟩:=hr 2 _ rfl;have c2:Tryz.prog.cellsOf 3=1:=by kernel_rfl
 replace r2:Rd Tryz.prog h 3 (([x0,x1,x2,x3,x4,x5,x6].drop 2).take (Tryz.prog.cellsOf 3)) d2:=r2;replace w2:wOk Tryz.prog 3 d2:=w2;rw[c2]at r2;replace r2:Rd Tryz.prog h 3 [x2] d2:=r2;obtain⟨d3,r3,w3⟩:=hr 3 _ rfl;have c3:Tryz.prog.cellsOf 3=1:=by kernel_rfl
 replace r3:Rd Tryz.prog h 3 (([x0,x1,x2,x3,x4,x5,x6].drop 3).take (Tryz.prog.cellsOf 3)) d3:=r3;replace w3:wOk Tryz.prog 3 d3:=w3;rw[c3]at r3;replace r3:Rd Tryz.prog h 3 [x3] d3:=r3;obtain⟨d4,r4,w4⟩:=hr 4 _ rfl;have c4:Tryz.prog.cellsOf 2=1:=by kernel_rfl
 replace r4:Rd Tryz.prog h 2 (([x0,x1,x2,x3,x4,x5,x6].drop 4).take (Tryz.prog.cellsOf 2)) d4:=r4;replace w4:wOk Tryz.prog 2 d4:=w4;rw[c4]at r4;replace r4:Rd Tryz.prog h 2 [x4] d4:=r4;obtain⟨d5,r5,w5⟩:=hr 5 _ rfl;have c5:Tryz.prog.cellsOf 43=1:=by kernel_rfl
 replace r5:Rd Tryz.prog h 43 (([x0,x1,x2,x3,x4,x5,x6].drop 5).take (Tryz.prog.cellsOf 43)) d5:=r5;replace w5:wOk Tryz.prog 43 d5:=w5;rw[c5]at r5;replace r5:Rd Tryz.prog h 43 [x5] d5:=r5;obtain⟨d6,r6,w6⟩:=hr 6 _ rfl;have c6:Tryz.prog.cellsOf 43=1:=by kernel_rfl
 replace r6:Rd Tryz.prog h 43 (([x0,x1,x2,x3,x4,x5,x6].drop 6).take (Tryz.prog.cellsOf 43)) d6:=r6;replace w6:wOk Tryz.prog 43 d6:=w6;rw[c6]at r6;replace r6:Rd Tryz.prog h 43 [x6] d6:=r6;obtain⟨op,e0,f0⟩:=Ze r0 Tryz.underlying5;cases e0;obtain⟨ty,e1,f1⟩:=Ze r1 Tryz.underlying3;cases e1;obtain⟨a,e2,f2⟩:=Ze r2 Tryz.underlying3;cases e2;obtain⟨b,e3,f3⟩:=Ze r3 Tryz.underlying3;cases e3;obtain⟨n,e4,f4⟩:=Ze r4 Tryz.underlying2;cases e4;obtain⟨va,la,e5,s5,b5,_⟩:=zFB r5 Tryz.underlying43 Tryz.underlying3 (by kernel_rfl) (by decide+kernel) w5;cases e5;obtain⟨vf,lf,e6,s6,b6,_⟩:=zFB r6 Tryz.underlying43 Tryz.underlying3 (by kernel_rfl) (by decide+kernel) w6;cases e6;exact⟨⟨op,ty,a,b,n,la,lf⟩,_,_,rfl,s5,s6,b5,b6,zU2 f0⟩
theorem zUB (cs:List Value) (d:DataW H) (r:Rd Tryz.prog h 48 cs d) (hw:wOk Tryz.prog 48 d):∃ x:LEnd,cs=[.int .u8 x.kind,I x.a,I x.to,I x.els]:=by
 obtain⟨hl,hr⟩:=YO r Tryz.underlying48 hw;have hc:Tryz.prog.cellsOf 48=4:=by kernel_rfl
 rw[hc]at hl;obtain⟨x0,x1,x2,x3,rfl⟩:∃ x0 x1 x2 x3,cs=[x0,x1,x2,x3]:=by
  exact zVS hl
 obtain⟨d0,r0,w0⟩:=hr 0 _ rfl;have c0:Tryz.prog.cellsOf 5=1:=by kernel_rfl
 replace r0:Rd Tryz.prog h 5 (([x0,x1,x2,x3].drop 0).take (Tryz.prog.cellsOf 5)) d0:=r0;replace w0:wOk Tryz.prog 5 d0:=w0;rw[c0]at r0;replace r0:Rd Tryz.prog h 5 [x0] d0:=r0;obtain⟨d1,r1,w1⟩:=hr 1 _ rfl;have c1:Tryz.prog.cellsOf 3=1:=by kernel_rfl
 replace r1:Rd Tryz.prog h 3 (([x0,x1,x2,x3].drop 1).take (Tryz.prog.cellsOf 3)) d1:=r1;replace w1:wOk Tryz.prog 3 d1:=w1;rw[c1]at r1;replace r1:Rd Tryz.prog h 3 [x1] d1:=r1;obtain⟨d2,r2,w2⟩:=hr 2 _ rfl;have c2:Tryz.prog.cellsOf 3=1:=by kernel_rfl
 replace r2:Rd Tryz.prog h 3 (([x0,x1,x2,x3].drop 2).take (Tryz.prog.cellsOf 3)) d2:=r2;replace w2:wOk Tryz.prog 3 d2:=w2;rw[c2]at r2;replace r2:Rd Tryz.prog h 3 [x2] d2:=r2;obtain⟨d3,r3,w3⟩:=hr 3 _ rfl;have c3:Tryz.prog.cellsOf 3=1:=by kernel_rfl
 replace r3:Rd Tryz.prog h 3 (([x0,x1,x2,x3].drop 3).take (Tryz.prog.cellsOf 3)) d3:=r3;replace w3:wOk Tryz.prog 3 d3:=w3;rw[c3]at r3;replace r3:Rd Tryz.prog h 3 [x3] d3:=r3;obtain⟨k,e0,f0⟩:=Ze r0 Tryz.underlying5;cases e0;obtain⟨a,e1,f1⟩:=Ze r1 Tryz.underlying3;cases e1;obtain⟨t,e2,f2⟩:=Ze r2 Tryz.underlying3;cases e2;obtain⟨e,e3,f3⟩:=Ze r3 Tryz.underlying3;cases e3;exact⟨⟨k,a,t,e⟩,rfl⟩
theorem zOC (cs:List Value) (d:DataW H) (r:Rd Tryz.prog h 50 cs d) (hw:wOk Tryz.prog 50 d):∃ a,RBlk h cs a:=by
 obtain⟨hl,hr⟩:=YO r Tryz.underlying50 hw;have hc:Tryz.prog.cellsOf 50=5:=by kernel_rfl
 rw[hc]at hl;obtain⟨x0,x1,x2,x3,x4,rfl⟩:∃ x0 x1 x2 x3 x4,cs=[x0,x1,x2,x3,x4]:=by
  exact zVZ hl
 obtain⟨d0,r0,w0⟩:=hr 0 _ rfl;have c0:Tryz.prog.cellsOf 46=1:=by kernel_rfl
 replace r0:Rd Tryz.prog h 46 (([x0,x1,x2,x3,x4].drop 0).take (Tryz.prog.cellsOf 46)) d0:=r0;replace w0:wOk Tryz.prog 46 d0:=w0;rw[c0]at r0;replace r0:Rd Tryz.prog h 46 [x0] d0:=r0;obtain⟨d1,r1,w1⟩:=hr 1 _ rfl;have c1:Tryz.prog.cellsOf 48=4:=by kernel_rfl
 replace r1:Rd Tryz.prog h 48 (([x0,x1,x2,x3,x4].drop 1).take (Tryz.prog.cellsOf 48)) d1:=r1;replace w1:wOk Tryz.prog 48 d1:=w1;rw[c1]at r1;replace r1:Rd Tryz.prog h 48 [x1,x2,x3,x4] d1:=r1;obtain⟨vi,li,e0,s0,b0⟩:=zCF r0 Tryz.underlying46 (c:=7) (by kernel_rfl) (by decide+kernel) w0 zUR;cases e0;obtain⟨en,e1⟩:=zUB _ _ r1 w1;cases e1;exact⟨⟨li,en⟩,_,rfl,s0,b0⟩
theorem zRw (cs:List Value) (d:DataW H) (r:Rd Tryz.prog h 53 cs d) (hw:wOk Tryz.prog 53 d):∃ a,RFn h cs a:=by
 obtain⟨hl,hr⟩:=YO r Tryz.underlying53 hw;have hc:Tryz.prog.cellsOf 53=2:=by kernel_rfl
 rw[hc]at hl;obtain⟨x0,x1,rfl⟩:∃ x0 x1,cs=[x0,x1]:=by
  exact zU1 hl
 obtain⟨d0,r0,w0⟩:=hr 0 _ rfl;have c0:Tryz.prog.cellsOf 3=1:=by kernel_rfl
 replace r0:Rd Tryz.prog h 3 (([x0,x1].drop 0).take (Tryz.prog.cellsOf 3)) d0:=r0;replace w0:wOk Tryz.prog 3 d0:=w0;rw[c0]at r0;replace r0:Rd Tryz.prog h 3 [x0] d0:=r0;obtain⟨d1,r1,w1⟩:=hr 1 _ rfl;have c1:Tryz.prog.cellsOf 51=1:=by kernel_rfl
 replace r1:Rd Tryz.prog h 51 (([x0,x1].drop 1).take (Tryz.prog.cellsOf 51)) d1:=r1;replace w1:wOk Tryz.prog 51 d1:=w1;rw[c1]at r1;replace r1:Rd Tryz.prog h 51 [x1] d1:=r1;obtain⟨sg,e0,f0⟩:=Ze r0 Tryz.underlying3;cases e0;obtain⟨vb,lb,e1,s1,b1⟩:=zCF r1 Tryz.underlying51 (c:=5) (by kernel_rfl) (by decide+kernel) w1 zOC;cases e1;exact⟨⟨sg,lb⟩,_,rfl,s1,b1⟩
theorem zR1 (cs:List Value) (d:DataW H) (r:Rd Tryz.prog h 25 cs d) (hw:wOk Tryz.prog 25 d):∃ vt vf T F,cs=[vt,vf]/\SlT h vt T/\SlF h vf F/\(T.length:Int)<=1152921504606846976/\(F.length:Int)<=1152921504606846976:=by
 obtain⟨hl,hr⟩:=YO r Tryz.underlying25 hw;have hc:Tryz.prog.cellsOf 25=2:=by kernel_rfl
 rw[hc]at hl;obtain⟨x0,x1,rfl⟩:∃ x0 x1,cs=[x0,x1]:=by
  exact zU1 hl
 obtain⟨d0,r0,w0⟩:=hr 0 _ rfl;have c0:Tryz.prog.cellsOf 22=1:=by kernel_rfl
 replace r0:Rd Tryz.prog h 22 (([x0,x1].drop 0).take (Tryz.prog.cellsOf 22)) d0:=r0;replace w0:wOk Tryz.prog 22 d0:=w0;rw[c0]at r0;replace r0:Rd Tryz.prog h 22 [x0] d0:=r0;obtain⟨d1,r1,w1⟩:=hr 1 _ rfl;have c1:Tryz.prog.cellsOf 23=1:=by kernel_rfl
 replace r1:Rd Tryz.prog h 23 (([x0,x1].drop 1).take (Tryz.prog.cellsOf 23)) d1:=r1;replace w1:wOk Tryz.prog 23 d1:=w1;rw[c1]at r1;replace r1:Rd Tryz.prog h 23 [x1] d1:=r1;obtain⟨vt,lt,e0,s0,b0⟩:=zCF r0 Tryz.underlying22 (c:=4) (by kernel_rfl) (by decide+kernel) w0 zRd;cases e0;obtain⟨vf,lf,e1,s1,b1⟩:=zCF r1 Tryz.underlying23 (c:=2) (by kernel_rfl) (by decide+kernel) w1 zRw;cases e1;exact⟨_,_,lt,lf,rfl,s0,s1,b0,b1⟩
end
inductive Avk (nx:Int->List Int) (x:Int):Nat->Int->Prop
 |here {k:Nat}:(0:Int)≠x->Avk nx x k 0
 |step {k:Nat} {b c:Int}:Avk nx x k b->c∈nx b->c≠x->Avk nx x (k+1) c
def Av (nx:Int->List Int) (x b:Int):Prop:=∃ k,Avk nx x k b
theorem Avk.mono {nx:Int->List Int} {x b:Int} {k m:Nat} (h:Avk nx x k b) (hm:k<=m):Avk nx x m b:=by
 induction h generalizing m with
 |here h=>exact .here h
 |step _ hc hne ih=>
  obtain⟨j,rfl⟩:∃ j,m=j+1:=⟨m - 1,by omega⟩;exact .step (ih (by omega)) hc hne
theorem Avk.ne {nx:Int->List Int} {x b:Int} {k:Nat} (h:Avk nx x k b):b≠x:=by
 cases h with
 |here h=>exact h
 |step _ _ h=>exact h
theorem Avk.way {nx:Int->List Int} {x b:Int} {k:Nat} (h:Avk nx x k b):Way nx 0 b:=by
 induction h with
 |here=>exact .here
 |step _ hc _ ih=>exact .step ih hc
theorem Avk.split {nx:Int->List Int} {x b c:Int} {k:Nat} (hb:(0:Int)≠b) (h:Avk nx x k c):Avk nx b k c\/Avk nx x k b:=by
 induction h with
 |here=>exact .inl (.here hb)
 |step h1 hc hne ih=>
  rename_i k d e;rcases ih with h|h
  ·by_cases he:e=b
   ·subst he;exact .inr (.step h1 hc hne)
   ·exact .inl (.step h hc he)
  ·exact .inr (h.mono (GV _))
theorem Avk.split' {nx:Int->List Int} {x b c:Int} {k:Nat} (hb:(0:Int)≠b) (hcb:c≠b) (h:Avk nx x (k+1) c):Avk nx b (k+1) c\/Avk nx x k b:=by
 cases h with
 |here=>exact .inl (.here hb)
 |step h1 hc hne=>
  rcases h1.split hb with h|h
  ·exact .inl (.step h hc hcb)
  ·exact .inr h
def Dom (nx:Int->List Int) (y b:Int):Prop:=¬Av nx y b
theorem Dom.self (nx:Int->List Int) (b:Int):Dom nx b b:=fun ⟨_,h⟩=>h.ne rfl
theorem Dom.pred {nx:Int->List Int} {y a b:Int} (h:Dom nx y b) (hy:y≠b) (hb:b∈nx a):Dom nx y a:=fun ⟨k,w⟩=>h ⟨k+1,.step w hb (Ne.symm hy)⟩
structure Rpo (nx:Int->List Int) (pos:Int->Int):Prop where
 zero:pos 0=0
 nn:∀ b,Way nx 0 b->0<=pos b
 inj:∀ a b,Way nx 0 a->Way nx 0 b->pos a=pos b->a=b
 par:∀ b,Way nx 0 b->b≠0->∃ a,Way nx 0 a/\b∈nx a/\pos a<pos b
theorem Rpo.dom {nx:Int->List Int} {pos:Int->Int} (r:Rpo nx pos):∀ (n:Nat) (b y:Int),pos b<=n->Way nx 0 b->Dom nx y b->pos y<=pos b:=by
 intro n;induction n with
 |zero=>
  intro b y hn w d;have hb:b=0:=r.inj b 0 w .here (by have:=r.nn b w;rw[r.zero];omega);subst hb;by_cases e:(0:Int)=y
  ·rw[<-e];exact Qi _
  ·exact absurd ⟨0,.here e⟩ d
 |succ n ih=>
  intro b y hn w d;by_cases e:y=b
  ·rw[e];exact Qi _
  ·by_cases hb:b=0
   ·subst hb;exact absurd ⟨0,.here (Ne.symm e)⟩ d
   ·obtain⟨a,wa,hab,hp⟩:=r.par b w hb;have:=ih a y (by omega) wa (d.pred e hab);omega
theorem Rpo.dom_le {nx:Int->List Int} {pos:Int->Int} (r:Rpo nx pos) {b y:Int} (w:Way nx 0 b) (d:Dom nx y b):pos y<=pos b:=r.dom (pos b).toNat b y (by have:=r.nn b w;omega) w d
inductive Anc (p:Int->Int) (y:Int):Int->Prop
 |here:Anc p y y
 |up {b:Int}:b≠0->p b≠ -1->Anc p y (p b)->Anc p y b
theorem Anc.trans {p:Int->Int} {x y b:Int} (h:Anc p x y) (k:Anc p y b):Anc p x b:=by
 induction k with
 |here=>exact h
 |up h1 h2 _ ih=>exact .up h1 h2 ih
theorem Anc.zero {p:Int->Int} {x:Int} (h:Anc p x 0):x=0:=by
 cases h with
 |here=>rfl
 |up h _ _=>exact absurd rfl h
structure Rl (nx:Int->List Int) (pos p:Int->Int):Prop where
 zero:p 0=0
 up:∀ b,Way nx 0 b->b≠0->p b≠ -1->Way nx 0 (p b)/\p (p b)≠ -1/\pos (p b)<pos b
 sound:∀ b,Way nx 0 b->b≠0->p b≠ -1->∀ y,Dom nx y b->y≠b->Dom nx y (p b)
theorem Rl.le {nx:Int->List Int} {pos p:Int->Int} (g:Rl nx pos p) {x b:Int} (h:Anc p x b) (w:Way nx 0 b):Way nx 0 x/\pos x<=pos b/\(p b≠ -1->p x≠ -1):=by
 induction h with
 |here=>exact⟨w,Qi _,id⟩
 |up h1 h2 _ ih=>
  obtain⟨u1,u2,u3⟩:=g.up _ w h1 h2;obtain⟨i1,i2,i3⟩:=ih u1;exact⟨i1,by omega,fun _=>i3 u2⟩
theorem Rl.anc_of_dom {nx:Int->List Int} {pos p:Int->Int} (r:Rpo nx pos) (g:Rl nx pos p):∀ (n:Nat) (b y:Int),pos b<=n->Way nx 0 b->p b≠ -1->Dom nx y b->Anc p y b:=by
 intro n;induction n with
 |zero=>
  intro b y hn w hp d;have hb:b=0:=r.inj b 0 w .here (by have:=r.nn b w;rw[r.zero];omega);subst hb;by_cases e:(0:Int)=y
  ·rw[<-e];exact .here
  ·exact absurd ⟨0,.here e⟩ d
 |succ n ih=>
  intro b y hn w hp d;by_cases e:y=b
  ·rw[e];exact .here
  ·by_cases hb:b=0
   ·subst hb;exact absurd ⟨0,.here (Ne.symm e)⟩ d
   ·obtain⟨u1,u2,u3⟩:=g.up b w hb hp;exact .up hb hp (ih (p b) y (by omega) u1 u2 (g.sound b w hb hp y d e))
structure Mt (nx:Int->List Int) (pos p:Int->Int) (a b m:Int):Prop where
 way:Way nx 0 m
 done:p m≠ -1
 left:Anc p m a
 right:Anc p m b
 dom:∀ y,Dom nx y a->Dom nx y b->Dom nx y m
theorem Mt.same {nx:Int->List Int} {pos p:Int->Int} {a:Int} (w:Way nx 0 a) (h:p a≠ -1):Mt nx pos p a a a:=⟨w,h,.here,.here,fun _ h _=>h⟩
theorem Mt.stepL {nx:Int->List Int} {pos p:Int->Int} {a b m:Int} (r:Rpo nx pos) (g:Rl nx pos p) (w:Way nx 0 a) (wb:Way nx 0 b) (h:p a≠ -1) (hlt:pos b<pos a) (k:Mt nx pos p (p a) b m):Mt nx pos p a b m:=by
 have ha:a≠0:=fun e=>by subst e;have:=r.nn b wb;rw[r.zero]at hlt;omega
 refine⟨k.way,k.done,.up ha h k.left,k.right,fun y da db=> ?_⟩;have hy:y≠a:=fun e=>by subst e;have:=r.dom_le wb db;omega
 exact k.dom y (g.sound a w ha h y da hy) db
theorem Mt.stepR {nx:Int->List Int} {pos p:Int->Int} {a b m:Int} (r:Rpo nx pos) (g:Rl nx pos p) (w:Way nx 0 a) (wb:Way nx 0 b) (h:p b≠ -1) (hlt:pos a<pos b) (k:Mt nx pos p a (p b) m):Mt nx pos p a b m:=by
 have hb:b≠0:=fun e=>by subst e;have:=r.nn a w;rw[r.zero]at hlt;omega
 refine⟨k.way,k.done,k.left,.up hb h k.right,fun y da db=> ?_⟩;have hy:y≠b:=fun e=>by subst e;have:=r.dom_le w da;omega
 exact k.dom y da (g.sound b wb hb h y db hy)
def upd (p:Int->Int) (b v:Int):Int->Int:=fun c=>if c=b then v else p c
structure Best (nx:Int->List Int) (pos p:Int->Int) (b m:Int):Prop where
 way:Way nx 0 m
 done:p m≠ -1
 lt:pos m<pos b
 anc:∀ a,Way nx 0 a->b∈nx a->p a≠ -1->Anc p m a
 dom:∀ y,Dom nx y b->y≠b->Dom nx y m
theorem zUK {nx:Int->List Int} {pos p:Int->Int} {b m:Int} (g:Rl nx pos p) (hb:b≠0) (wb:Way nx 0 b) (k:Best nx pos p b m) (hm:m≠ -1):Rl nx pos (upd p b m):=by
 have hmb:m≠b:=fun e=>by have:=k.lt;rw[e]at this;omega
 have keep:∀ c,p c≠ -1->upd p b m c≠ -1:=fun c h=>by unfold upd;split<;>assumption
 refine⟨by unfold upd;rw[QD (Ne.symm hb)];exact g.zero,fun c w hc hp=> ?_,fun c w hc hp y d hy=> ?_⟩
 ·by_cases e:c=b
  ·subst e;have:upd p c m c=m:=by unfold upd;rw[QI rfl]
   rw[this];exact⟨k.way,keep m k.done,k.lt⟩
  ·have:upd p b m c=p c:=by unfold upd;rw[QD e]
   rw[this]at hp |-;obtain⟨u1,u2,u3⟩:=g.up c w hc hp;exact⟨u1,keep _ u2,u3⟩
 ·by_cases e:c=b
  ·subst e;have:upd p c m c=m:=by unfold upd;rw[QI rfl]
   rw[this];exact k.dom y d hy
  ·have:upd p b m c=p c:=by unfold upd;rw[QD e]
   rw[this]at hp |-;exact g.sound c w hc hp y d hy
theorem zGd {p:Int->Int} {b m x c:Int} (h:Anc (upd p b m) x c):Anc p x c\/(Anc (upd p b m) x b/\Anc p b c):=by
 induction h with
 |here=>exact .inl .here
 |up h1 h2 h3 ih=>
  rename_i c;by_cases e:c=b
  ·subst e;exact .inr ⟨.up h1 h2 h3,.here⟩
  ·have:upd p b m c=p c:=by unfold upd;rw[QD e]
   rw[this]at h2 ih;rcases ih with h|⟨h,k⟩
   ·exact .inl (.up h1 h2 h)
   ·exact .inr ⟨h,.up h1 h2 k⟩
theorem zQu {nx:Int->List Int} {pos p:Int->Int} {b m x c:Int} (g:Rl nx pos p) (wc:Way nx 0 c) (hlt:pos c<pos b) (h:Anc (upd p b m) x c):Anc p x c:=by
 rcases zGd h with h|⟨_,k⟩
 ·exact h
 ·have:=(g.le k wc).2.1;omega
def Far (nx:Int->List Int) (p:Int->Int) (k:Nat) (c:Int):Prop:=∀ x,Avk nx x k c->p c≠ -1/\¬Anc p x c
theorem zCD {nx:Int->List Int} {pos p:Int->Int} {b m:Int} {k:Nat} (g:Rl nx pos p) (hb:b≠0) (wb:Way nx 0 b) (bt:Best nx pos p b m) (hm:m≠ -1) (hk:∀ c,Far nx p k c):Far nx (upd p b m) (k+1) b:=by
 intro x hx;have hp:upd p b m b=m:=by unfold upd;rw[QI rfl]
 refine⟨by rw[hp];exact hm,fun ha=> ?_⟩;cases hx with
 |here=>exact hb rfl
 |step h1 hc hne=>
  rename_i a;obtain⟨pa,na⟩:=hk a x h1;cases ha with
  |here=>exact hne rfl
  |up _ _ h3=>
   rw[hp]at h3;exact na ((zQu g bt.way bt.lt h3).trans (bt.anc a h1.way hc pa))
theorem zQH {nx:Int->List Int} {pos p:Int->Int} {b m c:Int} {k:Nat} (g:Rl nx pos p) (hb:b≠0) (wb:Way nx 0 b) (bt:Best nx pos p b m) (hm:m≠ -1) (hk:∀ c,Far nx p k c) (hc:Far nx p (k+1) c):Far nx (upd p b m) (k+1) c:=by
 by_cases e:c=b
 ·subst e;exact zCD g hb wb bt hm hk
 ·intro x hx;obtain⟨pc,nc⟩:=hc x hx;refine⟨by unfold upd;rw[QD e];exact pc,fun ha=> ?_⟩;rcases zGd ha with h|⟨h,h2⟩
  ·exact nc h
  ·rcases hx.split' (Ne.symm hb) e with h3|h3
   ·exact(hc b h3).2 h2
   ·exact(zCD g hb wb bt hm hk x (h3.mono (GV _))).2 h
theorem zNt {nx:Int->List Int} {pos p:Int->Int} {b m:Int} {k:Nat} (g:Rl nx pos p) (hb:b≠0) (wb:Way nx 0 b) (bt:Best nx pos p b m) (hm:m≠ -1) (hk:∀ c,Far nx p k c):∀ c,Far nx (upd p b m) k c:=by
 intro c x hx;obtain⟨pc,nc⟩:=hk c x hx;have self:Avk nx x k b->¬Anc (upd p b m) x b:=fun h=>(zCD g hb wb bt hm hk x (h.mono (GV _))).2;by_cases e:c=b
 ·subst e;exact⟨by unfold upd;rw[QI rfl];exact hm,self hx⟩
 ·refine⟨by unfold upd;rw[QD e];exact pc,fun ha=> ?_⟩;rcases zGd ha with h|⟨h,h2⟩
  ·exact nc h
  ·rcases hx.split (Ne.symm hb)with h3|h3
   ·exact(hk c b h3).2 h2
   ·exact self h3 h
theorem zI9 {nx:Int->List Int} {pos p q:Int->Int} {b:Int} (r:Rpo nx pos) (gp:Rl nx pos p) (gq:Rl nx pos q) (hp:∀ x c,Av nx x c->¬Anc p x c) (hq:∀ x c,Av nx x c->¬Anc q x c) (wb:Way nx 0 b) (hb:b≠0) (pb:p b≠ -1) (qb:q b≠ -1):p b=q b:=by
 obtain⟨u1,u2,u3⟩:=gp.up b wb hb pb;obtain⟨v1,v2,v3⟩:=gq.up b wb hb qb;have dp:Dom nx (p b) b:=fun h=>hp _ _ h (.up hb pb .here);have dq:Dom nx (q b) b:=fun h=>hq _ _ h (.up hb qb .here);have h1:=gp.sound b wb hb pb (q b) dq (fun e=>by rw[e]at v3;omega);have h2:=gq.sound b wb hb qb (p b) dp (fun e=>by rw[e]at u3;omega);have:=r.dom_le u1 h1;have:=r.dom_le v1 h2;exact r.inj _ _ u1 v1 (by omega)
theorem zHY {nx:Int->List Int} {N:Nat} (hin:∀ b,0<=b/\b<(N:Int)->∀ c∈nx b,0<=c/\c<(N:Int)) (hN:0<N):∃ K,∀ x b,0<=x/\x<(N:Int)->Av nx x b->Avk nx x K b:=by
 have hb:∀ x b k,Avk nx x k b->0<=b/\b<(N:Int):=fun x b k h=>by
  induction h with
  |here=>omega
  |step _ hc _ ih=>exact hin _ ih _ hc
 have:∀ M:Nat,∃ K,∀ (i:Nat),i<M->Av nx ((i / N:Nat):Int) ((i % N:Nat):Int)->Avk nx ((i / N:Nat):Int) K ((i % N:Nat):Int):=by
  intro M;induction M with
  |zero=>exact⟨0,fun i h=>absurd h (GG _)⟩
  |succ M ih=>
   obtain⟨K,hK⟩:=ih;by_cases h:Av nx ((M / N:Nat):Int) ((M % N:Nat):Int)
   ·obtain⟨k,hk⟩:=h;refine⟨max K k,fun i hi ha=> ?_⟩;by_cases e:i=M
    ·subst e;exact hk.mono (by omega)
    ·exact(hK i (by omega) ha).mono (by omega)
   ·refine⟨K,fun i hi ha=> ?_⟩;by_cases e:i=M
    ·subst e;exact absurd ha h
    ·exact hK i (by omega) ha
 obtain⟨K,hK⟩:=this (N * N);refine⟨K,fun x b hx ha=> ?_⟩;obtain⟨k,hk⟩:=ha;have hb':=hb x b k hk;obtain⟨i,rfl⟩:∃ i:Nat,x=i:=⟨x.toNat,by omega⟩;obtain⟨j,rfl⟩:∃ j:Nat,b=j:=⟨b.toNat,by omega⟩;have hi:i<N:=by omega
 have hj:j<N:=by omega
 have e1:(N * i+j) / N=i:=by rw[Nat.mul_add_div hN,Nat.div_eq_of_lt hj,Nat.add_zero]
 have e2:(N * i+j) % N=j:=by rw[Nat.mul_add_mod,JO hj]
 have:=hK (N * i+j) (by
  have:N * (i+1)<=N * N:=Nat.mul_le_mul_left _ hi;rw[Nat.mul_succ]at this;omega)
 rw[e1,e2]at this;exact this ⟨k,hk⟩
set_option maxRecDepth 100000
def zJ7 (L:List LBlk):Prop:=L.length<=16/\∀ k,k<L.length->((L.getD k default).fin.kind=1\/(L.getD k default).fin.kind=2\/(L.getD k default).fin.kind=3)/\((L.getD k default).fin.kind=1\/(L.getD k default).fin.kind=2->0<=(L.getD k default).fin.to/\(L.getD k default).fin.to<L.length)/\((L.getD k default).fin.kind=2->0<=(L.getD k default).fin.els/\(L.getD k default).fin.els<L.length)
def zM0:ACode:=(oV (oR [oB .lss 8 7 6]) (oV (oT 8 0) (oV (o5 1 (oV (oR [oM 9 7,oI 5 10 5 7,oA 5 11 10,⟨some 4,none,(.alloc [(.slice none 0 0),(.int .u8 0),(.int .i64 0),(.int .i64 0),(.int .i64 0)])⟩,oM 3 9,oS 5 4 11]) (oV (oV (oR [oF 1 12 4,oF 0 13 12,oL 14 13,oD .neq 15 14 3]) (oJ 15 (o6 [oF 1 16 4,oF 2 17 16,oL 18 17,oF 1 19 4,oF 2 20 19,oL 21 20,(⟨some 22,none,(.idxArr 16 1 (.tmp 2) (.tmp 21))⟩,[]),oL 23 22,oM 24 3,(⟨some 25,none,(.buildSlice 1 1 [(.int .i64 0)] [(0,1,(.tmp 24))])⟩,[]),(oY 1 26 23 25,[2]),(⟨some 27,none,(.idxArr 16 1 (.tmp 2) (.tmp 18))⟩,[]),oS 1 27 26]) .skip)) (oV (oR [oF 1 28 4,oF 0 29 28,oL 30 29,oD .eql 31 30 2,oM 32 31,oG 32 (oF 1 33 4),oG 32 (oF 3 34 33),oG 32 (oL 35 34),oG 32 (oF 1 36 4),oG 32 (oF 2 37 36),oG 32 (oL 38 37),oG 32 (oB .neq 39 35 38),oP 40 32 39]) (oJ 40 (o6 [oF 1 41 4,oF 3 42 41,oL 43 42,oF 1 44 4,oF 3 45 44,oL 46 45,(⟨some 47,none,(.idxArr 16 1 (.tmp 2) (.tmp 46))⟩,[]),oL 48 47,oM 49 3,(⟨some 50,none,(.buildSlice 1 1 [(.int .i64 0)] [(0,1,(.tmp 49))])⟩,[]),(oY 1 51 48 50,[2]),(⟨some 52,none,(.idxArr 16 1 (.tmp 2) (.tmp 43))⟩,[]),oS 1 52 51]) .skip))))) (oR [oC .add 53 7 1,oM 7 53]))))
def zSF:ACode:=(oV (oR [⟨some 2,none,(.alloc [(.slice none 0 0),(.slice none 0 0),(.slice none 0 0),(.slice none 0 0),(.slice none 0 0),(.slice none 0 0),(.slice none 0 0),(.slice none 0 0),(.slice none 0 0),(.slice none 0 0),(.slice none 0 0),(.slice none 0 0),(.slice none 0 0),(.slice none 0 0),(.slice none 0 0),(.slice none 0 0)])⟩]) (oV (oV (oR [oM 5 0,oQ 6 5,oN 7 0]) (o5 0 (.loop zM0))) (oV (oR [oA 16 54 2,oS 16 2 54]) .ret)))
theorem zPk (h:AHeap) (hm:h.mark<=h.n) (v:Value) (L:List LBlk) (sb:SlB h v L) (hE:zJ7 L):
  WC Tryz.prog tb 139 [v] h fun r h'=>(∃ cells:List Value,r= .agg cells.toArray/\cells.length=16/\∀ j,j<16->OwnN h h' (cells.getD j undef) (zK L (j:Int) L.length))/\Ext h h':=by
 refine en 55 [(2,some (true,16))] zSF ?_;refine WO.al ?_;intro p h1 e1 o1;obtain⟨g2,hg2,hg2',rfl⟩:∃ g2,h.n<=g2/\g2<h1.n/\p= .pointer (some ⟨g2,0,none⟩):=let ⟨g,a,b,c,_⟩:=o1;⟨g,a,b,c⟩;have sb1:=SlB.ext sb e1;refine go ?_;refine WX.loopA [8,9,10,11,4,3,12,13,14,15,16,17,18,19,20,21,22,23,24,25,26,27,28,29,30,31,32,33,34,35,36,37,38,39,40,41,42,43,44,45,46,47,48,49,50,51,52,53,7] (by kernel_rfl) (fun k=>L.length - k) (fun k t h3=>zB t 7=I k/\k<=L.length/\Ext h h3/\∃ cells,AR h h3 (.pointer (some ⟨g2,0,none⟩)) cells 16 (fun j=>zK L (j:Int) k)) 0 ?_ ?_
 ·refine⟨sl_,QV _,e1,List.replicate 16 (.slice none 0 0),⟨o1,rfl,fun j hj=> ?_,fun i j g a b c d hi hj hne e1 e2=> ?_⟩⟩
  ·have:(List.replicate 16 (Value.slice none 0 0)).getD j undef= .slice none 0 0:=by
    rw[QE,QB (by simpa using hj),List.getElem_replicate];rfl
   rw[this];exact .inl ⟨rfl,rfl⟩
  ·have:(List.replicate 16 (Value.slice none 0 0)).getD i undef= .slice none 0 0:=by
    rw[QE,QB (by simpa using hi),List.getElem_replicate];rfl
   rw[this]at e1;cases e1
 rintro k t h3 hsame ⟨s7,hk,e3,cells,ar⟩;have sb3:=SlB.ext sb e3;have hL:=hE.1;have hx:=hE.2;refine go ?_;refine WX.br (fun hc=> ?_) (fun hc=> ?_)<;>simp only[DB]at hc
 ·have hk':k<L.length:=by omega
  obtain⟨hkind,hto,hels⟩:=hx k hk';obtain⟨cs,⟨vi,rfl,si,hsi⟩,pc,hs⟩:=yN sb3 hk';obtain⟨va,vn,vk,rfl⟩:=zM si;have hsucc:∀ j:Nat,zK L (j:Int) (k+1)=if (j:Int)∈Zd (L.getD k default).fin then zK L (j:Int) k++[(k:Int)] else zK L (j:Int) k:=fun j=>zDc L j k;have halen:∀ j:Nat,(zK L (j:Int) k).length<=1000:=fun j=>by have:=YD L (j:Int) k;omega
  generalize (L.getD k default).fin=X at *;refine go ?_;refine WO.al ?_;intro p4 h4 e4 o4;obtain⟨g4,hg4,rfl⟩:∃ g4,h3.n<=g4/\p4= .pointer (some ⟨g4,0,none⟩):=let ⟨g,a,b,c,_⟩:=o4;⟨g,a,c⟩;refine go ?_;refine WO.stC0 o4 e4 ?_;intro h5 e5 o5 u5;have ar5:=ar.ext e5;have e05:=e3.trans e5;have o5:=o5.since e3;refine go ?_;have hnx:∀ j:Nat,((j:Int)∈Zd X)↔(X.kind≠3/\(j:Int)=X.to)\/((X.kind=2/\X.els≠X.to)/\(j:Int)=X.els):=fun j=>by
   unfold Zd;by_cases k1:X.kind=1
   ·rw[QI k1];simp only[QQ];omega
   ·rw[QD k1];by_cases k2:X.kind=2
    ·rw[QI k2];by_cases k3:X.to=X.els
     ·rw[QI k3];simp only[QQ];omega
     ·rw[QD k3];simp only[Qj,List.mem_nil_iff,or_false];omega
    ·rw[QD k2];simp only[List.mem_nil_iff,JL];omega
  have hmk:h5.mark<=h.n:=by rw[e05.mark];exact hm
  have hg42:g4≠g2:=by have:=e3.n;obtain⟨g,_,q2,q3,_⟩:=ar.own;cases q3;omega
  refine WX.cutA [16,17,18,19,20,21,22,23,24,25,26,27] (by kernel_rfl) (fun t h'=>Ext h h'/\(∃ cells',AR h h' (.pointer (some ⟨g2,0,none⟩)) cells' 16 (fun j=>if X.kind≠3/\(j:Int)=X.to then zK L (j:Int) k++[(k:Int)] else zK L (j:Int) k))/\OwnC h h' (.pointer (some ⟨g4,0,none⟩)) [.slice va vn vk,.int .u8 X.kind,I X.a,I X.to,I X.els]) ?_ ?_
  ·refine WX.br (fun hd=> ?_) (fun hd=> ?_)<;>simp only[DB]at hd
   ·have hd':X.kind≠3:=by simpa using hd
    obtain⟨t0,t1⟩:=hto (by omega);have hi16:X.to.toNat<16:=by omega
    have ht:(X.to.toNat:Int)=X.to:=by omega
    refine WX.regionU6 (fun g=>∃ a b,cells.getD X.to.toNat undef= .slice (some ⟨g,0,none⟩) a b) 1 rfl rfl ?_;have hb4:¬∃ a b,cells.getD X.to.toNat undef= .slice (some ⟨g4,0,none⟩) a b:=fun ⟨a,b,e⟩=>zGY o5 (ar5.all _ hi16) _ _ _ e rfl;have hb2:¬∃ a b,cells.getD X.to.toNat undef= .slice (some ⟨g2,0,none⟩) a b:=fun ⟨a,b,e⟩=>ar5.off hi16 rfl e rfl;have o5X:OwnC h (inC (zC 1 h5)) (.pointer (some ⟨g4,0,none⟩)) [.slice va vn vk,.int .u8 X.kind,I X.a,I X.to,I X.els]:=by have:=o5.ext (zq 1 h5);exact this
    have o2X:OwnC h (inC (zC 1 h5)) (.pointer (some ⟨g2,0,none⟩)) cells:=by have:=ar5.own.ext (zq 1 h5);exact this
    refine goV ?_;refine WO.ldV (i:=X.to.toNat) o2X (by rw[ar5.len];omega) ?_;refine WO.nil ?_;refine zPD (a:=⟨g2,0,none⟩) (k:=X.to.toNat) zT hb2 ?_;refine goV ?_;refine WU6.app (i:=X.to.toNat) (k:=(k:Int)) ar5 e05 (by rw[e05.mark];exact hm) hi16 rfl (halen _) zT zT rfl (fun w=>zT) (fun w=>by rw[ht];exact zT) rfl ?_;intro hN w t' hsl eN arN keepN nN;have oN:OwnC h hN (.pointer (some ⟨g4,0,none⟩)) [.slice va vn vk,.int .u8 X.kind,I X.a,I X.to,I X.els]:=by
     obtain⟨q,q1,q2,q3,q4⟩:=o5;cases q3;exact⟨g4,q1,QG q2 nN,rfl,(keepN g4 q2 (fun e=>by cases e;exact hg42 rfl) (fun a b e=>hb4 ⟨a,b,e⟩)).trans q4⟩
    refine zE ⟨eN,⟨cells.set X.to.toNat w,?_⟩,oN⟩;have hfun:(fun j:Nat=>if j=X.to.toNat then (zK L ((X.to.toNat:Nat):Int) k)++[(k:Int)] else zK L ((j:Nat):Int) k)=fun j:Nat=>if X.kind≠3/\(j:Int)=X.to then zK L (j:Int) k++[(k:Int)] else zK L (j:Int) k:=by
     funext j;by_cases e:(j:Int)=X.to
     ·have e2:j=X.to.toNat:=by omega
      rw[QI e2];refine Eq.trans ?_ (QI ⟨hd',e⟩).symm;rw[<-e2]
     ·rw[QD (show ¬j=_ by omega)];exact(QD (fun h=>e h.2)).symm
    rw[<-hfun];exact arN
   ·refine WX.skip ?_;have hk3:X.kind=3:=by simpa using hd
    refine zE ⟨e05,⟨cells,?_⟩,o5⟩;have hfun:(fun j:Nat=>zK L (j:Int) k)=fun j:Nat=>if X.kind≠3/\(j:Int)=X.to then zK L (j:Int) k++[(k:Int)] else zK L (j:Int) k:=by
     funext j;rw[QD (fun h=>h.1 hk3)]
    rw[<-hfun];exact ar5
  clear hs pc ar5 o5 e5 e4 u5 o4;rintro t6 h6 hs6 ⟨e06,⟨cells6,ar6⟩,o6⟩;have hlen6:∀ j:Nat,(if X.kind≠3/\((j:Nat):Int)=X.to then zK L ((j:Nat):Int) k++[(k:Int)] else zK L ((j:Nat):Int) k).length<=1000:=fun j=>by
   have:=YD L (j:Int) k;split
   ·rw[QX,Qa];omega
   ·omega
  refine go ?_;refine WO.mid 8 (fun t' h'=>h6=h'/\zB t' 40= .bool (decide (X.kind=2/\X.els≠X.to))) ?_ ?_<;>simp only[Qn,GB,GM,Q6]
  ·by_cases k2:X.kind=2
   ·refine go ?_;exact⟨rfl,rfl,rfl,(sl_:zB _ 40= .bool (!decide (X.els=X.to))).trans (by simp[k2])⟩
   ·refine go ?_;exact⟨rfl,rfl,rfl,(sl_:zB _ 40= .bool false).trans (by simp[k2])⟩
  rintro t7 _ hs7 ⟨rfl,q40⟩;refine go ?_;refine WX.cutA [41,42,43,44,45,46,47,48,49,50,51,52] (by kernel_rfl) (fun t h'=>Ext h h'/\(∃ cells',AR h h' (.pointer (some ⟨g2,0,none⟩)) cells' 16 (fun j=>if (X.kind=2/\X.els≠X.to)/\(j:Int)=X.els then (if X.kind≠3/\(j:Int)=X.to then zK L (j:Int) k++[(k:Int)] else zK L (j:Int) k)++[(k:Int)] else (if X.kind≠3/\(j:Int)=X.to then zK L (j:Int) k++[(k:Int)] else zK L (j:Int) k)))/\OwnC h h' (.pointer (some ⟨g4,0,none⟩)) [.slice va vn vk,.int .u8 X.kind,I X.a,I X.to,I X.els]) ?_ ?_
  ·refine WX.br (fun hd=> ?_) (fun hd=> ?_)<;>simp only[DB]at hd
   ·have hd':X.kind=2/\X.els≠X.to:=by exact hd
    obtain⟨t0,t1⟩:=hels hd'.1;have hi16:X.els.toNat<16:=by omega
    have ht:(X.els.toNat:Int)=X.els:=by omega
    refine WX.regionU6 (fun g=>∃ a b,cells6.getD X.els.toNat undef= .slice (some ⟨g,0,none⟩) a b) 1 rfl rfl ?_;have hb4:¬∃ a b,cells6.getD X.els.toNat undef= .slice (some ⟨g4,0,none⟩) a b:=fun ⟨a,b,e⟩=>zGY o6 (ar6.all _ hi16) _ _ _ e rfl;have hb2:¬∃ a b,cells6.getD X.els.toNat undef= .slice (some ⟨g2,0,none⟩) a b:=fun ⟨a,b,e⟩=>ar6.off hi16 rfl e rfl;have o5X:OwnC h (inC (zC 1 h6)) (.pointer (some ⟨g4,0,none⟩)) [.slice va vn vk,.int .u8 X.kind,I X.a,I X.to,I X.els]:=by have:=o6.ext (zq 1 h6);exact this
    have o2X:OwnC h (inC (zC 1 h6)) (.pointer (some ⟨g2,0,none⟩)) cells6:=by have:=ar6.own.ext (zq 1 h6);exact this
    refine goV ?_;refine WO.ldV (i:=X.els.toNat) o2X (by rw[ar6.len];omega) ?_;refine WO.nil ?_;refine zPD (a:=⟨g2,0,none⟩) (k:=X.els.toNat) zT hb2 ?_;refine goV ?_;refine WU6.app (i:=X.els.toNat) (k:=(k:Int)) ar6 e06 (by rw[e06.mark];exact hm) hi16 rfl (hlen6 _) zT zT rfl (fun w=>zT) (fun w=>by rw[ht];exact zT) rfl ?_;intro hN w t' hsl eN arN keepN nN;have oN:OwnC h hN (.pointer (some ⟨g4,0,none⟩)) [.slice va vn vk,.int .u8 X.kind,I X.a,I X.to,I X.els]:=by
     obtain⟨q,q1,q2,q3,q4⟩:=o6;cases q3;exact⟨g4,q1,QG q2 nN,rfl,(keepN g4 q2 (fun e=>by cases e;exact hg42 rfl) (fun a b e=>hb4 ⟨a,b,e⟩)).trans q4⟩
    refine zE ⟨eN,⟨cells6.set X.els.toNat w,?_⟩,oN⟩;have hfun:(fun j:Nat=>if j=X.els.toNat then (if X.kind≠3/\((X.els.toNat:Nat):Int)=X.to then zK L ((X.els.toNat:Nat):Int) k++[(k:Int)] else zK L ((X.els.toNat:Nat):Int) k)++[(k:Int)] else if X.kind≠3/\((j:Nat):Int)=X.to then zK L ((j:Nat):Int) k++[(k:Int)] else zK L ((j:Nat):Int) k)=fun j:Nat=>if (X.kind=2/\X.els≠X.to)/\(j:Int)=X.els then (if X.kind≠3/\(j:Int)=X.to then zK L (j:Int) k++[(k:Int)] else zK L (j:Int) k)++[(k:Int)] else (if X.kind≠3/\(j:Int)=X.to then zK L (j:Int) k++[(k:Int)] else zK L (j:Int) k):=by
     funext j;by_cases e:(j:Int)=X.els
     ·have e2:j=X.els.toNat:=by omega
      rw[QI e2];refine Eq.trans ?_ (QI ⟨hd',e⟩).symm;rw[<-e2]
     ·rw[QD (show ¬j=_ by omega)];exact(QD (fun h=>e h.2)).symm
    rw[<-hfun];exact arN
   ·refine WX.skip ?_;refine zE ⟨e06,⟨cells6,?_⟩,o6⟩;have hfun:(fun j:Nat=>if X.kind≠3/\((j:Nat):Int)=X.to then zK L ((j:Nat):Int) k++[(k:Int)] else zK L ((j:Nat):Int) k)=fun j:Nat=>if (X.kind=2/\X.els≠X.to)/\(j:Int)=X.els then (if X.kind≠3/\(j:Int)=X.to then zK L (j:Int) k++[(k:Int)] else zK L (j:Int) k)++[(k:Int)] else (if X.kind≠3/\(j:Int)=X.to then zK L (j:Int) k++[(k:Int)] else zK L (j:Int) k):=by
     funext j;exact(QD (fun h=>hd h.1)).symm
    rw[<-hfun];exact ar6
  rintro t8 h8 hs8 ⟨e08,⟨cells8,ar8⟩,o8⟩;refine go ?_;refine zA (k+1) (by omega) ⟨sln,by omega,e08,cells8,?_⟩;have hfun:(fun j:Nat=>if (X.kind=2/\X.els≠X.to)/\(j:Int)=X.els then (if X.kind≠3/\(j:Int)=X.to then zK L (j:Int) k++[(k:Int)] else zK L (j:Int) k)++[(k:Int)] else (if X.kind≠3/\(j:Int)=X.to then zK L (j:Int) k++[(k:Int)] else zK L (j:Int) k))=fun j:Nat=>zK L (j:Int) (k+1):=by
   funext j;rw[hsucc j];have:=hnx j;by_cases c1:X.kind≠3/\(j:Int)=X.to
   ·rw[QD (fun h=>h.1.2 (h.2.symm.trans c1.2)),QI c1,QI (this.2 (.inl c1))]
   ·by_cases c2:(X.kind=2/\X.els≠X.to)/\(j:Int)=X.els
    ·rw[QI c2,QD c1,QI (this.2 (.inr c2))]
    ·rw[QD c2,QD c1,QD (fun h=>(this.1 h).elim c1 c2)]
  rw[<-hfun];exact ar8
 ·have hkk:k=L.length:=by omega
  subst hkk;have oc:=ar.own;refine go ?_;refine WO.ldAll oc ar.len ?_;refine WO.stC0 (cs:=cells) oc e3 ?_ (hn:=ar.len) (hl:=ar.len) (h1:=ar.one);intro h6 e6 o6 u6;have ar6:=ar.updC o6 u6;refine go ?_;refine rt ?_ (Res.consA sl_ o6 (zKK ar.len) Res.nil);exact⟨⟨cells,rfl,ar.len,ar6.all⟩,e6⟩
end
end Go.Proofs.YteekipjpghikkaaGreatDoor
