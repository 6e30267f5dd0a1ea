/- What functions of the program come to in the abstract machine, and plain laws about it; no statement of the seat is proved in this text. -/
import Derived.Test.YtemggiegiejopaaGreatDoorJc
import Derived.Test.YtemggiegiejopaaGreatDoorJg
import Derived.Test.YtemggiegiejopaaGreatDoorJg
import Derived.Test.YtemggiegiejopaaGreatDoorAmV
set_option linter.unusedVariables false
set_option linter.unusedSimpArgs false
set_option maxHeartbeats 2000000
set_option maxRecDepth 100000
namespace Go.Proofs.YtemggiegiejopaaGreatDoor
noncomputable section
open Go.Am
def ZG (x:LEnd):List Int:=if x.kind=2∨x.kind=3 then [x.a] else []
def yw (x:LIns):List Int:=if x.op=22 then [] else yu x
def zBZ (E:Int→Prop):List LIns→Int→Int→Prop
 |[],_,r=>E r
 |x::l,k,r=>r∈yw x∨(r≠k∧zBZ E l (k+1) r)
def y9 (par:Int) (L:List LBlk) (b:Int):Int:=par+zo (L.take b.toNat)
def yG (par:Int) (L:List LBlk) (b:Int) (k:Nat) (E:Int→Prop) (r:Int):Prop:=
 zBZ (fun r=>r∈ZG (L.getD b.toNat default).fin∨E r) ((L.getD b.toNat default).ins.drop k) (y9 par L b+k) r
def YX:List Int→List Int→Int→List Int
 |f::fs,a::gs,b=>if f=b then a::YX fs gs b else YX fs gs b
 |_,_,_=>[]
def Y6 (B:LBlk) (from':Int):List Int:=B.ins.flatMap fun x=>if x.op=22 then YX x.frm x.args from' else []
def ZQ (L:List LBlk) (B:Int→Int→Prop) (b r:Int):Prop:=∃ k∈nxL L b,B k r∨r∈Y6 (L.getD k.toNat default) b
theorem zDo {E E':Int→Prop} (h:∀ r,E r→E' r):∀ (l:List LIns) (k r:Int),zBZ E l k r→zBZ E' l k r
 |[],_,r,q=>h r q
 |x::l,k,r,q=>q.imp id fun ⟨a,b⟩=>⟨a,zDo h l (k+1) r b⟩
theorem yM {par:Int} {L:List LBlk} {b:Int} {k:Nat} {E E':Int→Prop} (h:∀ r,E r→E' r) {r:Int} (q:yG par L b k E r):yG par L b k E' r:=
 zDo (fun r q=>q.imp id (h r)) _ _ _ q
theorem ZO {L:List LBlk} {B B':Int→Int→Prop} {b r:Int} (h:∀ k∈nxL L b,∀ r,B k r→B' k r) (q:ZQ L B b r):ZQ L B' b r:=
 let ⟨k,hk,q⟩:=q;⟨k,hk,q.imp (h k hk r) id⟩
structure Clo (par:Int) (L:List LBlk) (B E:Int→Int→Prop):Prop where
 e:∀ b r,0≤b→b<(L.length:Int)→ZQ L B b r→E b r
 b:∀ b r,0≤b→b<(L.length:Int)→yG par L b 0 (E b) r→B b r
structure LFix (par:Int) (L:List LBlk) (B E:Int→Int→Prop):Prop where
 e:∀ b r,0≤b→b<(L.length:Int)→(E b r↔ZQ L B b r)
 b:∀ b r,0≤b→b<(L.length:Int)→(B b r↔yG par L b 0 (E b) r)
 least:∀ B' E',Clo par L B' E'→∀ b r,0≤b→b<(L.length:Int)→(B b r→B' b r)∧(E b r→E' b r)
theorem LFix.clo {par L B E} (h:LFix par L B E):Clo par L B E:=⟨fun b r h1 h2 q=>(h.e b r h1 h2).2 q,fun b r h1 h2 q=>(h.b b r h1 h2).2 q⟩
theorem zEu {par:Int} {L:List LBlk} {b:Int} {E:Int→Prop} {r:Int} {k:Nat} (hk:(L.getD b.toNat default).ins.length≤k):yG par L b k E r↔r∈ZG (L.getD b.toNat default).fin∨E r:=by
 unfold yG;rw[List.drop_eq_nil_of_le hk];exact Iff.rfl
theorem getD_ins {l:List LIns} {i:Nat} (h:i<l.length):l.drop i=l.getD i default::l.drop (i+1):=by
 rw[List.drop_eq_getElem_cons h,List.getD_eq_getElem?_getD,List.getElem?_eq_getElem h];rfl
theorem zDn {par:Int} {L:List LBlk} {b:Int} {E:Int→Prop} {r:Int} {k:Nat} (hk:k<(L.getD b.toNat default).ins.length):
  yG par L b k E r↔r∈yw ((L.getD b.toNat default).ins.getD k default)∨(r≠y9 par L b+k∧yG par L b (k+1) E r):=by
 unfold yG;rw[getD_ins hk,zBZ];rw[show y9 par L b+(k:Int)+1=y9 par L b+((k+1:Nat):Int) by omega]
abbrev Zq:=List (List LWd)
def inS (s:Zq) (b r:Int):Prop:=InW (s.getD b.toNat []) r
structure WInv (par:Int) (L:List LBlk) (N:Int) (bg ed:Zq) (K:Int→Prop):Prop where
 lb:bg.length=L.length
 le:ed.length=L.length
 okb:∀ s∈bg,OkW s∧∀ r,InW s r→r<N
 oke:∀ s∈ed,OkW s∧∀ r,InW s r→r<N
 low:∀ b r,0≤b→b<(L.length:Int)→inS ed b r→ZQ L (inS bg) b r
 sub:∀ b r,0≤b→b<(L.length:Int)→inS bg b r→yG par L b 0 (inS ed b) r
 done:∀ b,0≤b→b<(L.length:Int)→¬K b→(∀ r,ZQ L (inS bg) b r→inS ed b r)∧∀ r,yG par L b 0 (inS ed b) r→inS bg b r
 least:∀ B' E',Clo par L B' E'→∀ b r,0≤b→b<(L.length:Int)→(inS bg b r→B' b r)∧(inS ed b r→E' b r)
theorem ZB {s:Zq} {b c r:Int} {x:List LWd} (hb:0≤b) (hb2:b<(s.length:Int)) (hc:0≤c):inS (s.set b.toNat x) c r↔if c=b then InW x r else inS s c r:=by
 unfold inS;by_cases e:c=b
 ·subst e;rw[if_pos rfl,List.getD_eq_getElem?_getD,List.getElem?_set_self (by omega)];rfl
 ·rw[if_neg e,List.getD_eq_getElem?_getD,List.getElem?_set_ne (by omega),←List.getD_eq_getElem?_getD]
theorem set_ok {s:Zq} {i:Nat} {x:List LWd} {P:List LWd→Prop} (h:∀ y∈s,P y) (hx:P x):∀ y∈s.set i x,P y:=fun y hy=>by
 rcases List.mem_or_eq_of_mem_set hy with h1|h1
 ·exact h y h1
 ·rw[h1];exact hx
theorem WInv.look {par:Int} {L:List LBlk} {N:Int} {bg ed:Zq} {K K':Int→Prop} {b:Int} {s1 s:List LWd} (I:WInv par L N bg ed K) (hb:0≤b) (hb2:b<(L.length:Int)) (hn:∀ c,0≤c→c<(L.length:Int)→∀ k∈nxL L c,0≤k∧k<(L.length:Int))
  (h1:OkW s1∧∀ r,InW s1 r→r<N) (h2:OkW s∧∀ r,InW s r→r<N) (m1:∀ r,InW s1 r↔inS ed b r∨ZQ L (inS bg) b r) (m2:∀ r,InW s r↔yG par L b 0 (InW s1) r)
  (hK:∀ c,0≤c→c<(L.length:Int)→¬K' c→(c=b∨¬K c)∧(s=bg.getD b.toNat []∨b∉nxL L c)):WInv par L N (bg.set b.toNat s) (ed.set b.toNat s1) K':=by
 have hbl:b<(bg.length:Int):=by rw[I.lb];exact hb2
 have hel:b<(ed.length:Int):=by rw[I.le];exact hb2
 have gb:∀ c r,0≤c→c<(L.length:Int)→inS bg c r→inS (bg.set b.toNat s) c r:=fun c r hc hc2 q=>by
  rw[ZB hb hbl hc];by_cases e:c=b
  ·subst e;rw[if_pos rfl,m2];exact yM (fun r q=>(m1 r).2 (.inl q)) (I.sub c r hc hc2 q)
  ·rw[if_neg e];exact q
 have ge:∀ r,ZQ L (inS bg) b r→ZQ L (inS (bg.set b.toNat s)) b r:=fun r q=>ZO (fun k hk r q=>gb k r (hn b hb hb2 k hk).1 (hn b hb hb2 k hk).2 q) q;have same:∀ c,0≤c→c<(L.length:Int)→(s=bg.getD b.toNat []∨b∉nxL L c)→∀ r,ZQ L (inS (bg.set b.toNat s)) c r→ZQ L (inS bg) c r:=fun c hc hc2 hs r q=>
  ZO (fun k hk r q=>by
   rw[ZB hb hbl (hn c hc hc2 k hk).1]at q;by_cases e:k=b
   ·subst e;rw[if_pos rfl]at q;rcases hs with hs|hs
    ·rw[hs]at q;exact q
    ·exact absurd hk hs
   ·rw[if_neg e]at q;exact q) q
 refine⟨by rw[List.length_set];exact I.lb,by rw[List.length_set];exact I.le,set_ok I.okb h2,set_ok I.oke h1,fun c r hc hc2 q=> ?_,fun c r hc hc2 q=> ?_,fun c hc hc2 hk=> ?_,fun B' E' hcl c r hc hc2=> ?_⟩
 ·rw[ZB hb hel hc]at q;by_cases e:c=b
  ·subst e;rw[if_pos rfl,m1]at q;exact ge r (q.elim (I.low c r hc hc2) id)
  ·rw[if_neg e]at q;exact ZO (fun k hk r q=>gb k r (hn c hc hc2 k hk).1 (hn c hc hc2 k hk).2 q) (I.low c r hc hc2 q)
 ·rw[ZB hb hbl hc]at q;by_cases e:c=b
  ·subst e;rw[if_pos rfl,m2]at q;exact yM (fun r q=>by rw[ZB hb hel hc,if_pos rfl];exact q) q
  ·rw[if_neg e]at q;exact yM (fun r q=>by rw[ZB hb hel hc,if_neg e];exact q) (I.sub c r hc hc2 q)
 ·obtain⟨k1,k2⟩:=hK c hc hc2 hk;by_cases e:c=b
  ·subst e;refine⟨fun r q=> ?_,fun r q=> ?_⟩
   ·rw[ZB hb hel hc,if_pos rfl,m1];exact .inr (same c hc hc2 k2 r q)
   ·rw[ZB hb hbl hc,if_pos rfl,m2];exact yM (fun r q=>by rw[ZB hb hel hc,if_pos rfl]at q;exact q) q
  ·obtain⟨d1,d2⟩:=I.done c hc hc2 (k1.resolve_left e);refine⟨fun r q=> ?_,fun r q=> ?_⟩
   ·rw[ZB hb hel hc,if_neg e];exact d1 r (same c hc hc2 k2 r q)
   ·rw[ZB hb hbl hc,if_neg e];exact d2 r (yM (fun r q=>by rw[ZB hb hel hc,if_neg e]at q;exact q) q)
 ·have he:∀ r,InW s1 r→E' b r:=fun r q=>((m1 r).1 q).elim (fun q=>(I.least B' E' hcl b r hb hb2).2 q) fun q=>hcl.e b r hb hb2 (ZO (fun k hk r q=>(I.least B' E' hcl k r (hn b hb hb2 k hk).1 (hn b hb hb2 k hk).2).1 q) q);constructor
  ·intro q;rw[ZB hb hbl hc]at q;by_cases e:c=b
   ·subst e;rw[if_pos rfl,m2]at q;exact hcl.b c r hc hc2 (yM he q)
   ·rw[if_neg e]at q;exact(I.least B' E' hcl c r hc hc2).1 q
  ·intro q;rw[ZB hb hel hc]at q;by_cases e:c=b
   ·subst e;rw[if_pos rfl]at q;exact he r q
   ·rw[if_neg e]at q;exact(I.least B' E' hcl c r hc hc2).2 q
theorem WInv.fix {par:Int} {L:List LBlk} {N:Int} {bg ed:Zq} {K:Int→Prop} (I:WInv par L N bg ed K) (hK:∀ b,0≤b→b<(L.length:Int)→¬K b):LFix par L (inS bg) (inS ed):=
 ⟨fun b r h1 h2=>⟨I.low b r h1 h2,(I.done b h1 h2 (hK b h1 h2)).1 r⟩,fun b r h1 h2=>⟨I.sub b r h1 h2,(I.done b h1 h2 (hK b h1 h2)).2 r⟩,I.least⟩
theorem zCt {n:Nat} {b r:Int}:¬inS (List.replicate n []) b r:=by
 unfold inS;rintro⟨w,hw,_⟩;rw[List.getD_eq_getElem?_getD,List.getElem?_replicate]at hw;split at hw<;>cases hw
theorem WInv.start (par:Int) (L:List LBlk) (N:Int) {K:Int→Prop} (hK:∀ b,0≤b→b<(L.length:Int)→K b):WInv par L N (List.replicate L.length []) (List.replicate L.length []) K:=by
 have hr:∀ s∈(List.replicate L.length ([]:List LWd)),OkW s∧∀ r,InW s r→r<N:=fun s hs=>by
  rw[List.eq_of_mem_replicate hs];exact⟨OkW.nil,fun r ⟨_,h,_⟩=>by cases h⟩
 exact⟨by simp,by simp,hr,hr,fun b r _ _ q=>absurd q zCt,fun b r _ _ q=>absurd q zCt,fun b h1 h2 hk=>absurd (hK b h1 h2) hk,fun _ _ _ b r _ _=>⟨fun q=>absurd q zCt,fun q=>absurd q zCt⟩⟩
def Z9 (bg:Zq):Nat:=(bg.map fun s=>(zp s).length).sum
theorem zHs {s:List LWd} {N:Nat} (h:OkW s) (hr:∀ r,InW s r→r<(N:Int)):(zp s).length≤N:=by
 have hd:(zp s).Nodup:=(YT h).imp fun h=>by omega
 have:=List.Nodup.length_le_of_subset hd (l₂:=(List.range N).map fun (i:Nat)=>(i:Int)) fun x hx=>by
  have h1:=(y8 h).1 hx;have h2:=h1.range h;have h3:=hr x h1;exact List.mem_map.2 ⟨x.toNat,List.mem_range.2 (by omega),by omega⟩
 simpa using this
theorem zGE {N:Nat}:∀ {bg:Zq},(∀ s∈bg,OkW s∧∀ r,InW s r→r<(N:Int))→Z9 bg≤bg.length * N
 |[],_=>Nat.zero_le _
 |s::bg,h=>by
  have h1:=h s (List.mem_cons_self ..);have h2:=zHs h1.1 h1.2;have h3:=zGE (bg:=bg) fun t ht=>h t (List.mem_cons_of_mem _ ht);unfold Z9 at *;rw[List.map_cons,List.sum_cons,List.length_cons,Nat.succ_mul];omega
theorem zEW:∀ {bg:Zq} {i:Nat} {s:List LWd},i<bg.length→Z9 (bg.set i s)+(zp (bg.getD i [])).length=Z9 bg+(zp s).length
 |[],i,s,h=>absurd h (Nat.not_lt_zero _)
 |t::bg,0,s,_=>by unfold Z9;simp[List.getD];omega
 |t::bg,i+1,s,h=>by
  have:=zEW (bg:=bg) (i:=i) (s:=s) (by simpa using h);unfold Z9 at *;simp only[List.set_cons_succ,List.map_cons,List.sum_cons,List.getD_cons_succ]at *;omega
theorem zIf {s t:List LWd} (hs:OkW s) (ht:OkW t) (h:∀ r,InW s r→InW t r) (hne:t≠s):(zp s).length<(zp t).length:=by
 have hd:(zp s).Nodup:=(YT hs).imp fun h=>by omega
 have hdt:(zp t).Nodup:=(YT ht).imp fun h=>by omega
 have hex:∃ r,InW t r∧¬InW s r:=by
  by_cases q:∃ r,InW t r∧¬InW s r
  ·exact q
  ·exact absurd (zHq ht hs fun r=>⟨fun a=>Classical.byContradiction fun b=>q ⟨r,a,b⟩,h r⟩) hne
 obtain⟨r,r1,r2⟩:=hex;have hc:(r::zp s).Nodup:=List.nodup_cons.2 ⟨fun q=>r2 ((y8 hs).1 q),hd⟩;have:=List.Nodup.length_le_of_subset hc (l₂:=zp t) fun x hx=>by
  rcases List.mem_cons.1 hx with rfl|hx
  ·exact(y8 ht).2 r1
  ·exact(y8 ht).2 (h x ((y8 hs).1 hx))
 rw[List.length_cons]at this;omega
def body54:ACode:=(.seq (oR [oX 1 0,oK 2 (.slice none 0 0)]) (.seq (oR [oF 0 4 1,oL 5 4,o1 6 73 5,⟨some 3,none,(.alloc [(.bool false),(.bool false),(.bool false),(.bool false),(.bool false),(.bool false)])⟩,oS 6 3 6]) (.seq (.seq (oR [oF 0 7 3,oL 8 7]) (.cond (.tmp 8) (oR [oM 9 2,oF 2 10 1,oL 11 10,⟨some 12,none,(.buildSlice 1 1 [(.int .i64 0)] [(0,1,(.tmp 11))])⟩,oY 1 13 9 12,oM 2 13]) .skip)) (.seq (.seq (oR [oF 1 14 3,oL 15 14]) (.cond (.tmp 15) (oR [oM 16 2,oF 3 17 1,oL 18 17,⟨some 19,none,(.buildSlice 1 1 [(.int .i64 0)] [(0,1,(.tmp 18))])⟩,oY 1 20 16 19,oM 2 20]) .skip)) (.seq (.seq (oR [oF 3 21 3,oL 22 21]) (.cond (.tmp 22) (oR [oM 23 2,oF 5 24 1,oL 25 24,oY 1 26 23 25,oM 2 26]) .skip)) (.seq (oR [oM 27 2,oM 2 27]) .ret))))))
theorem tab54:tb.code 54=some ⟨28,[(2,none)],body54⟩:=by kernel_rfl
theorem suses_ok (h:AHeap) (x:LIns) (cs:List Value) (hcs:RIns h cs x) (tt:Tbl h) (hx:x.args.length≤20):
  WC Tryz.prog tb 54 [.agg cs.toArray] h fun r h'=>OwnN h h' r (yu x)∧Ext h h':=by
 obtain⟨va,vfr,rfl,sa,sfr,hla,hlf,ho,ho2⟩:=hcs;obtain⟨aa,an,ak,rfl⟩:=SlC.shape sa;obtain⟨fa,fn,fk,rfl⟩:=SlC.shape sfr;refine WC.of (zE 54) tab54 ?_;simp only[zK,Nat.zero_add,Nat.reduceAdd];refine go ?_;refine WO.bx ?_;intro p h1 e1 o1;refine go ?_;refine WO.con (of_ok h1 x.op (tt.ext e1) ho ho2) ?_;rintro _ h2 ⟨rfl,e2⟩;refine go ?_;refine WO.al ?_;intro p3 h3 e3 o3;refine go ?_;refine WO.stC0 (cs:=Z1 (zS x.op)) o3 e3 ?_;intro h4 e4 o4 u4;have e14:=e2.trans e4;have o1:=o1.ext e14;have sa4:=SlI.ext sa (e1.trans e14);have o4:=o4.since e2;have o4:=o4.since e1;have e04:=e1.trans e14;clear e1 e2 e3 e4 u4 e14 o3;unfold yu;generalize zS x.op=q at *;obtain⟨qa,qb,qn,qg,qf,qt⟩:=q;simp only;refine go ?_;refine WX.cutA [9,10,11,12,13,2] (by kernel_rfl) (fun t h'=>Ext h4 h'∧∃ w,zC t 2=w∧OwnN h4 h' w (if qa then [x.a] else [])) ?_ ?_
 ·cases qa with
  |true=>
   refine go ?_;refine WO.bl [x.a] ?_;intro v h2 e2 o2;refine go ?_;refine WO.apN (v:= .slice none 0 0) (xs:=[]) (h0:=h4) (.inl ⟨rfl,rfl⟩) o2.sl e2 (by simp) ?_;intro v3 h3 e3 o3;refine go ?_;exact zG ⟨e3,v3,sl_,o3⟩
  |false=>
   refine go ?_;exact zG ⟨Ext.refl _,_,sl_,.inl ⟨rfl,rfl⟩⟩
 rintro t2 h2 hs2 ⟨e2,w2,q2,ow2⟩;have o2:=o1.ext e2;have o42:=o4.ext e2;have l2:(if qa then [x.a] else []).length≤1:=by split<;>simp
 generalize (if qa then [x.a] else [])=lA at *;refine go ?_;refine WX.cutA [16,17,18,19,20,2] (by kernel_rfl) (fun t h'=>Ext h4 h'∧∃ w,zC t 2=w∧OwnN h4 h' w (lA++if qb then [x.b] else [])) ?_ ?_
 ·cases qb with
  |true=>
   refine go ?_;refine WO.bl [x.b] ?_;intro v h3 e3 o3;refine go ?_;refine WO.apN (OwnN.ext ow2 e3) o3.sl (e2.trans e3) (by simp only[List.length_singleton];omega) ?_;intro v4 h5 e5 o5;refine go ?_;exact zG ⟨e5,v4,sl_,o5⟩
  |false=>
   refine go ?_;exact zG ⟨e2,_,sl_,by simpa using ow2⟩
 rintro t3 h3 hs3 ⟨e3,w3,q3,ow3⟩;have o3:=o1.ext e3;have o43:=o4.ext e3;have sa3:=SlI.ext sa4 e3;have l3:(lA++if qb then [x.b] else []).length≤2:=by rw[List.length_append];split<;>simp<;>omega
 rw[←List.append_assoc];generalize (lA++if qb then [x.b] else [])=lB at *;refine go ?_;cases qg with
 |true=>
  refine go ?_;refine WO.apN ow3 sa3 e3 (by omega) ?_;intro v5 h5 e5 o5;refine go ?_;refine rt ?_;exact⟨o5.since e04,e04.trans e5⟩
 |false=>
  refine go ?_;refine rt ?_;subst q3;rw[if_neg (by simp),List.append_nil];exact⟨ow3.since e04,e04.trans e3⟩
def body30:ACode:=(.seq (oR [oX 1 0,oK 2 (.slice none 0 0)]) (.seq (.seq (oR [oF 0 3 1,oL 4 3,oD .eql 5 4 2,oM 6 5,oH 6 (oF 0 7 1),oH 6 (oL 8 7),oH 6 (oD .eql 9 8 3),oO 10 6 9]) (.cond (.tmp 10) (.seq (oR [oF 1 11 1,oL 12 11,⟨some 13,none,(.buildSlice 1 1 [(.int .i64 0)] [(0,1,(.tmp 12))])⟩,oM 2 13]) .ret) .skip)) (.seq (oR [oK 2 (.slice none 0 0)]) .ret)))
theorem tab30:tb.code 30=some ⟨14,[(2,none)],body30⟩:=by kernel_rfl
theorem sends_ok (h:AHeap) (x:LEnd):WC Tryz.prog tb 30 [.agg #[.int .u8 x.kind,I x.a,I x.to,I x.els]] h fun r h'=>OwnN h h' r (ZG x)∧Ext h h':=by
 refine WC.of (zE 30) tab30 ?_;simp only[zK,Nat.zero_add,Nat.reduceAdd];refine go ?_;refine WO.bx ?_;intro p h1 e1 o1;unfold ZG;by_cases c2:x.kind=2
 ·rw[if_pos (.inl c2)];refine go ?_;refine WO.bl [x.a] ?_;intro v h2 e2 o2;refine go ?_;refine rt ?_;exact⟨.inr (o2.since e1),e1.trans e2⟩
 by_cases c3:x.kind=3
 ·rw[if_pos (.inr c3)];refine go ?_;refine WO.bl [x.a] ?_;intro v h2 e2 o2;refine go ?_;refine rt ?_;exact⟨.inr (o2.since e1),e1.trans e2⟩
 rw[if_neg (by simp[c2,c3])];refine go ?_;refine rt ?_;exact⟨.inl ⟨rfl,rfl⟩,e1⟩
structure EnvL (h:AHeap) (vt vf:Value) (T:List LType) (F:List LFn):Prop where
 tt:Tbl h
 hm:h.mark≤h.n
 sm:Small T F
 st:SlT h vt T
 sf:SlF h vf F
theorem EnvL.ext {h h':AHeap} {vt vf:Value} {T:List LType} {F:List LFn} (E:EnvL h vt vf T F) (e:Ext h h'):EnvL h' vt vf T F:=
 ⟨E.tt.ext e,yY e E.hm,E.sm,E.st.ext e,SlF.ext E.sf e⟩
theorem zEg {α:Type} {c i:Nat} {R:AHeap→List Value→α→Prop} {h:AHeap} {v:Value} {l:List α} (s:SlR c R h v l) (hl:0<l.length) (hi:i≤l.length):∃ r,Yp c v none (some i) none=some r∧SlR c R h r (l.take i):=by
 obtain⟨cells,⟨h1,⟨h2,_⟩|⟨g,off,row,rfl,h3,h4,h5⟩⟩,hR⟩:=s
 ·omega
 have hmul:i * c≤l.length * c:=Nat.mul_le_mul_right _ hi;have hlen:(l.take i).length=i:=by rw[List.length_take];omega
 refine⟨.slice (some ⟨g,off+0 * c,none⟩) (i - 0) c,?_,cells.take (i * c),⟨by rw[List.length_take,hlen];omega,.inr ⟨g,off,row,by rw[hlen];simp,h3,?_,h5⟩⟩,fun j a ha=> ?_⟩
 ·have b1:Nat.ble 0 i=true:=Nat.ble_eq_true_of_le (Nat.zero_le _);have b2:Nat.ble i l.length=true:=Nat.ble_eq_true_of_le hi;simp only[Yp,Option.getD_none,Option.getD_some,b1,b2,Option.isNone_none,Bool.and_self,cond_true,Nat.beq_refl]
 ·rw[hlen];obtain⟨c1,c2⟩:=zC6 h4;rw[Zi (by omega),c2,List.take_take,Nat.min_eq_left hmul]
 ·have hj:j<i:=by have:=(List.getElem?_eq_some_iff.1 ha).1;omega
  have hja:l[j]?=some a:=by rw[List.getElem?_take,if_pos hj]at ha;exact ha
  have:=hR j a hja;have h6:j * c+c≤i * c:=by rw[←Nat.succ_mul];exact Nat.mul_le_mul_right _ hj
  rw[List.drop_take,List.take_take,Nat.min_eq_left (by omega)];exact this
theorem zC8 (L:List LBlk) (i:Nat):zo (L.take i)≤zo L:=by
 have h1:zo L=zo (L.take i)+zo (L.drop i):=by
  conv=>lhs;rw[←List.take_append_drop i L]
  unfold zo;rw[List.map_append,List.sum_append]
 have:=yQ (L.drop i);omega
structure FnOk (T:List LType) (F:List LFn) (f:Int) (L:List LBlk) (par:Int):Prop where
 f0:0≤f
 f1:f<(F.length:Int)
 prog:Ze T F=0
 ask:zq T F f=(par,0)
 isL:L=(F.getD f.toNat default).blocks
 par0:0≤par
 parl:par≤100
 len:1≤L.length∧L.length≤16
 many:zo L≤128
 ins:∀ b∈L,(b.ins.length:Int)≤128
 fn:fnL T F.length (F.getD f.toNat default)=true
def body31:ACode:=(.seq (oR [oX 4 0,oN 8 0,oN 9 0]) (.seq (oR [oA 2 14 4,oM 15 1,o2 16 50 14 15,oM 13 16,oE 17 13 0,oE 18 13 1,oM 10 17,oM 11 18]) (.seq (.seq (oR [oM 19 11,oC .neq 20 19 0]) (.cond (.tmp 20) (.seq (oR [oM 21 11,oN 8 0,oM 9 21]) .ret) .skip)) (.seq (oR [oF 1 22 4,oL 23 22,oM 24 1,oI 2 25 23 24,oF 1 26 25,oL 27 26,oM 12 27]) (.seq (.seq (oR [oM 28 2,oM 29 12,oQ 30 29,o2 31 51 28 30,oW 32 31,oM 33 32,oH 33 (oM 34 3),oH 33 (oM 35 12),oH 33 (oM 36 2),oH 33 (oI 5 37 35 36),oH 33 (oF 0 38 37),oH 33 (oL 39 38),oH 33 (oQ 40 39),oH 33 (o2 41 51 34 40),oH 33 (oW 42 41),oO 43 33 42]) (.cond (.tmp 43) (.seq (oR [oN 8 0,oN 9 2]) .ret) .skip)) (.seq (oR [oM 44 10,oM 45 12,oM 46 2,⟨some 47,none,(.slice 5 (.tmp 45) none (some (.tmp 46)) none)⟩,⟨some 48,none,(.build [(.int .i64 0),(.slice none 0 0)] [(1,1,(.tmp 47))])⟩,o1 49 52 48,oB .add 50 44 49,oM 51 3,oB .add 52 50 51,oM 8 52,oN 9 0]) .ret))))))
theorem tab31:tb.code 31=some ⟨53,[(8,none),(9,none)],body31⟩:=by kernel_rfl
theorem sreg_ok (h:AHeap) (vt vf:Value) (T:List LType) (F:List LFn) (f:Int) (L:List LBlk) (par:Int) (E:EnvL h vt vf T F) (O:FnOk T F f L par) (b k:Int) (hb:0≤b∧b<(L.length:Int)) (hk:0≤k∧k<((L.getD b.toNat default).ins.length:Int)):
  WC Tryz.prog tb 31 [.agg #[vt,vf],I f,I b,I k] h fun r h'=>r= .tuple #[I (y9 par L b+k),I 0]∧Ext h h':=by
 have hF:=E.sm.funcs;obtain⟨f0,f1,hp,hask,rfl,p0,p1,hlen,hmany,hins,hfn⟩:=O;have hB:=E.sm.blocks _ (zI (l:=F) (i:=f.toNat) (by omega));have hI:=E.sm.ins _ (zI (l:=F) (i:=f.toNat) (by omega));refine WC.of (zE 31) tab31 ?_;simp only[zK,Nat.zero_add,Nat.reduceAdd];refine go ?_;refine WO.bx ?_;intro p h1 e1 o1;have E1:=E.ext e1;refine go ?_;refine WO.con (zGn h1 vt vf T F f E1.tt E1.hm E1.sm E1.st E1.sf) ?_;rintro _ h2 ⟨rfl,e2⟩;rw[hask];have o2:=o1.ext e2;have E2:=E1.ext e2;have sf2:=E2.sf;obtain⟨ta,tn,tk,rfl⟩:=zD E.st;obtain⟨ga,gn,gk,rfl⟩:=zD E.sf;obtain⟨cs,⟨vb,rfl,sb,hlb⟩,pc,hs⟩:=zZ (i:=f.toNat) sf2 (by omega);obtain⟨ba,bn,bk,rfl⟩:=zD sb;generalize (F.getD f.toNat default).blocks=L at *;obtain⟨csB,⟨vi,rfl,si,hli⟩,pcB,hsB⟩:=zZ (i:=b.toNat) sb (by omega);obtain⟨ia,iN,ik,rfl⟩:=zD si;obtain⟨vs,hvs,sbs⟩:=zEg (i:=b.toNat) sb (by omega) (by omega);refine go ?_;refine WO.con (yZ h2 b L.length) ?_;rintro _ _ ⟨rfl,rfl⟩;rw[show zN b L.length=true by unfold zN;rw[decide_eq_true hb.1,decide_eq_true hb.2];rfl];refine go ?_;refine WO.con (yZ h2 k (L.getD b.toNat default).ins.length) ?_;rintro _ _ ⟨rfl,rfl⟩;rw[show zN k (L.getD b.toNat default).ins.length=true by unfold zN;rw[decide_eq_true hk.1,decide_eq_true hk.2];rfl];refine go ?_;have hbt:(b.toNat:Int)=b:=by omega
 refine WO.slHi (i:=b.toNat) (hy:=by rw[hbt];exact zV) hvs ?_;have hlt:(L.take b.toNat).length≤1000:=by rw[List.length_take];omega
 have hIt:∀ x∈L.take b.toNat,x.ins.length≤1000:=fun x hx=>hI x (List.mem_of_mem_take hx);obtain⟨va,vn,vk,rfl⟩:=zD sbs;refine go ?_;refine WO.con (zC3 h2 0 _ _ sbs hlt hIt) ?_;rintro _ h3 ⟨rfl,e3⟩;have hmt:=yQ (L.take b.toNat);have hmt2:=zC8 L b.toNat;refine go ?_;refine rt ?_;exact⟨rfl,e1.trans (e2.trans e3)⟩
theorem zIc {t:List LWd} {l:List Int} (u:Upto t l):t.length≤l.length:=by
 have h1:∀ w∈t,∃ n∈l,n / 64=w.pos:=fun w hw=>by
  obtain⟨a,b,c,d⟩:=u.ok.each w hw;obtain⟨k,hk⟩:=zC1 c;have hk2:=Z8 d hk;exact⟨64 * w.pos+k,(u.mem _).1 ⟨w,hw,by omega,by rw[show ((64 * w.pos+(k:Int)) % 64).toNat=k by omega];exact hk⟩,by omega⟩
 have h2:(t.map (·.pos)).Nodup:=by
  rw[List.Nodup,List.pairwise_map];exact u.ok.rise.imp fun h=>by omega
 have h3:(t.map (·.pos)).length≤(l.map (· / 64)).length:=List.Nodup.length_le_of_subset h2 fun x hx=>by
  obtain⟨w,hw,rfl⟩:=List.mem_map.1 hx;obtain⟨n,hn,e⟩:=h1 w hw;exact List.mem_map.2 ⟨n,hn,e⟩
 simpa using h3
theorem Yf {s:List LWd} {N:Nat} (h:OkW s) (hr:∀ r,InW s r→r<(N:Int)):s.length≤N:=by
 have h1:=zHs h hr;have h2:∀ l:List LWd,OkW l→l.length≤(zp l).length:=fun l=>by
  induction l with
  |nil=>exact fun _=>Nat.le_refl _
  |cons w l ih=>
   intro o;have:=ih o.tail;rw[zDl,List.length_cons];have hw:=(o.each w (List.mem_cons_self ..)).2.2;obtain⟨k,hk⟩:=zC1 hw.1;have:0<(Yt w.bits).length:=List.length_pos_of_mem (Zs.2 ⟨Z8 hw.2 hk,hk⟩);omega
 have:=h2 s h;omega
theorem MineW.since {h0 h h' v s} (m:MineW h h' v s) (e:Ext h0 h):MineW h0 h' v s:=let ⟨b,hb,o⟩:=m;⟨b,Nat.le_trans e.n hb,o⟩
def body29:ACode:=(.seq (oR [oK 4 (.slice none 0 0)]) (.seq (oR [oM 8 1,o1 9 49 8,oM 7 9,oE 10 7 0,oE 11 7 1,oM 5 10,oM 6 11]) (.seq (oR [oM 13 0,oM 14 5,o2 15 45 13 14,oM 12 15,oE 16 12 0,oE 17 12 1,oM 0 16]) (.seq (oR [oM 18 0,oM 4 18]) .ret))))
theorem tab29:tb.code 29=some ⟨19,[(4,none)],body29⟩:=by kernel_rfl
theorem zFQ (h:AHeap) (va vl:Value) (A:List LWd) (l:List Int) (ka:SlW h va A) (sl:SlI h vl l) (oa:OkW A) (hl:∀ n∈l,0≤n∧n<1000) (la:A.length≤500) (ll:l.length≤5000) (hm:h.mark≤h.n):
  WC Tryz.prog tb 29 [va,vl] h fun r h'=>(∃ t,MineW h h' r t∧OkW t∧t.length≤A.length+1000∧∀ n,InW t n↔InW A n∨n∈l)∧Ext h h':=by
 refine WC.of (zE 29) tab29 ?_;simp only[zK,Nat.zero_add,Nat.reduceAdd];refine go ?_;refine WO.con (bOf_ok h vl l sl (by omega) hm) ?_;rintro _ h1 ⟨⟨w,t,rfl,m,u,_⟩,e1⟩;have hE:=zDf (fun n hn=>by have:=hl n hn;omega);have u:=u hE;rw[hE];have km:=m.sl;have lt:=Yf (N:=1000) u.ok fun r q=>(hl r ((u.mem r).1 q)).2;have hm1:h1.mark≤h1.n:=by have:=e1.mark;have:=e1.n;omega
 refine go ?_;refine WO.con (or_ok h1 va w A t (SlW.ext ka e1) km (by omega) (by omega) hm1) ?_;rintro _ h2 ⟨⟨v,rfl,mv⟩,e2⟩;rw[zDU oa u.ok];rw[zDK oa u.ok]at mv;obtain⟨oo,io⟩:=or_is oa u.ok;have ll2:=ZL (fun a b=>a|||b) A t;refine go ?_;refine rt ?_;exact⟨⟨_,mv.since e1,oo,by omega,fun n=>by rw[←Z5,io,Bool.or_eq_true,Z5,Z5,u.mem]⟩,e1.trans e2⟩
def body32:ACode:=(.seq (oR [oK 4 (.slice none 0 0)]) (.seq (oR [oM 8 1,⟨some 9,none,(.buildSlice 1 1 [(.int .i64 0)] [(0,1,(.tmp 8))])⟩,o1 10 49 9,oM 7 10,oE 11 7 0,oE 12 7 1,oM 5 11,oM 6 12]) (.seq (oR [oM 14 0,oM 15 5,o2 16 53 14 15,oM 13 16,oE 17 13 0,oE 18 13 1,oM 0 17]) (.seq (oR [oM 19 0,oM 4 19]) .ret))))
theorem tab32:tb.code 32=some ⟨20,[(4,none)],body32⟩:=by kernel_rfl
theorem zHZ (h:AHeap) (va:Value) (A:List LWd) (n:Int) (ka:SlW h va A) (oa:OkW A) (hn:0≤n∧n<1048576) (la:A.length≤500) (hm:h.mark≤h.n):
  WC Tryz.prog tb 32 [va,I n] h fun r h'=>(∃ t,MineW h h' r t∧OkW t∧t.length≤A.length+1∧∀ m,InW t m↔InW A m∧m≠n)∧Ext h h':=by
 refine WC.of (zE 32) tab32 ?_;simp only[zK,Nat.zero_add,Nat.reduceAdd];refine go ?_;refine WO.bl [n] ?_;intro vl h0 e0 o0;have hm0:h0.mark≤h0.n:=by have:=e0.mark;have:=e0.n;omega
 refine go ?_;refine WO.con (bOf_ok h0 vl [n] o0.sl (by simp) hm0) ?_;rintro _ h1 ⟨⟨w,t,rfl,m,u,_⟩,e1⟩;have hE:ofE [n]=0:=zDf fun x hx=>by rw[List.mem_singleton]at hx;subst hx;exact hn
 have u:=u hE;rw[hE];have km:=m.sl;have lt:=zIc u;have e01:=e0.trans e1;have hm1:h1.mark≤h1.n:=by have:=e1.mark;have:=e1.n;omega
 refine go ?_;refine WO.con (minus_ok h1 va w A t (SlW.ext ka e01) km (by omega) (by simp at lt;omega) hm1) ?_;rintro _ h2 ⟨⟨v,rfl,mv⟩,e2⟩;rw[zDU oa u.ok];rw[zDK oa u.ok]at mv;obtain⟨oo,io⟩:=min_is oa u.ok;have ll2:=ZL zCC A t;refine go ?_;refine rt ?_;refine⟨⟨_,mv.since e01,oo,by simp at lt;omega,fun k=> ?_⟩,e01.trans e2⟩;have hu:=u.mem k;rw[List.mem_singleton]at hu;rw[←Z5,io,Bool.and_eq_true,Z5,Bool.not_eq_true'];constructor
 ·rintro⟨a,b⟩;refine⟨a,fun e=> ?_⟩;rw[Z5.2 (hu.2 e)]at b;cases b
 ·rintro⟨a,b⟩;exact⟨a,zEN fun q=>b (hu.1 q)⟩
def body33:ACode:=(.seq (oR [oX 1 0,oK 2 (.slice none 0 0)]) (.seq (.seq (oR [oF 0 3 1,oL 4 3,oD .eql 5 4 22]) (.cond (.tmp 5) (.seq (oR [oK 2 (.slice none 0 0)]) .ret) .skip)) (.seq (oR [oA 7 6 1,o1 7 54 6,oM 2 7]) .ret)))
theorem tab33:tb.code 33=some ⟨8,[(2,none)],body33⟩:=by kernel_rfl
theorem reads_ok (h:AHeap) (x:LIns) (cs:List Value) (hcs:RIns h cs x) (tt:Tbl h) (hx:x.args.length≤20):
  WC Tryz.prog tb 33 [.agg cs.toArray] h fun r h'=>OwnN h h' r (yw x)∧Ext h h':=by
 have hcs0:=hcs;obtain⟨va,vfr,rfl,sa,sfr,hla,hlf,ho,ho2⟩:=hcs;obtain⟨aa,an,ak,rfl⟩:=SlC.shape sa;obtain⟨fa,fn,fk,rfl⟩:=SlC.shape sfr;refine WC.of (zE 33) tab33 ?_;simp only[zK,Nat.zero_add,Nat.reduceAdd];refine go ?_;refine WO.bx ?_;intro p h1 e1 o1;unfold yw;by_cases c:x.op=22
 ·rw[if_pos c];refine go ?_;refine rt ?_;exact⟨.inl ⟨rfl,rfl⟩,e1⟩
 rw[if_neg c];refine go ?_;refine WO.con (suses_ok h1 x _ (RIns.ext hcs0 e1) (tt.ext e1) hx) ?_;rintro r h2 ⟨o2,e2⟩;refine go ?_;refine rt ?_;exact⟨o2.since e1,e1.trans e2⟩
theorem zEr:∀ (fs gs:List Int) (b:Int) (j:Nat),fs.length=gs.length→j<fs.length→YX (fs.take (j+1)) (gs.take (j+1)) b=YX (fs.take j) (gs.take j) b++(if fs.getD j 0=b then [gs.getD j 0] else [])
 |[],_,_,_,_,h=>absurd h (Nat.not_lt_zero _)
 |f::fs,[],_,_,h,_=>by simp at h
 |f::fs,a::gs,b,0,_,_=>by
  simp only[List.take_succ_cons,List.take_zero,YX,List.getD_cons_zero];split<;>simp[YX]
 |f::fs,a::gs,b,j+1,h,hj=>by
  have:=zEr fs gs b j (by simpa using h) (by simpa using hj);simp only[List.take_succ_cons,YX,List.getD_cons_succ,this];split<;>simp
theorem zDm:∀ (fs gs:List Int) (b:Int),(YX fs gs b).length≤fs.length
 |[],_,_=>by simp[YX]
 |_::_,[],_=>by simp[YX]
 |f::fs,a::gs,b=>by
  have:=zDm fs gs b;unfold YX;split<;>simp<;>omega
def phiI (x:LIns) (b:Int):List Int:=if x.op=22 then YX x.frm x.args b else []
theorem zJC {B:LBlk} {i:Nat} {b:Int} (h:i<B.ins.length):(B.ins.take (i+1)).flatMap (fun x=>phiI x b)=(B.ins.take i).flatMap (fun x=>phiI x b)++phiI (B.ins.getD i default) b:=by
 rw[List.take_add_one,List.getElem?_eq_getElem h,List.flatMap_append,List.getD_eq_getElem?_getD,List.getElem?_eq_getElem h];simp
theorem zDk:∀ (l:List LIns) (b:Int),(∀ x∈l,x.frm.length≤20)→(l.flatMap fun x=>phiI x b).length≤20 * l.length
 |[],_,_=>Nat.zero_le _
 |x::l,b,h=>by
  have h1:=zDk l b fun y hy=>h y (List.mem_cons_of_mem _ hy);have h2:=h x (List.mem_cons_self ..);have h3:(phiI x b).length≤20:=by
   unfold phiI;split
   ·have:=zDm x.frm x.args b;omega
   ·simp
  rw[List.flatMap_cons,List.length_append,List.length_cons];omega
theorem zJW {h0 h1 h h':AHeap} {p v:Value} {n:Int} {cs:List Value} {xs:List Int} (o:OwnC h0 h p (.int .u8 n::cs)) (i:OwnN h1 h v xs) (u:Upd v h h'):OwnC h0 h' p (.int .u8 n::cs):=by
 obtain⟨g,g1,g2,rfl,hg⟩:=o;refine⟨g,g1,Nat.lt_of_lt_of_le g2 u.1,rfl,(u.2 g g2 fun a m c hv e=> ?_).trans hg⟩;rcases i with ⟨rfl,_⟩|⟨g3,_,_,rfl,hg3⟩
 ·cases hv
 ·cases hv;simp only at e;subst e;rw[hg]at hg3;cases xs with
  |nil=>cases hg3
  |cons x xs=>cases hg3
def body46_0:ACode:=(.seq (oR [oB .lss 23 22 21]) (.seq (oT 23 2) (.seq (.block 3 (.seq (oR [oM 24 22,oI 1 25 20 22,oL 26 25,oM 7 24,oM 8 26]) (.seq (oR [oM 27 8,oM 28 1,oB .eql 29 27 28]) (.cond (.tmp 29) (oR [oM 30 4,oF 5 31 6,oL 32 31,oM 33 7,oI 1 34 32 33,oL 35 34,⟨some 36,none,(.buildSlice 1 1 [(.int .i64 0)] [(0,1,(.tmp 35))])⟩,oY 1 37 30 36,oM 4 37]) .skip)))) (oR [oC .add 38 22 1,oM 22 38]))))
def body46_1:ACode:=(.seq (oR [oB .lss 13 12 11]) (.seq (oT 13 0) (.seq (.block 1 (.seq (oR [oI 7 14 10 12,oA 7 15 14,⟨some 6,none,(.alloc [(.int .u8 0),(.int .i64 0),(.int .i64 0),(.int .i64 0),(.int .i64 0),(.slice none 0 0),(.slice none 0 0)])⟩,oS 7 6 15]) (.seq (.seq (oR [oF 0 16 6,oL 17 16,oD .neq 18 17 22]) (.cond (.tmp 18) (.exit 1) .skip)) (.seq (oR [oF 6 19 6,oL 20 19,oQ 21 20,oN 22 0]) (.block 2 (.loop body46_0)))))) (oR [oC .add 39 12 1,oM 12 39]))))
def body46:ACode:=(.seq (oR [oX 2 0,oK 4 (.slice none 0 0)]) (.seq (.seq (oR [oF 0 9 2,oL 10 9,oQ 11 10,oN 12 0]) (.block 0 (.loop body46_1))) (.seq (oR [oM 40 4,oM 4 40]) .ret)))
theorem tab46:tb.code 46=some ⟨41,[(4,none)],body46⟩:=by kernel_rfl
theorem phis_ok (h:AHeap) (B:LBlk) (cs:List Value) (b:Int) (hcs:RBlk h cs B) (hB:(B.ins.length:Int)≤128) (hfr:∀ x∈B.ins,x.frm.length≤20) (hp:∀ x∈B.ins,x.op=22→x.frm.length=x.args.length):
  WC Tryz.prog tb 46 [.agg cs.toArray,I b] h fun r h'=>OwnN h h' r (Y6 B b)∧Ext h h':=by
 obtain⟨vi,rfl,si,hli⟩:=hcs;obtain⟨ia,iN,ik,rfl⟩:=zD si;have hfr:=Hid.mk hfr;have hp:=Hid.mk hp;refine WC.of (zE 46) tab46 ?_;simp only[zK,Nat.zero_add,Nat.reduceAdd];refine go ?_;refine WO.bx ?_;intro p h1 e1 o1;have si1:=SlN.ext si e1;refine go ?_;refine WX.loopA [13,14,15,6,16,17,18,19,20,21,22,23,24,25,26,7,8,27,28,29,30,31,32,33,34,35,36,37,4,38,22,39,12] (by kernel_rfl) (fun i=>B.ins.length - i) (fun i t h2=>∃ w,zC t 12=I i∧i≤B.ins.length∧Ext h1 h2∧zC t 4=w∧OwnN h1 h2 w ((B.ins.take i).flatMap fun x=>phiI x b)) 0 ?_ ?_
 ·exact⟨_,sl_,Nat.zero_le _,Ext.refl _,sl_,.inl ⟨rfl,rfl⟩⟩
 rintro i t h2 hsame ⟨w,s12,hi,e2,s4,ow⟩;have si2:=SlN.ext si1 e2;refine go ?_;refine WX.br (fun hb=> ?_) (fun hb=> ?_)<;>simp only[DB]at hb
 ·have hi':i<B.ins.length:=by omega
  have hmem:=zI (l:=B.ins) hi';have hfx:=hfr.out _ hmem;have hpx:=hp.out _ hmem;have hsn:=zJC (b:=b) hi';have hpl:=zDk (B.ins.take i) b fun x hx=>hfr.out x (List.mem_of_mem_take hx);have hpl2:(B.ins.take i).length≤i:=by rw[List.length_take];omega
  obtain⟨csx,⟨va,vf,rfl,sa,sf,ha1,ha2,ho1,ho2⟩,pcX,hs⟩:=zh si1 hi';have pc:=(pcX _ e2).1;obtain⟨aa,an,ak,rfl⟩:=SlC.shape sa;obtain⟨fa,fn,fk,rfl⟩:=SlC.shape sf;generalize (B.ins.take i).flatMap (fun x=>phiI x b)=P at *;generalize B.ins.getD i default=x at *;have hsn:=Hid.mk hsn;refine go ?_;refine WO.al ?_;intro p6 h3 e3 o6;refine go ?_;refine WO.stC0 (cs:=[.int .u8 x.op,I x.ty,I x.a,I x.b,I x.n,.slice aa an ak,.slice fa fn fk]) o6 e3 ?_;intro h4 e4 o64 u4;have ow4:=OwnN.ext ow e4;have e14:=e2.trans e4;have sa4:=SlI.ext sa e14;have sf4:=SlI.ext sf e14;have o64:=o64.since e2;refine go ?_;by_cases c:x.op=22
  ·have hpx:=hpx c;rw[phiI,if_pos c]at hsn;refine go ?_;refine WX.loopA [23,24,25,26,7,8,27,28,29,30,31,32,33,34,35,36,37,4,38,22] (by kernel_rfl) (fun j=>x.frm.length - j) (fun j t h5=>∃ w,zC t 22=I j∧j≤x.frm.length∧Ext h1 h5∧zC t 4=w∧OwnN h1 h5 w (P++YX (x.frm.take j) (x.args.take j) b)∧OwnC h1 h5 p6 [.int .u8 x.op,I x.ty,I x.a,I x.b,I x.n,.slice aa an ak,.slice fa fn fk]) 0 ?_ ?_
   ·exact⟨_,sl_,Nat.zero_le _,e14,sl_,by simpa [YX]using ow4,o64⟩
   ·rintro j t5 h5 hsame5 ⟨w5,s22,hj,e5,s4',ow5,o65⟩;have sa5:=SlI.ext sa e5;have sf5:=SlI.ext sf e5;refine go ?_;refine WX.br (fun hb2=> ?_) (fun hb2=> ?_)<;>simp only[DB]at hb2
    ·have hj':j<x.frm.length:=by omega
     have hps:=zEr x.frm x.args b j hpx hj';have hpal:=zDm (x.frm.take j) (x.args.take j) b;have hpal2:(x.frm.take j).length≤j:=by rw[List.length_take];omega
     by_cases hk:x.frm.getD j 0=b
     ·rw[if_pos hk]at hps;refine go ?_;refine WO.bl [x.args.getD j 0] ?_;intro v6 h6 e6 o6';refine go ?_;refine WO.apNw (OwnN.ext ow5 e6) o6'.sl (e5.trans e6) (by simp) (by simp only[List.length_append,List.length_singleton];omega) ?_;intro v7 h7 e7 o7 u7 _ _;have o67:=zJW (o65.ext e6) (OwnN.ext ow5 e6) u7;refine go ?_;refine zA (j+1) (by omega) ⟨_,sln,by omega,e7,sl_,by rw[hps,←List.append_assoc];exact o7,o67⟩
     ·rw[if_neg hk,List.append_nil]at hps;refine go ?_;refine zA (j+1) (by omega) ⟨_,sln,by omega,e5,sl_,by rw[hps];exact ow5,o65⟩
    ·have hjl:j=x.frm.length:=by omega
     subst hjl;rw[List.take_length,hpx,List.take_length]at ow5;refine go ?_;refine zA (i+1) (by omega) ⟨_,sln,by omega,e5,sl_,by rw[hsn.out];exact ow5⟩
  ·rw[phiI,if_neg c,List.append_nil]at hsn;refine go ?_;refine zA (i+1) (by omega) ⟨_,sln,by omega,e14,sl_,by rw[hsn.out];exact ow4⟩
 ·refine go ?_;refine rt ?_;rw[show i=B.ins.length by omega,List.take_length]at ow;subst s4;exact⟨ow.since e1,e1.trans e2⟩
def FarW (h:AHeap) (X:Nat) (v:Value) (s:List LWd):Prop:=SlW h v s∧∀ a n k,v= .slice (some a) n k→X≤a.block
theorem FarW.keep {h h':AHeap} {X:Nat} {v:Value} {s:List LWd} (F:FarW h X v s) (hk:∀ k,X≤k→k<h.n→h'.get k=h.get k) (hn:h.n≤h'.n):FarW h' X v s:=by
 obtain⟨⟨cells,⟨h1,h2⟩,hR⟩,hf⟩:=F;refine⟨⟨cells,⟨h1,h2.imp id ?_⟩,fun i a ha=>hR i a ha⟩,hf⟩;rintro⟨g,off,row,rfl,hr,hc,hg⟩;have:=hf _ _ _ rfl;refine⟨g,off,row,rfl,?_,hc,Nat.lt_of_lt_of_le hg hn⟩;unfold yA at hr ⊢;rw[hk g this hg];exact hr
theorem FarW.nil {h:AHeap} {X:Nat}:FarW h X (.slice none 0 0) []:=⟨SlR.nil,fun a n k e=>by cases e⟩
theorem MineW.far {h h':AHeap} {X:Nat} {v:Value} {s:List LWd} (m:MineW h h' v s) (hX:X≤h.n):FarW h' X v s:=by
 refine⟨m.sl,fun a n k e=> ?_⟩;obtain⟨b,hb,o⟩:=m;rcases o with ⟨e2,_⟩|⟨g,_,_,g1,_,e2,_⟩
 ·rw[e2]at e;cases e
 ·rw[e2]at e;cases e;show X≤g;omega
def RSt (X:Nat) (h:AHeap) (cs:List Value) (s:List LWd):Prop:=∃ v,cs=[v]∧FarW h X v s
def RowS (h:AHeap) (X g:Nat) (S:Zq):Prop:=∃ vs:List Value,h.get g=some (.row vs true 0)∧vs.length=S.length∧∀ i,i<S.length→FarW h X (vs.getD i undef) (S.getD i [])
theorem RowS.keep {h h':AHeap} {X g:Nat} {S:Zq} (r:RowS h X g S) (hg:h'.get g=h.get g) (hk:∀ k,X≤k→k<h.n→h'.get k=h.get k) (hn:h.n≤h'.n):RowS h' X g S:=by
 obtain⟨vs,a,b,c⟩:=r;exact⟨vs,hg.trans a,b,fun i hi=>(c i hi).keep hk hn⟩
theorem RowS.sl {h:AHeap} {X g:Nat} {S:Zq} (r:RowS h X g S) (hg:g<h.n):SlR 1 (RSt X) h (.slice (some ⟨g,0,none⟩) S.length 1) S:=by
 obtain⟨vs,a,b,c⟩:=r;refine⟨vs,SlC.own (own:=true) (lo:=0) hg a (by omega),fun i s hs=> ?_⟩;have hi:=(List.getElem?_eq_some_iff.1 hs).1;refine⟨vs.getD i undef,?_,?_⟩
 ·rw[Nat.mul_one,List.drop_eq_getElem_cons (by omega),List.take_succ_cons,List.take_zero,List.getD_eq_getElem?_getD,List.getElem?_eq_getElem (by omega)];rfl
 ·have:=c i hi;rwa [List.getD_eq_getElem?_getD (l:=S),hs]at this
structure FS (hB h:AHeap) (X gp gb ge gm:Nat) (vt vf:Value) (f:Int) (bg ed:Zq) (es:List (Int×Int)):Prop where
 e:Ext hB h
 hX:X≤h.n
 dp:hB.n≤gp∧gp<X
 db:hB.n≤gb∧gb<X
 de:hB.n≤ge∧ge<X
 dm:hB.n≤gm∧gm<X
 ne:gp≠gb∧gp≠ge∧gp≠gm∧gb≠ge∧gb≠gm∧ge≠gm
 rp:h.get gp=some (.row [vt,vf,I f,.slice (some ⟨gb,0,none⟩) bg.length 1,.slice (some ⟨ge,0,none⟩) ed.length 1,.map (some gm)] true 0)
 sb:RowS h X gb bg
 se:RowS h X ge ed
 rm:OwnM hB h (.map (some gm)) es
section
variable {hB h h':AHeap} {X gp gb ge gm:Nat} {vt vf:Value} {f:Int} {bg ed:Zq} {es es':List (Int×Int)}
theorem FS.own (F:FS hB h X gp gb ge gm vt vf f bg ed es):OwnC hB h (.pointer (some ⟨gp,0,none⟩)) [vt,vf,I f,.slice (some ⟨gb,0,none⟩) bg.length 1,.slice (some ⟨ge,0,none⟩) ed.length 1,.map (some gm)]:=
 ⟨gp,F.dp.1,Nat.lt_of_lt_of_le F.dp.2 F.hX,rfl,F.rp⟩
theorem FS.begs (F:FS hB h X gp gb ge gm vt vf f bg ed es):SlR 1 (RSt X) h (.slice (some ⟨gb,0,none⟩) bg.length 1) bg:=F.sb.sl (Nat.lt_of_lt_of_le F.db.2 F.hX)
theorem FS.ends (F:FS hB h X gp gb ge gm vt vf f bg ed es):SlR 1 (RSt X) h (.slice (some ⟨ge,0,none⟩) ed.length 1) ed:=F.se.sl (Nat.lt_of_lt_of_le F.de.2 F.hX)
theorem FS.ext (F:FS hB h X gp gb ge gm vt vf f bg ed es) (e:Ext h h'):FS hB h' X gp gb ge gm vt vf f bg ed es:=by
 have hk:∀ k,X≤k→k<h.n→h'.get k=h.get k:=fun k _ hk=>e.get k hk;exact⟨F.e.trans e,Nat.le_trans F.hX e.n,F.dp,F.db,F.de,F.dm,F.ne,(e.get _ (Nat.lt_of_lt_of_le F.dp.2 F.hX)).trans F.rp,F.sb.keep (e.get _ (Nat.lt_of_lt_of_le F.db.2 F.hX)) hk e.n,F.se.keep (e.get _ (Nat.lt_of_lt_of_le F.de.2 F.hX)) hk e.n,F.rm.ext e⟩
theorem FS.setM (F:FS hB h X gp gb ge gm vt vf f bg ed es) (e:Ext hB h') (o:OwnM hB h' (.map (some gm)) es') (u:UpdM (.map (some gm)) h h'):FS hB h' X gp gb ge gm vt vf f bg ed es':=by
 obtain⟨n1,n2,n3,n4,n5,n6⟩:=F.ne;have hk:∀ k,k<h.n→k≠gm→h'.get k=h.get k:=fun k h1 h2=>u.2 k h1 fun e=>by cases e;exact h2 rfl
 have hk2:∀ k,X≤k→k<h.n→h'.get k=h.get k:=fun k h1 h2=>hk k h2 (by have:=F.dm.2;omega);exact⟨e,Nat.le_trans F.hX u.1,F.dp,F.db,F.de,F.dm,F.ne,(hk _ (Nat.lt_of_lt_of_le F.dp.2 F.hX) n3).trans F.rp,F.sb.keep (hk _ (Nat.lt_of_lt_of_le F.db.2 F.hX) n5) hk2 u.1,F.se.keep (hk _ (Nat.lt_of_lt_of_le F.de.2 F.hX) n6) hk2 u.1,o⟩
theorem FS.setB {bg':Zq} (F:FS hB h X gp gb ge gm vt vf f bg ed es) (e:Ext hB h') (r:RowS h' X gb bg') (hl:bg'.length=bg.length) (hn:h.n≤h'.n) (hk:∀ k,k<h.n→k≠gb→h'.get k=h.get k):FS hB h' X gp gb ge gm vt vf f bg' ed es:=by
 obtain⟨n1,n2,n3,n4,n5,n6⟩:=F.ne;have hk2:∀ k,X≤k→k<h.n→h'.get k=h.get k:=fun k h1 h2=>hk k h2 (by have:=F.db.2;omega);refine⟨e,Nat.le_trans F.hX hn,F.dp,F.db,F.de,F.dm,F.ne,by rw[hl];exact(hk _ (Nat.lt_of_lt_of_le F.dp.2 F.hX) n1).trans F.rp,r,F.se.keep (hk _ (Nat.lt_of_lt_of_le F.de.2 F.hX) (fun e=>n4 e.symm)) hk2 hn,?_⟩;obtain⟨q,c,es',q1,q2,q3,q4,q5⟩:=F.rm;cases q3;exact⟨gm,c,es',q1,Nat.lt_of_lt_of_le q2 hn,rfl,(hk gm q2 (fun e=>n5 e.symm)).trans q4,q5⟩
theorem FS.setE {ed':Zq} (F:FS hB h X gp gb ge gm vt vf f bg ed es) (e:Ext hB h') (r:RowS h' X ge ed') (hl:ed'.length=ed.length) (hn:h.n≤h'.n) (hk:∀ k,k<h.n→k≠ge→h'.get k=h.get k):FS hB h' X gp gb ge gm vt vf f bg ed' es:=by
 obtain⟨n1,n2,n3,n4,n5,n6⟩:=F.ne;have hk2:∀ k,X≤k→k<h.n→h'.get k=h.get k:=fun k h1 h2=>hk k h2 (by have:=F.de.2;omega);refine⟨e,Nat.le_trans F.hX hn,F.dp,F.db,F.de,F.dm,F.ne,by rw[hl];exact(hk _ (Nat.lt_of_lt_of_le F.dp.2 F.hX) n2).trans F.rp,F.sb.keep (hk _ (Nat.lt_of_lt_of_le F.db.2 F.hX) n4) hk2 hn,r,?_⟩;obtain⟨q,c,es',q1,q2,q3,q4,q5⟩:=F.rm;cases q3;exact⟨gm,c,es',q1,Nat.lt_of_lt_of_le q2 hn,rfl,(hk gm q2 (fun e=>n6 e.symm)).trans q4,q5⟩
end
section
variable {P:Program} {tab:Tab} {t:Trie Value} {h:AHeap} {ds:List Deferred} {rd:Option Nat} {l:List AOper} {Q:AFr→AHeap→Prop}
theorem WO.stRow {hB:AHeap} {X g i n:Nat} {S:Zq} {s:List LWd} {x y:Operand} {a:Option Addr} {vn vk:Nat} (r:RowS h X g S) (e0:Ext hB h) (hg:hB.n≤g∧g<X) (hX:X≤h.n) (hi:i<S.length) (F:FarW h X (.slice a vn vk) s)
  (k:∀ h',Ext hB h'→RowS h' X g (S.set i s)→h'.n=h.n→(∀ k,k<h.n→k≠g→h'.get k=h.get k)→WO P tab l ⟨t,ds,rd⟩ h' Q)
  (hx:Ope t x (zi (.slice (some ⟨g,0,none⟩) n 1) (i * 1)):=by exact zV) (hy:Ope t y (.slice a vn vk):=by exact zV):
  WO P tab (⟨none,none,.store 1 x y⟩::l) ⟨t,ds,rd⟩ h Q:=by
 obtain⟨vs,r1,r2,r3⟩:=r;have hx:ev t x= .pointer (some ⟨g,0+i * 1,none⟩):=hx;rw[Nat.zero_add,Nat.mul_one]at hx;have hy:ev t y= .slice a vn vk:=hy;have hst:zg h ⟨g,i,none⟩ [.slice a vn vk]=some (h.set g (.row (vs.set i (.slice a vn vk)) true 0)):=by
  have h2:Nat.ble (i+[Value.slice a vn vk].length) vs.length=true:=Nat.ble_eq_true_of_le (by simp;omega);have h3:Nat.ble 0 i=true:=Nat.ble_eq_true_of_le (Nat.zero_le _);have h4:zL [Value.slice a vn vk]=true:=rfl;simp only[zg,r1,h2,h3,h4,Option.isNone_none,Bool.and_self,cond_true];rw[zEq (by omega)]
 have hk:∀ k,k≠g→(h.set g (.row (vs.set i (.slice a vn vk)) true 0)).get k=h.get k:=fun k hk=>by rw[zP,if_neg hk]
 refine WO.op0 undef (h.set g (.row (vs.set i (.slice a vn vk)) true 0)) rfl ?_ (k _ (e0.set hg.1 (Nat.lt_of_lt_of_le hg.2 hX) _) ⟨vs.set i (.slice a vn vk),by rw[zP,if_pos rfl],by rw[List.length_set,List.length_set];exact r2,fun j hj=> ?_⟩ rfl fun k _ h2=>hk k h2)
 ·simp only[aop,hx,hy,zGg,List.size_toArray,List.length_singleton,Nat.beq_refl,hst,Option.map_some,cond_true]
 ·rw[List.length_set]at hj;have hkk:∀ k,X≤k→k<h.n→(h.set g (.row (vs.set i (.slice a vn vk)) true 0)).get k=h.get k:=fun k h1 _=>hk k (by omega);by_cases e:j=i
  ·subst e;rw[List.getD_eq_getElem?_getD,List.getElem?_set_self (by omega),List.getD_eq_getElem?_getD,List.getElem?_set_self hi];exact F.keep hkk (Nat.le_refl _)
  ·rw[List.getD_eq_getElem?_getD,List.getElem?_set_ne (fun h=>e h.symm),List.getD_eq_getElem?_getD,List.getElem?_set_ne (fun h=>e h.symm),←List.getD_eq_getElem?_getD,←List.getD_eq_getElem?_getD];exact(r3 j hj).keep hkk (Nat.le_refl _)
end
def zd (par:Int) (L:List LBlk):Int:=par+zo L
structure InsU (x:LIns) (N n:Int):Prop where
 op:1≤x.op∧x.op≤22
 uses:∀ r∈yu x,0≤r∧r<N
 args:x.args.length≤20
 frm:x.frm.length≤20
 phi:x.op=22→x.frm.length=x.args.length∧(∀ r∈x.args,0≤r∧r<N)∧(∀ b∈x.frm,0≤b∧b<n)
 none:x.op≠22→x.frm.length=0
structure BlkU (b:LBlk) (N n:Int):Prop where
 ins:∀ x∈b.ins,InsU x N n
 ends:∀ r∈ZG b.fin,0≤r∧r<N
 next:∀ k∈Zk b.fin,0≤k∧k<n
theorem ins_op {x:LIns} {s:LSz} (h:zAW x s=true):1≤x.op∧x.op≤22:=by
 by_cases h0:0≤x.op
 ·exact((zDy h0).1 h).op
 ·exfalso;have he:zS x.op=(false,false,false,false,false,false):=by
   unfold zS;rw[show x.op.toNat=0 by omega];rfl
  unfold zAW oddL at h;rw[he]at h;simp at h
theorem ins_u {x:LIns} {s:LSz} (h:zAW x s=true):InsU x s.regs s.blocks:=by
 have ho:=ins_op h;have m:=(zDy (by omega)).1 h;have ha:=Yk (op:=x.op) (by omega);have h22:(zS x.op).2.2.2.2.1=true↔x.op=22:=ha.2.2.2.2.1;have hg:(zS x.op).2.2.2.1=true↔zDB x.op:=ha.2.2.1;have hf:=m.frm;have hgl:=m.g;have hargs:(x.args.length:Int)≤16:=by
  split at hf
  ·omega
  ·omega
 have hfrm:(x.frm.length:Int)≤16:=by
  split at hf
  ·omega
  ·omega
 refine⟨ho,m.uses,by omega,by omega,fun e=> ?_,fun e=> ?_⟩
 ·rw[if_pos (h22.2 e)]at hf;refine⟨by omega,fun r hr=>m.uses r ?_,hf.2.2.2⟩;unfold yu;rw[show (zS x.op).2.2.2.1=true from hg.2 (by unfold zDB;omega),if_pos rfl];exact List.mem_append.2 (.inr (List.mem_append.2 (.inr hr)))
 ·rw[if_neg (fun q=>e (h22.1 q))]at hf;omega
theorem blk_u {b:LBlk} {s:LSz} (h:zAR b s=false):BlkU b s.regs s.blocks:=by
 unfold zAR at h;rw[Bool.or_eq_false_iff]at h;obtain⟨h1,h2⟩:=h;have h2:zAX b.fin s=true:=by simpa using h2
 have he:=zGY.1 h2;refine⟨fun x hx=>ins_u ?_,fun r hr=> ?_,fun k hk=> ?_⟩
 ·cases hi:zAW x s with
  |true=>rfl
  |false=>exact absurd h1 (by rw[List.any_eq_true.2 ⟨x,hx,by rw[hi];rfl⟩];simp)
 ·unfold ZG at hr;split at hr
  ·rw[List.mem_singleton]at hr;subst hr;rcases he with ⟨e,_⟩|⟨e,q,_⟩|⟨e,_,_,q⟩
   ·omega
   ·exact q _ (by simp)
   ·exact q _ (by simp)
  ·cases hr
 ·unfold Zk at hk;rcases he with ⟨e,_,_,q⟩|⟨e,_,q⟩|⟨e,_⟩
  ·rw[if_pos e]at hk;exact q k hk
  ·rw[if_neg (by omega),if_pos e]at hk;split at hk
   ·exact q k (by rw[List.mem_singleton]at hk;subst hk;simp)
   ·exact q k hk
  ·rw[if_neg (by omega),if_neg (by omega)]at hk;cases hk
theorem fn_u {T:List LType} {nf:Int} {f:LFn} (h:fnL T nf f=true):∀ b∈f.blocks,BlkU b (zd ((T.getD f.sig.toNat default).parts.length:Int) f.blocks) f.blocks.length:=by
 intro b hb;unfold fnL at h;split at h
 ·cases h
 ·have h:(f.blocks.any fun b=>zAR b (szL T nf f))=false:=by simpa using h
  have:=blk_u (b:=b) (s:=szL T nf f) (by
   cases q:zAR b (szL T nf f)with
   |false=>rfl
   |true=>rw[List.any_eq_true.2 ⟨b,hb,q⟩]at h;cases h)
  exact this
theorem fn_len {T:List LType} {n:Int} {f:LFn} (h:fnL T n f=true):1≤f.blocks.length∧f.blocks.length≤16∧zo f.blocks≤128:=by
 unfold fnL at h;split at h
 ·cases h
 ·rename_i hb;unfold zAT at hb;simp only[Bool.or_eq_true,Bool.not_eq_true',decide_eq_true_iff,not_or,Bool.not_eq_false]at hb;obtain⟨⟨⟨_,_⟩,h3⟩,h4⟩:=hb;unfold zN at h3;simp at h3;omega
theorem ins_le {l:List LBlk} {b:LBlk} (h:b∈l):(b.ins.length:Int)≤zo l:=by
 induction l with
 |nil=>cases h
 |cons c l ih=>
  have hc:zo (c::l)=(c.ins.length:Int)+zo l:=by unfold zo;simp
  have hp:=yQ l;rw[hc];rcases List.mem_cons.1 h with rfl|h
  ·omega
  ·have:=ih h;omega
theorem zFF {T:List LType} {F:List LFn} {f:Int} (h:(zq T F f).2=0):0≤f∧f<(F.length:Int)∧Ze T F=0∧zq T F f=(((T.getD (F.getD f.toNat default).sig.toNat default).parts.length:Int),0):=by
 unfold zq at h ⊢;split at h
 ·rename_i hp;exact absurd h hp
 ·rename_i hp;rw[if_neg hp];split at h
  ·rename_i hb;rw[if_pos hb];unfold zN at hb;simp at hb;exact⟨hb.1,hb.2,by omega,rfl⟩
  ·cases h
theorem zCr {T:List LType} {F:List LFn} {f:Int} (sm:Small T F) (h:(zq T F f).2=0):FnOk T F f (F.getD f.toNat default).blocks ((T.getD (F.getD f.toNat default).sig.toNat default).parts.length:Int)∧
  ∀ b∈(F.getD f.toNat default).blocks,BlkU b (zd ((T.getD (F.getD f.toNat default).sig.toNat default).parts.length:Int) (F.getD f.toNat default).blocks) (F.getD f.toNat default).blocks.length:=by
 obtain⟨h0,h1,hp,ha⟩:=zFF h;have hmem:=zI (l:=F) (i:=f.toNat) (by omega);have hfn:=(zAY hp).2.2.2 _ hmem;have hl:=fn_len hfn;refine⟨⟨h0,h1,hp,ha,rfl,by omega,?_,⟨hl.1,hl.2.1⟩,hl.2.2,fun b hb=>by have:=ins_le hb;omega,hfn⟩,fn_u hfn⟩;by_cases q:(F.getD f.toNat default).sig.toNat<T.length
 ·have:=sm.parts _ (zI (l:=T) q);omega
 ·rw[List.getD_eq_getElem?_getD,List.getElem?_eq_none (by omega)];simp;decide
theorem zC4 {x:LIns} {r:Int} (h:r∈yw x):r∈yu x:=by
 unfold yw at h;split at h
 ·cases h
 ·exact h
theorem zDw:∀ {fs gs:List Int} {b r:Int},r∈YX fs gs b→r∈gs
 |[],_,_,_,h=>by simp[YX]at h
 |_::_,[],_,_,h=>by simp[YX]at h
 |f::fs,a::gs,b,r,h=>by
  unfold YX at h;split at h
  ·rcases List.mem_cons.1 h with rfl|h
   ·exact List.mem_cons_self ..
   ·exact List.mem_cons_of_mem _ (zDw h)
  ·exact List.mem_cons_of_mem _ (zDw h)
theorem phis_in {B:LBlk} {N n b r:Int} (u:BlkU B N n) (h:r∈Y6 B b):0≤r∧r<N:=by
 unfold Y6 at h;obtain⟨x,hx,hr⟩:=List.mem_flatMap.1 h;split at hr
 ·rename_i e;exact((u.ins x hx).phi e).2.1 r (zDw hr)
 ·cases hr
theorem zBg {N:Int} {E:Int→Prop}:∀ {l:List LIns} {k r:Int},(∀ x∈l,∀ r∈yu x,0≤r∧r<N)→(∀ r,E r→0≤r∧r<N)→zBZ E l k r→0≤r∧r<N
 |[],_,_,_,hE,h=>hE _ h
 |x::l,k,r,hu,hE,h=>by
  rcases h with h|⟨_,h⟩
  ·exact hu x (List.mem_cons_self ..) r (zC4 h)
  ·exact zBg (fun y hy=>hu y (List.mem_cons_of_mem _ hy)) hE h
end
end Go.Proofs.YtemggiegiejopaaGreatDoor
