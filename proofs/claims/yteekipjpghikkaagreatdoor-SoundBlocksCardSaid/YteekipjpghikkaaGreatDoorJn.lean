/- What functions of the program come to in the abstract machine, and plain laws about it; no statement of the seat is proved in this text. -/
import Derived.Test.YteekipjpghikkaaGreatDoorJm
import Derived.Test.YteekipjpghikkaaGreatDoorJk
import Derived.Test.YteekipjpghikkaaGreatDoorJj
import Derived.Test.YteekipjpghikkaaGreatDoorJg
import Derived.Test.YteekipjpghikkaaGreatDoorJc
import Derived.Test.YteekipjpghikkaaGreatDoorJa
import Derived.Test.YteekipjpghikkaaGreatDoorAmE
set_option linter.unusedVariables false
set_option linter.unusedSimpArgs false
set_option maxHeartbeats 4000000
namespace Go.Proofs.YteekipjpghikkaaGreatDoor
noncomputable section
open Go.Am
set_option maxRecDepth 100000
theorem zH5 (v:Value):∀ n,zV [v] n=List.replicate n v
 |0=>rfl
 |n+1=>by rw[zV,zH5 v n];rfl
theorem zOx {es:List (Int×Int)} (h:∀ c,c∉es.map (·.1)):es=[]:=by
 cases es with
 |nil=>rfl
 |cons e es=>exact absurd (Q0.2 ⟨e,QS ..,rfl⟩) (h e.1)
def zNY:ACode:=(oV (oR [oB .lss 32 31 30]) (oV (oT 32 0) (oV (o5 1 (oV (oR [oM 33 31,oM 8 33]) (oR [oM 34 6,⟨some 35,none,(.nilCheck (.tmp 34))⟩,oF 5 36 35,oL 37 36,oM 38 8,oM 39 8,⟨none,none,(.update (.tmp 37) (.tmp 38) (.tmp 39))⟩]))) (oR [oC .add 40 31 1,oM 31 40]))))
def zNv:ACode:=(oV (oR [oB .lss 49 48 47]) (oV (oT 49 4) (oV (o5 5 (oV (oR [oM 50 48,oM 9 50]) (oV (oR [oM 52 6,⟨some 53,none,(.nilCheck (.tmp 52))⟩,oF 5 54 53,oL 55 54,oM 56 9,⟨some 57,none,(.lookup true (.int .i64 0) (.tmp 55) (.tmp 56))⟩,oM 51 57,oE 58 51 0,oE 59 51 1,oM 10 58,oM 11 59]) (oV (oR [oM 60 11]) (oJ 60 (oV (oR [oM 61 6,⟨some 62,none,(.nilCheck (.tmp 61))⟩,oF 5 63 62,oL 64 63,oM 65 9,⟨none,none,(.delete (.tmp 64) (.tmp 65))⟩]) (oR [oM 66 7,oM 67 9,⟨some 68,none,(.call (.tmp 66) [(.tmp 67)])⟩])) .skip))))) (oR [oC .add 69 48 1,oM 48 69]))))
def zOJ:ACode:=(oV (oV (oR [oM 41 6,⟨some 42,none,(.nilCheck (.tmp 41))⟩,oF 5 43 42,oL 44 43,⟨some 45,none,(.lenMap (.tmp 44))⟩,oC .gtr 46 45 0]) (oT 46 2)) (o5 3 (oV (oR [oM 47 5,oN 48 0]) (o5 4 (.loop zNv)))))
def zTn:ACode:=(oV (oR [oX 2 0,oK 4 (.pointer none)]) (oV (oR [oF 1 12 2,oL 13 12,oM 14 1,oI 2 15 13 14,oF 1 16 15,oL 17 16,oQ 18 17,oM 5 18]) (oV (o6 [oA 2 19 2,oM 20 1,oM 21 5,(⟨some 22,none,(.mkSlice 1 [(.slice none 0 0)] (.tmp 21) (.tmp 21))⟩,[]),oM 23 5,(⟨some 24,none,(.mkSlice 1 [(.slice none 0 0)] (.tmp 23) (.tmp 23))⟩,[]),(⟨some 25,none,.mkMap⟩,[]),(⟨some 26,none,(.build [(.slice none 0 0),(.slice none 0 0),(.int .i64 0),(.slice none 0 0),(.slice none 0 0),(.map none)] [(0,2,(.tmp 19)),(2,1,(.tmp 20)),(3,1,(.tmp 22)),(4,1,(.tmp 24)),(5,1,(.tmp 25))])⟩,[]),oX 27 26,oM 6 27]) (oV (oR [oM 28 6,⟨some 29,none,(.mkFunc (.func 84) [(.tmp 28)] [])⟩,oM 7 29]) (oV (oV (oR [oM 30 5,oN 31 0]) (o5 0 (.loop zNY))) (oV (o5 2 (.loop zOJ)) (oV (oR [oM 70 6,⟨some 71,none,(.nilCheck (.tmp 70))⟩,oF 5 72 71,oL 73 72,⟨none,none,(.clear (.tmp 73))⟩]) (oV (oR [oM 74 6,oM 4 74]) .ret))))))))
theorem zMW (h:AHeap) (vt vf:Value) (T:List LType) (F:List LFn) (f par:Int) (L:List LBlk) (E:EnvL h vt vf T F) (O:FnOk T F f L par) (U:∀ x∈L,BlkU x (yL par L) L.length):
  WC Tryz.prog tb 49 [.agg #[vt,vf],I f] h fun r h'=>∃ X gp gb ge gm bg ed,r= .pointer (some ⟨gp,0,none⟩)/\FS h h' X gp gb ge gm vt vf f bg ed []/\LFix par L (inS bg) (inS ed)/\bg.length=L.length/\ed.length=L.length/\(∀ s∈bg,OkW s/\∀ r,InW s r->r<yL par L)/\(∀ s∈ed,OkW s/\∀ r,InW s r->r<yL par L):=by
 have hF:=E.sm.funcs;have hN:0<=yL par L/\yL par L<=228:=by
  have:=O.par0;have:=O.parl;have:=O.many;have:=ZK L;unfold yL;omega
 have hf0:=O.f0;have hf1:=O.f1;have hisL:=O.isL;have hlen:=O.len;have hm:=E.hm;obtain⟨ta,tn,tk,rfl⟩:=zM E.st;obtain⟨ga,gn,gk,rfl⟩:=zM E.sf;refine en 75 [(4,none)] zTn ?_;refine WO.bx ?_;intro p2 h1 e1 o2;have E1:=E.ext e1;have sf1:=E1.sf;obtain⟨csF,⟨vb,rfl,sb,hlb⟩,pcF,hsF⟩:=yN (i:=f.toNat) sf1 (by omega);obtain⟨ba,bn,bk,rfl⟩:=zM sb;rw[<-hisL]at sb;refine go ?_;refine WX.regionU2 4 rfl rfl ?_;have eA:Ext h1 (zC 4 h1):=zq 4 h1;have oX:=o2.ext eA;have oX:OwnC h (inC (zC 4 h1)) p2 [.slice ta tn tk,.slice ga gn gk]:=oX;have hm1:h1.mark<=h1.n:=E1.hm;refine goU ?_;refine WU2.mkSl (n:=L.length) hm1 (by omega) ?_;intro X1 n1 g1;refine goU ?_;refine WU2.mkSl (n:=L.length) (by omega) (by omega) ?_;intro X2 n2 g2;refine WU2.mkMp (by omega) ?_;intro X3 n3 g3;refine goU ?_;refine WU2.mkBx (cs:=[.slice ta tn tk,.slice ga gn gk,I f,.slice (some ⟨h1.n,0,none⟩) L.length 1,.slice (some ⟨h1.n+1,0,none⟩) L.length 1,.map (some (h1.n+1+1))]) (by omega) ?_;intro X4 n4 g4;refine goU ?_;have hn4:X4.n=h1.n+4:=by rw[n4,n3,n2,n1];rfl
 have gall:∀ j,X4.get j=if j=h1.n+3 then some (.row [.slice ta tn tk,.slice ga gn gk,I f,.slice (some ⟨h1.n,0,none⟩) L.length 1,.slice (some ⟨h1.n+1,0,none⟩) L.length 1,.map (some (h1.n+2))] true 0) else if j=h1.n+2 then some (.map [] 0) else if j=h1.n+1 then some (.row (List.replicate L.length (.slice none 0 0)) true 0) else if j=h1.n then some (.row (List.replicate L.length (.slice none 0 0)) true 0) else h1.get j:=fun j=>by
  rw[g4,g3,g2,g1,zH5];rfl
 have eH:Ext h1 (zc h1 (inC X4)):=⟨by show h1.n<=X4.n;omega,fun j hj=>by show X4.get j=_;rw[gall,QD (by omega),QD (by omega),QD (by omega),QD (by omega)],fun w j hj=>by
  have hj:X4.n<=j:=hj;show X4.get j=_;rw[gall,QD (by omega),QD (by omega),QD (by omega),QD (by omega)];exact w j (by omega),rfl,fun _=>rfl⟩
 have hrow:∀ H:AHeap,RowS H (h1.n+4) (h1.n) (List.replicate L.length [])->True:=fun _ _=>trivial;have hfn:∀ (H:AHeap) (g:Nat),H.get g=some (.row (List.replicate L.length (.slice none 0 0)) true 0)->RowS H (h1.n+4) g (List.replicate L.length []):=fun H g hg=>⟨_,hg,by simp,fun i hi=>by
  rw[Gd]at hi;rw[QE,Gt,QI hi,QE,Gt,QI hi];exact FarW.nil⟩
 have S0:FS h (zc h1 (inC X4)) (h1.n+4) (h1.n+3) h1.n (h1.n+1) (h1.n+2) (.slice ta tn tk) (.slice ga gn gk) f (List.replicate L.length []) (List.replicate L.length []) []:=by
  have hh:=e1.n;refine⟨e1.trans eH,by show h1.n+4<=X4.n;omega,⟨by omega,by omega⟩,⟨by omega,by omega⟩,⟨by omega,by omega⟩,⟨by omega,by omega⟩,⟨by omega,by omega,by omega,by omega,by omega,by omega⟩,?_,hfn _ _ ?_,hfn _ _ ?_,⟨h1.n+2,0,[],by omega,by show h1.n+2<X4.n;omega,rfl,?_,rfl⟩⟩
  ·show X4.get _=_;rw[gall,QI rfl,Gd]
  ·show X4.get _=_;rw[gall,QD (by omega),QD (by omega),QD (by omega),QI rfl]
  ·show X4.get _=_;rw[gall,QD (by omega),QD (by omega),QI rfl]
  ·show X4.get _=_;rw[gall,QD (by omega),QI rfl]
 clear gall g1 g2 g3 g4 n1 n2 n3 n4 hfn hrow hn4 oX eA;have w0:=WInv.start par L (yL par L) (K:=fun c=>0<=c/\c<(L.length:Int)) (fun b h1 h2=>⟨h1,h2⟩);generalize hX:h1.n+4=X at S0;generalize hgp:h1.n+3=gp at S0 |-;generalize hgb:h1.n=gb at S0;generalize hge:gb+1=ge at S0;generalize hgm:gb+2=gm at S0;generalize zc h1 (inC X4)=h2 at S0 |-;have hVs:∀ es:List (Int×Int),OwnM h h2 (.map (some gm)) es->True:=fun _ _=>trivial;clear hVs hX hgp hgb hge hgm eH;have o3:=S0.own;refine go ?_;refine WX.loopA [32,33,8,34,35,36,37,38,39,40,31] (by kernel_rfl) (fun i=>L.length - i) (fun i t h3=>∃ es,zB t 31=I i/\i<=L.length/\FS h h3 X gp gb ge gm (.slice ta tn tk) (.slice ga gn gk) f (List.replicate L.length []) (List.replicate L.length []) es/\Hid (Zj es/\∀ c,c∈es.map (·.1)↔0<=c/\c<(i:Int))) 0 ?_ ?_
 ·exact⟨[],sl_,QV _,S0,⟨by unfold Zj;simp,fun c=>by simp⟩⟩
 clear S0 o3;rintro i t h3 hsame ⟨es,s31,hi,S,hK⟩;have o3:=S.own;refine go ?_;refine WX.br (fun hc=> ?_) (fun hc=> ?_)<;>simp only[DB]at hc
 ·refine go ?_;refine WO.upM S.rm S.e ?_;intro h4 e4 o4 u4;have S4:=S.setM e4 o4 u4;refine go ?_;refine zA (i+1) (by omega) ⟨_,sln,by omega,S4,⟨zDG hK.out.1,fun c=> ?_⟩⟩;rw[zC2,hK.out.2];omega
 have hil:i=L.length:=by omega
 subst hil;have w1:WInv par L (yL par L) (List.replicate L.length []) (List.replicate L.length []) (fun c=>c∈es.map (·.1)):=WInv.start par L (yL par L) (fun c h1 h2=>(hK.out.2 c).2 ⟨h1,h2⟩);have hkr:∀ c∈es.map (·.1),0<=c/\c<(L.length:Int):=fun c hc=>(hK.out.2 c).1 hc;have hnxr:∀ c,0<=c->c<(L.length:Int)->∀ k∈nxL L c,0<=k/\k<(L.length:Int):=fun c h1 h2=>(U _ (zH (l:=L) (i:=c.toNat) (by omega))).next;have hnxr:=Hid.mk hnxr;have w1:=Hid.mk w1;have hK1:=Hid.mk (And.intro hK.out.1 hkr);clear hK hkr w0;refine go ?_;refine WX.loopA [41,42,43,44,45,46,47,48,49,50,9,52,53,54,55,56,57,51,58,59,10,11,60,61,62,63,64,65,66,67,68,69,48] (by kernel_rfl) (fun x:Z6×Z6×List (Int×Int)=>2 * (L.length * (yL par L).toNat - YW x.1)+(if x.2.2.length=0 then 0 else 1)) (fun x t h4=>FS h h4 X gp gb ge gm (.slice ta tn tk) (.slice ga gn gk) f x.1 x.2.1 x.2.2/\Hid (Zj x.2.2/\∀ c∈x.2.2.map (·.1),0<=c/\c<(L.length:Int))/\Hid (WInv par L (yL par L) x.1 x.2.1 (fun c=>c∈x.2.2.map (·.1)))) (List.replicate L.length [],List.replicate L.length [],es) ?_ ?_
 ·exact⟨S,hK1,w1⟩
 clear S hK1 w1 o3;rintro⟨bg0,ed0,es0⟩ t4 h4 hsame4 ⟨S,hK,hW⟩;simp only at S hK hW;have o4:=S.own;refine go ?_;refine WO.lnM S.rm ?_;refine go ?_;refine WX.br (fun hc=> ?_) (fun hc=> ?_)<;>simp only[DB]at hc
 ·refine go ?_;refine WX.loopA [49,50,9,52,53,54,55,56,57,51,58,59,10,11,60,61,62,63,64,65,66,67,68,69,48] (by kernel_rfl) (fun i=>L.length - i) (fun i t h5=>∃ bg ed es,zB t 48=I i/\i<=L.length/\FS h h5 X gp gb ge gm (.slice ta tn tk) (.slice ga gn gk) f bg ed es/\Hid (Zj es/\∀ c∈es.map (·.1),0<=c/\c<(L.length:Int))/\Hid (WInv par L (yL par L) bg ed (fun c=>c∈es.map (·.1)))/\Hid (YW bg0<YW bg\/(YW bg0=YW bg/\∀ c∈es.map (·.1),(i:Int)<=c))) 0 ?_ ?_
  ·exact⟨bg0,ed0,es0,sl_,QV _,S,hK,hW,⟨.inr ⟨rfl,fun c hc=>(hK.out.2 c hc).1⟩⟩⟩
  have hc0:es0.length≠0:=by omega
  clear S o4 hK;rintro i t5 h5 hsame5 ⟨bg,ed,es,s48,hi,S,hK,hW5,hM⟩;have o5:=S.own;refine go ?_;refine WX.br (fun hc5=> ?_) (fun hc5=> ?_)<;>simp only[DB]at hc5
  ·refine go ?_;refine WO.lkM S.rm ?_;by_cases hin:(i:Int)∈es.map (·.1)
   ·obtain⟨w,hw⟩:∃ w,es.lookup (i:Int)=some w:=by
     cases hl:es.lookup (i:Int)with
     |none=>exact absurd hl (look_mem.2 hin)
     |some w=>exact⟨w,rfl⟩
    rw[hw];refine go ?_;refine WO.dlM S.rm S.e ?_;intro h6 e6 o6 u6;have S6:=S.setM e6 o6 u6;have hlb:=hW5.out.lb;have hle:=hW5.out.le;have hob:=hW5.out.okb;have hoe:=hW5.out.oke;refine go ?_;refine WO.conV (WV.func (zRl h h6 X gp gb ge gm _ _ T F f par L bg ed (zBY i es) i S6 E O U ⟨by omega,by omega⟩ hlb hle hob hoe)) ?_;rintro _ h7 ⟨s1,s,es',S7,k1,k2,m1,m2,hcase⟩;refine go ?_;have hdk:∀ c,c∈(zBY (i:Int) es).map (·.1)↔c≠(i:Int)/\c∈es.map (·.1):=fun c=>zC0 hK.out.1;have hdo:Zj (zBY (i:Int) es):=zGI hK.out.1;have hi0:(0:Int)<=i:=by omega
    have hi1:(i:Int)<(L.length:Int):=by omega
    have hsz:=zF2 (bg:=bg) (i:=(i:Int).toNat) (s:=s) (by omega);have hW7:WInv par L (yL par L) (bg.set (i:Int).toNat s) (ed.set (i:Int).toNat s1) (fun c=>c∈es'.map (·.1)):=by
     refine hW5.out.look hi0 hi1 hnxr.out k1 k2 m1 m2 fun c hc1 hc2 hnk=> ?_;rcases hcase with ⟨q1,q2⟩|⟨q1,q2,q3⟩
     ·subst q2;refine⟨?_,.inl q1⟩;by_cases e:c=i
      ·exact .inl e
      ·exact .inr fun hm=>hnk ((hdk c).2 ⟨e,hm⟩)
     ·refine⟨?_,.inr fun hm=>hnk ((q3 c).2 (.inr (zC8.2 ⟨hc1,hc2,hm⟩)))⟩;by_cases e:c=i
      ·exact .inl e
      ·exact .inr fun hm=>hnk ((q3 c).2 (.inl ((hdk c).2 ⟨e,hm⟩)))
    have hK7:Zj es'/\∀ c∈es'.map (·.1),0<=c/\c<(L.length:Int):=by
     rcases hcase with ⟨q1,q2⟩|⟨q1,q2,q3⟩
     ·subst q2;exact⟨hdo,fun c hc=>hK.out.2 c ((hdk c).1 hc).2⟩
     ·exact⟨q2 hdo,fun c hc=>((q3 c).1 hc).elim (fun hc=>hK.out.2 c ((hdk c).1 hc).2) fun hc=>let ⟨a,b,_⟩:=zC8.1 hc;⟨a,b⟩⟩
    have hM7:YW bg0<YW (bg.set (i:Int).toNat s)\/(YW bg0=YW (bg.set (i:Int).toNat s)/\∀ c∈es'.map (·.1),((i+1:Nat):Int)<=c):=by
     rcases hcase with ⟨q1,q2⟩|⟨q1,q2,q3⟩
     ·rw[q1]at hsz;have hsz2:YW (bg.set (i:Int).toNat s)=YW bg:=by rw[q1];omega
      rw[hsz2];rcases hM.out with r|⟨r1,r2⟩
      ·exact .inl r
      ·refine .inr ⟨r1,fun c hc=> ?_⟩;subst q2;obtain⟨a,b⟩:=(hdk c).1 hc;have:=r2 c b;omega
     ·left;have hob':=zK7 hob (i:=(i:Int).toNat) (by omega);have hmore:=zMf (s:=bg.getD (i:Int).toNat []) (t:=s) hob'.1 k2.1 (fun r q=>(m2 r).2 (yZ (fun r q=>(m1 r).2 (.inl q)) (hW5.out.sub i r hi0 hi1 q))) q1;rcases hM.out with r|⟨r1,_⟩<;>omega
    exact zA (i+1) (by omega) ⟨_,_,es',sln,by omega,S7,⟨hK7⟩,⟨hW7⟩,⟨hM7⟩⟩
   ·have hw:es.lookup (i:Int)=none:=by
     cases hl:es.lookup (i:Int)with
     |none=>rfl
     |some w=>exact absurd (look_mem.1 (by rw[hl];simp)) hin
    rw[hw];refine go ?_;refine zA (i+1) (by omega) ⟨bg,ed,es,sln,by omega,S,hK,hW5,⟨?_⟩⟩;rcases hM.out with r|⟨r1,r2⟩
    ·exact .inl r
    ·refine .inr ⟨r1,fun c hc=> ?_⟩;have:=r2 c hc;have:c≠i:=fun e=>hin (e▸hc);omega
  ·have hiL:i=L.length:=by omega
   subst hiL;refine go ?_;have hup:=zIu (N:=(yL par L).toNat) fun s hs=>⟨(hW5.out.okb s hs).1,fun r q=>by have:=(hW5.out.okb s hs).2 r q;omega⟩;rw[hW5.out.lb]at hup;refine zA (bg,ed,es) ?_ ⟨S,hK,hW5⟩;simp only;rw[QD hc0];rcases hM.out with r|⟨r1,r2⟩
   ·split<;>omega
   ·have hes:es=[]:=zOx fun c hc=>by
     have h1:=r2 c hc;have h2:=(hK.out.2 c hc).2;omega
    subst hes;rw[QI (show ([]:List (Int×Int)).length=0 from rfl),r1];omega
 ·have hes:es0=[]:=Ga (by omega);subst hes;refine go ?_;refine WO.clM S.rm S.e ?_;intro h6 e6 o6 u6;have S6:=S.setM e6 o6 u6;refine gr ?_;exact⟨X,gp,gb,ge,gm,bg0,ed0,rfl,S6,hW.out.fix (fun b _ _ hb=>by cases hb),hW.out.lb,hW.out.le,hW.out.okb,hW.out.oke⟩
set_option maxRecDepth 100000
def LB (par:Int) (L:List LBlk) (b r:Int):Prop:=∀ B E,Clo par L B E->B b r
def LE (par:Int) (L:List LBlk) (b r:Int):Prop:=∀ B E,Clo par L B E->E b r
theorem LFix.isB {par L B E} (h:LFix par L B E) {b r:Int} (h1:0<=b) (h2:b<(L.length:Int)):B b r↔LB par L b r:=⟨fun q B' E' k=>(h.least B' E' k b r h1 h2).1 q,fun q=>q B E h.clo⟩
theorem LFix.isE {par L B E} (h:LFix par L B E) {b r:Int} (h1:0<=b) (h2:b<(L.length:Int)):E b r↔LE par L b r:=⟨fun q B' E' k=>(h.least B' E' k b r h1 h2).2 q,fun q=>q B E h.clo⟩
theorem LFix.the {par L B E} (h:LFix par L B E) (hn:∀ c,0<=c->c<(L.length:Int)->∀ k∈nxL L c,0<=k/\k<(L.length:Int)):LFix par L (LB par L) (LE par L):=by
 refine⟨fun b r h1 h2=> ?_,fun b r h1 h2=> ?_,fun B' E' k b r _ _=>⟨fun q=>q B' E' k,fun q=>q B' E' k⟩⟩
 ·rw[<-h.isE h1 h2,h.e b r h1 h2];exact⟨Yi fun k hk r q=>(h.isB (hn b h1 h2 k hk).1 (hn b h1 h2 k hk).2).1 q,Yi fun k hk r q=>(h.isB (hn b h1 h2 k hk).1 (hn b h1 h2 k hk).2).2 q⟩
 ·rw[<-h.isB h1 h2,h.b b r h1 h2];exact⟨yZ fun r q=>(h.isE h1 h2).1 q,yZ fun r q=>(h.isE h1 h2).2 q⟩
def zBh (T:List LType) (F:List LFn) (f b at':Int):Int:=
 if (Ya T F f b).2≠0 then (Ya T F f b).2 else if at'<0\/(((F.getD f.toNat default).blocks.getD b.toNat default).ins.length:Int)<at' then 2 else 0
theorem zKy {T:List LType} {F:List LFn} {f b:Int} (h:(Ya T F f b).2=0):(yl T F f).2=0/\0<=b/\b<((F.getD f.toNat default).blocks.length:Int):=by
 have h1:(zD T F f b).2=0:=by
  unfold Ya at h;split at h
  ·rename_i q;exact absurd h q
  ·rename_i q;omega
 obtain⟨a,c,d,e⟩:=yh h1;rw[d]at c;refine⟨?_,a,c⟩;unfold Yb at e;split at e
 ·rename_i q;exact absurd e q
 ·rename_i q;omega
abbrev Yy (F:List LFn) (f:Int):List LBlk:=(F.getD f.toNat default).blocks
abbrev zDk (T:List LType) (F:List LFn) (f:Int):Int:=((T.getD (F.getD f.toNat default).sig.toNat default).parts.length:Int)
def zUQ:ACode:=(oV (oR [oX 4 0,oN 8 0]) (oV (oV (oR [oA 2 12 4,oM 13 1,oM 14 2,o3 15 81 12 13 14,oM 11 15,oE 16 11 0,oE 17 11 1,oM 9 16,oM 10 17]) (oV (oR [oM 18 10,oC .neq 19 18 0]) (oJ 19 (oV (oR [oM 20 10,oM 8 20]) .ret) .skip))) (oV (oV (oR [oM 21 3,oC .lss 22 21 0,oM 23 22,oH 23 (oM 24 3),oH 23 (oF 1 25 4),oH 23 (oL 26 25),oH 23 (oM 27 1),oH 23 (oI 2 28 26 27),oH 23 (oF 1 29 28),oH 23 (oL 30 29),oH 23 (oM 31 2),oH 23 (oI 5 32 30 31),oH 23 (oF 0 33 32),oH 23 (oL 34 33),oH 23 (oQ 35 34),oH 23 (oB .gtr 36 24 35),oO 37 23 36]) (oJ 37 (oV (oR [oN 8 2]) .ret) .skip)) (oV (oR [oN 8 0]) .ret))))
theorem zLw (h:AHeap) (vt vf:Value) (T:List LType) (F:List LFn) (f b at':Int) (E:EnvL h vt vf T F):
  WC Tryz.prog tb 47 [.agg #[vt,vf],I f,I b,I at'] h fun r h'=>r=I (zBh T F f b at')/\Ext h h':=by
 have hF:=E.sm.funcs;obtain⟨ta,tn,tk,rfl⟩:=zM E.st;obtain⟨ga,gn,gk,rfl⟩:=zM E.sf;refine en 38 [(8,none)] zUQ ?_;refine WO.bx ?_;intro p h1 e1 o1;have E1:=E.ext e1;refine go ?_;refine WO.con (zKk h1 _ _ T F f b E1.tt E1.hm E1.sm E1.st E1.sf) ?_;rintro _ h2 ⟨⟨vn,rfl,sn,_⟩,e2⟩;have e12:=e1.trans e2;unfold zBh;by_cases hn:(Ya T F f b).2=0;case neg=>
  rw[QI hn];refine gr ?_;exact⟨rfl,e12⟩
 obtain⟨ha,hb0,hb1⟩:=zKy hn;obtain⟨hf0,hf1,_⟩:=zLE ha;have E2:=E1.ext e2;have sf2:=E2.sf;have o2:=o1.ext e2;obtain⟨csF,⟨vb,rfl,sb,hlb⟩,pcF,hsF⟩:=yN (i:=f.toNat) sf2 (by omega);obtain⟨ba,bn,bk,rfl⟩:=zM sb;obtain⟨csB,⟨vi,rfl,si,hli⟩,pcB,hsB⟩:=yN (i:=b.toNat) sb (by omega);obtain⟨ia,iN,ik,rfl⟩:=zM si;rw[QD (fun q=>q hn),hn];by_cases c1:at'<0
 ·rw[QI (.inl c1)];refine gr ?_;exact⟨rfl,e12⟩
 by_cases c2:(((F.getD f.toNat default).blocks.getD b.toNat default).ins.length:Int)<at'
 ·rw[QI (.inr c2)];refine gr ?_;exact⟨rfl,e12⟩
 rw[QD (by omega)];refine gr ?_;exact⟨rfl,e12⟩
structure AtR (T:List LType) (F:List LFn) (f b at':Int) (l:List Int):Prop where
 rise:l.Pairwise (·<·)
 mem:∀ r,r∈l↔ZC (zDk T F f) (Yy F f) b at'.toNat (LE (zDk T F f) (Yy F f) b) r
 fix:LFix (zDk T F f) (Yy F f) (LB (zDk T F f) (Yy F f)) (LE (zDk T F f) (Yy F f))
 reg:∀ r∈l,0<=r/\r<yL (zDk T F f) (Yy F f)
def zUl:ACode:=(oV (oR [oX 4 0,oK 8 (.slice none 0 0),oN 9 0]) (oV (oV (oR [oA 2 11 4,oM 12 1,oM 13 2,oM 14 3,o4 15 47 11 12 13 14,oM 10 15]) (oV (oR [oM 16 10,oC .neq 17 16 0]) (oJ 17 (oV (oR [oM 18 10,oK 8 (.slice none 0 0),oM 9 18]) .ret) .skip))) (oV (oR [oA 2 19 4,oM 20 1,o2 21 49 19 20,oM 22 2,oM 23 3,o3 24 50 21 22 23,o1 25 48 24,oE 26 25 0,oE 27 25 1,oM 8 26,oM 9 27]) .ret)))
theorem zTm (h:AHeap) (vt vf:Value) (T:List LType) (F:List LFn) (f b at':Int) (E:EnvL h vt vf T F) (Z:TzT h):
  WC Tryz.prog tb 20 [.agg #[vt,vf],I f,I b,I at'] h fun r h'=>(∃ v l,r= .tuple #[v,I (zBh T F f b at')]/\OwnN h h' v l/\(zBh T F f b at'≠0->l=[])/\(zBh T F f b at'=0->AtR T F f b at' l))/\Ext h h':=by
 obtain⟨ta,tn,tk,rfl⟩:=zM E.st;obtain⟨ga,gn,gk,rfl⟩:=zM E.sf;refine en 28 [(8,none),(9,none)] zUl ?_;refine WO.bx ?_;intro p h1 e1 o1;have E1:=E.ext e1;refine go ?_;refine WO.con (zLw h1 _ _ T F f b at' E1) ?_;rintro _ h2 ⟨rfl,e2⟩;have e12:=e1.trans e2;have o2:=o1.ext e2;have E2:=E1.ext e2;by_cases ha:zBh T F f b at'=0;case neg=>
  refine gr ?_;exact⟨⟨_,[],rfl,.inl ⟨rfl,rfl⟩,fun _=>rfl,fun h=>absurd h ha⟩,e12⟩
 have hn:(Ya T F f b).2=0:=by
  unfold zBh at ha;split at ha
  ·rename_i q;exact absurd ha q
  ·rename_i q;omega
 have hat:0<=at'/\at'<=(((F.getD f.toNat default).blocks.getD b.toNat default).ins.length:Int):=by
  unfold zBh at ha;rw[QD (fun q=>q hn)]at ha;split at ha
  ·cases ha
  ·rename_i q;omega
 obtain⟨hask,hb0,hb1⟩:=zKy hn;obtain⟨O,U⟩:FnOk T F f (Yy F f) (zDk T F f)/\∀ b∈Yy F f,BlkU b (yL (zDk T F f) (Yy F f)) (Yy F f).length:=zRx E.sm hask;have hb1:b<((Yy F f).length:Int):=hb1;have hnx:∀ c,0<=c->c<((Yy F f).length:Int)->∀ k∈nxL (Yy F f) c,0<=k/\k<((Yy F f).length:Int):=fun c h1 h2=>(U _ (zH (l:=Yy F f) (i:=c.toNat) (by omega))).next;refine go ?_;refine WO.con (zMW h2 _ _ T F f _ _ E2 O U) ?_;rintro _ h3 ⟨X,gp,gb,ge,gm,bg,ed,rfl,S,hfix,hlb,hle,hob,hoe⟩;have e23:=S.e;have E3:=E2.ext e23;have hoed:=zK7 hoe (i:=b.toNat) (by omega);have hat2:at'.toNat<=((Yy F f).getD b.toNat default).ins.length:=by
  show at'.toNat<=((F.getD f.toNat default).blocks.getD b.toNat default).ins.length;omega
 have hA:=zF7 h2 h3 X gp gb ge gm _ _ T F f _ _ bg ed [] b at'.toNat S E3 O U ⟨hb0,hb1⟩ hat2 hle hoed;rw[show ((at'.toNat:Nat):Int)=at' by omega]at hA;refine go ?_;refine WO.con hA ?_;rintro v4 h4 ⟨⟨t4,m4,o4,mem4⟩,e4⟩;have e04:=e12.trans (e23.trans e4);have Z4:=Z.ext e04;have hm4:h4.mark<=h4.n:=(E3.ext e4).hm;have hreg:∀ r,InW t4 r->0<=r/\r<yL (zDk T F f) (Yy F f):=fun r q=>by
  have q:=(mem4 r).1 q;unfold ZC at q;have hUb:=U _ (zH (l:=Yy F f) (i:=b.toNat) (by omega));exact zCY (fun x hx=>(hUb.ins x (List.mem_of_mem_drop hx)).uses) (fun r q=>q.elim (fun q=>hUb.ends r q) fun q=>⟨(InW.range hoed.1 q).1,hoed.2 r q⟩) q
 have hN:0<=yL (zDk T F f) (Yy F f)/\yL (zDk T F f) (Yy F f)<=228:=by
  have:=O.par0;have:=O.parl;have:=O.many;have:=ZK (Yy F f);unfold yL;omega
 have hl4:t4.length<=228:=by
  have:=zAc (N:=(yL (zDk T F f) (Yy F f)).toNat) o4 fun r q=>by have:=hreg r q;omega
  omega
 refine go ?_;refine WO.con (zRY h4 v4 t4 m4.sl Z4 (by omega) hm4) ?_;rintro _ h5 ⟨⟨w,rfl,ow⟩,e5⟩;rw[zAK o4,QI rfl]at ow;rw[zAK o4,show zHw true=0 from rfl];refine gr ?_;rw[ha];refine⟨⟨w,zv t4,rfl,ow.since e04,fun h=>absurd rfl h,fun _=>⟨zAj o4,fun r=> ?_,hfix.the hnx,fun r hr=>hreg r ((YL o4).1 hr)⟩⟩,e04.trans e5⟩;rw[YL o4,mem4];exact⟨yZ fun r q=>(hfix.isE hb0 hb1).1 q,yZ fun r q=>(hfix.isE hb0 hb1).2 q⟩
theorem zGH:∀ {l:List LBlk} {a:Int},0<=a->a<zt l->a=zt (l.take (ZG l a).1.toNat)+(ZG l a).2
 |[],a,h0,h1=>by have h1:a<0:=h1;omega
 |b::l,a,h0,h1=>by
  rw[zAk]at h1;unfold ZG;by_cases hk:(b.ins.length:Int)<=a
  ·rw[QI hk];have ih:=zGH (l:=l) (a:=a - b.ins.length) (by omega) (by omega);have h2:=(zCw (l:=l) (a:=a - b.ins.length) (by omega) (by omega)).1;show a=zt ((b::l).take ((ZG l (a - b.ins.length)).1+1).toNat)+(ZG l (a - b.ins.length)).2;rw[show ((ZG l (a - b.ins.length)).1+1).toNat=(ZG l (a - b.ins.length)).1.toNat+1 by omega,Qn,zAk];omega
  ·rw[QD hk];show a=zt ((b::l).take (0:Int).toNat)+a;simp[zt]
def AtB (T:List LType) (F:List LFn) (f b k r:Int):Prop:=
 (0<=r/\r<yL ((ZH T F f).parts.length:Int) (zQ F f))/\zBl (nxL (zQ F f)) ((psF T F f).getD r.toNat default) b k/\(ksF T F f).getD r.toNat 0≠ -1
section
variable {T:List LType} {F:List LFn} {f:Int}
theorem zEI (Z:FnIn T F f) {r:Int} (h:0<=r/\r<yL ((ZH T F f).parts.length:Int) (zQ F f)):
  ((psF T F f).getD r.toNat default).1= -1\/(((ZH T F f).parts.length:Int)<=r/\(0<=((psF T F f).getD r.toNat default).1/\((psF T F f).getD r.toNat default).1<((zQ F f).length:Int))/\0<=((psF T F f).getD r.toNat default).2/\((psF T F f).getD r.toNat default).2<(((zQ F f).getD ((psF T F f).getD r.toNat default).1.toNat default).ins.length:Int)/\
   r=YU ((ZH T F f).parts.length:Int) (zQ F f) ((psF T F f).getD r.toNat default).1+((psF T F f).getD r.toNat default).2):=by
 rw[zNa h.1 h.2];split
 ·exact .inl rfl
 ·rename_i hr;have h2:=h.2;unfold yL at h2;have hw:=zCw (l:=zQ F f) (a:=r - ((ZH T F f).parts.length:Int)) (by omega) (by omega);have hi:=zGH (l:=zQ F f) (a:=r - ((ZH T F f).parts.length:Int)) (by omega) (by omega);unfold YU;exact .inr ⟨by omega,⟨hw.1,hw.2.1⟩,hw.2.2.1,hw.2.2.2,by omega⟩
theorem zJB (Z:FnIn T F f) {r:Int} (h:0<=r/\r<((ksF T F f).length:Int)):0<=r/\r<yL ((ZH T F f).parts.length:Int) (zQ F f):=by have:=Z.reg;omega
theorem zOo {ks rs:List Int} {r:Int} (h:¬(-1:Int)∈YJ ks rs) (hr:r∈rs):ks.getD r.toNat 0≠ -1:=fun e=>h (Q0.2 ⟨r,hr,e⟩)
theorem zNS (Z:FnIn T F f) (W:zBr T F f) {b r:Int} {i:Nat} (hb:0<=b/\b<((zQ F f).length:Int)) (hi:i<((zQ F f).getD b.toNat default).ins.length) (h:r∈Z2 (((zQ F f).getD b.toNat default).ins.getD i default)):AtB T F f b i r:=by
 have hok:=(W.2.2 b hb.1 hb.2).1 i hi;unfold Zw zEX at hok;have hU:=(Z.U _ (zH (l:=zQ F f) (i:=b.toNat) (by omega))).ins _ (zH hi);unfold Z2 at h;split at h
 ·cases h
 ·rename_i hop;exact⟨zJB Z (hU.uses r h),hok.2.2.2 hop r h,zOo hok.1 h⟩
theorem zNh (Z:FnIn T F f) (W:zBr T F f) {b r:Int} (hb:0<=b/\b<((zQ F f).length:Int)) (h:r∈yQ ((zQ F f).getD b.toNat default).fin):AtB T F f b ((zQ F f).getD b.toNat default).ins.length r:=by
 have hok:=(W.2.2 b hb.1 hb.2).2;unfold Z8 zDJ at hok;have hU:=Z.U _ (zH (l:=zQ F f) (i:=b.toNat) (by omega));exact⟨zJB Z (hU.ends r h),hok.1.2 r h,zOo hok.1.1 h⟩
theorem zKl:∀ {fs gs:List Int} {b r:Int},r∈Yw fs gs b->∃ j,j<fs.length/\j<gs.length/\fs.getD j 0=b/\gs.getD j 0=r
 |[],_,_,_,h=>by cases h
 |_::_,[],_,_,h=>by cases h
 |x::fs,a::gs,b,r,h=>by
  unfold Yw at h;have key:r∈Yw fs gs b->∃ j,j<(x::fs).length/\j<(a::gs).length/\(x::fs).getD j 0=b/\(a::gs).getD j 0=r:=fun h=>by
   obtain⟨j,h1,h2,h3,h4⟩:=zKl h;exact⟨j+1,by simpa using h1,by simpa using h2,by simpa using h3,by simpa using h4⟩
  split at h
  ·rename_i e;rcases Qj.1 h with rfl|h
   ·exact⟨0,by simp,by simp,by simpa using e,by simp⟩
   ·exact key h
  ·exact key h
theorem zTe (Z:FnIn T F f) (W:zBr T F f) {b k r:Int} (hk:0<=k/\k<((zQ F f).length:Int)) (h:r∈zAv ((zQ F f).getD k.toNat default) b):AtB T F f b ((zQ F f).getD b.toNat default).ins.length r:=by
 unfold zAv at h;obtain⟨x,hx,h⟩:=List.mem_flatMap.1 h;split at h;case isFalse=>cases h
 rename_i hop;obtain⟨i,hi,rfl⟩:=List.getElem_of_mem hx;have hxi:((zQ F f).getD k.toNat default).ins.getD i default=((zQ F f).getD k.toNat default).ins[i]:=by rw[QE,QB hi];rfl
 rw[<-hxi]at h hop;have hok:=(W.2.2 k hk.1 hk.2).1 i hi;unfold Zw zEX at hok;have hU:=(Z.U _ (zH (l:=zQ F f) (i:=k.toNat) (by omega))).ins _ (zH hi);generalize ((zQ F f).getD k.toNat default).ins.getD i default=x at *;obtain⟨j,h1,h2,rfl,rfl⟩:=zKl h;have hP:=(hok.2.2.1 hop).2.2 j h1;have hm:x.args.getD j 0∈yg x:=by
  have hg:=(zCU (op:=x.op) (by omega)).2.2.1.2 (by unfold zFp;omega);unfold yg;rw[hg,QI rfl];exact Qf.2 (.inr (Qf.2 (.inr (yS h2))))
 exact⟨zJB Z (hU.uses _ hm),hP,zOo hok.1 hm⟩
theorem zK5 (Z:FnIn T F f) {b r:Int} {k:Nat} (hb:0<=b/\b<((zQ F f).length:Int)) (h:AtB T F f b (k+1:Nat) r) (hne:r≠YU ((ZH T F f).parts.length:Int) (zQ F f) b+k):AtB T F f b k r:=by
 obtain⟨h1,h2,h3⟩:=h;refine⟨h1,?_,h3⟩;unfold zBl at h2 |-;split at h2
 ·rename_i e;rw[QI e];rcases zEI Z h1 with c|⟨_,_,_,_,c⟩
  ·omega
  ·rw[e]at c;have:((psF T F f).getD r.toNat default).2≠k:=fun q=>hne (by omega);omega
 ·rename_i e;rw[QD e];exact h2
theorem zQv (Z:FnIn T F f) (W:zBr T F f) {b k r:Int} (hb:0<=b/\b<((zQ F f).length:Int)) (hk:k∈nxL (zQ F f) b) (h:AtB T F f k 0 r):AtB T F f b ((zQ F f).getD b.toNat default).ins.length r:=by
 have hh:=h;obtain⟨h1,h2,h3⟩:=h;have hkr:=Z.nx b hb k hk;refine⟨h1,?_,h3⟩;have hk0:k≠0:=fun e=>by
  have hok:=(W.2.2 b hb.1 hb.2).2;unfold Z8 zDJ at hok;have h4:=hok.2.2.1;subst e;unfold nxL Zd at hk;split at hk
  ·rename_i e1;rw[QQ]at hk;exact(h4 (.inl e1)).1 hk.symm
  ·rename_i e1;split at hk
   ·rename_i e2;have h5:=h4 (.inr e2);split at hk
    ·rw[QQ]at hk;exact h5.1 hk.symm
    ·rcases Qj.1 hk with hk|hk
     ·exact h5.1 hk.symm
     ·rw[QQ]at hk;exact h5.2.elim e1 fun q=>q hk.symm
   ·cases hk
 unfold zBl at h2 |-;rcases zEI Z h1 with c|⟨_,c0,c1,c2,_⟩
 ·rw[c]at h2 |-;rw[QD (by omega)];exact .inl rfl
 ·rw[QD (fun e=>by rw[QI e]at h2;omega)]at h2;have hne:((psF T F f).getD r.toNat default).1≠k:=fun e=>by
   have h6:=hh.2.1;unfold zBl at h6;rw[QI e]at h6;omega
  have hd:=(zNL hk0 hne).1 (h2.resolve_left (by omega)) b (W.1 b hb.1 hb.2) hk;by_cases e:((psF T F f).getD r.toNat default).1=b
  ·rw[QI e,<-e];exact c2
  ·rw[QD e];exact .inr hd
theorem zTE (Z:FnIn T F f) (W:zBr T F f):Clo ((ZH T F f).parts.length:Int) (zQ F f) (fun b r=>AtB T F f b 0 r) (fun b r=>AtB T F f b ((zQ F f).getD b.toNat default).ins.length r):=by
 have key:∀ (b r:Int),0<=b->b<((zQ F f).length:Int)->∀ n k,n+k=((zQ F f).getD b.toNat default).ins.length->ZC ((ZH T F f).parts.length:Int) (zQ F f) b k (fun r=>AtB T F f b ((zQ F f).getD b.toNat default).ins.length r) r->AtB T F f b k r:=fun b r b0 b1 n=>by
  induction n with
  |zero=>
   intro k hk hl;rw[zDF (by omega)]at hl;rw[show k=((zQ F f).getD b.toNat default).ins.length by omega];exact hl.elim (zNh Z W ⟨b0,b1⟩) id
  |succ n ih=>
   intro k hk hl;rw[zBt (by omega)]at hl;rcases hl with hl|⟨h1,hl⟩
   ·exact zNS Z W ⟨b0,b1⟩ (by omega) hl
   ·exact zK5 Z ⟨b0,b1⟩ (ih (k+1) (by omega) hl) h1
 refine⟨fun b r b0 b1 h=> ?_,fun b r b0 b1 h=> ?_⟩
 ·obtain⟨k,hk,h⟩:=h;rcases h with h|h
  ·exact zQv Z W ⟨b0,b1⟩ hk h
  ·exact zTe Z W (Z.nx b ⟨b0,b1⟩ k hk) h
 ·exact key b r b0 b1 ((zQ F f).getD b.toNat default).ins.length 0 (by omega) h
theorem zRT (Z:FnIn T F f) (W:zBr T F f) {b r:Int} {k:Nat} (b0:0<=b) (b1:b<((zQ F f).length:Int)) (hk:k<=((zQ F f).getD b.toNat default).ins.length) (h:ZC ((ZH T F f).parts.length:Int) (zQ F f) b k (LE ((ZH T F f).parts.length:Int) (zQ F f) b) r):AtB T F f b k r:=by
 have hc:=zTE Z W;have key:∀ n k,n+k=((zQ F f).getD b.toNat default).ins.length->ZC ((ZH T F f).parts.length:Int) (zQ F f) b k (fun r=>AtB T F f b ((zQ F f).getD b.toNat default).ins.length r) r->AtB T F f b k r:=fun n=>by
  induction n with
  |zero=>
   intro k hk hl;rw[zDF (by omega)]at hl;rw[show k=((zQ F f).getD b.toNat default).ins.length by omega];exact hl.elim (zNh Z W ⟨b0,b1⟩) id
  |succ n ih=>
   intro k hk hl;rw[zBt (by omega)]at hl;rcases hl with hl|⟨h1,hl⟩
   ·exact zNS Z W ⟨b0,b1⟩ (by omega) hl
   ·exact zK5 Z ⟨b0,b1⟩ (ih (k+1) (by omega) hl) h1
 exact key (((zQ F f).getD b.toNat default).ins.length - k) k (by omega) (yZ (fun r q=>q _ _ hc) h)
theorem zMZ (Z:FnIn T F 0) (W:zBr T F 0) {r:Int}:¬AtB T F 0 0 0 r:=by
 rintro⟨h1,h2,_⟩;have hp:=(W.2.1 rfl).1;unfold zBl at h2;rcases zEI Z h1 with c|⟨_,c0,c1,c2,_⟩
 ·have h3:=zNa h1.1 h1.2;rw[hp]at h3;rw[QD (by simp;exact h1.1)]at h3;have h4:=h1.2;unfold yL at h4;rw[hp]at h4;have hw:=zCw (l:=zQ F 0) (a:=r - (([]:List Int).length:Int)) (by simp;exact h1.1) (by simp at h4 |-;exact h4);rw[h3]at c;omega
 ·split at h2
  ·omega
  ·rename_i e;have:=zIP.1 (h2.resolve_left (by omega));exact e this
end
set_option maxRecDepth 100000
theorem Env.envL {h:AHeap} {vt vf:Value} {T:List LType} {F:List LFn} (E:Env h vt vf T F):EnvL h vt vf T F:=⟨E.tt,E.hm,E.sm,E.st,E.sf⟩
theorem zMJ {T:List LType} {F:List LFn} {f b:Int} (hp:Zq T F=0) (h:(yd T F f b).2=0):(0<=f/\f<(F.length:Int))/\(0<=b/\b<((zQ F f).length:Int))/\(yd T F f b).1=zK (zQ F f) b (zQ F f).length:=by
 rw[zGU]at h;obtain⟨h0,h1,hb,hr⟩:=yh h;have:=zAl hr;rw[hb]at h1;refine⟨⟨this.1,this.2.1⟩,⟨h0,h1⟩,?_⟩;unfold yd;rw[QD (fun e=>e h),hb];rfl
theorem zJI {T:List LType} {F:List LFn} {f:Int} (Z:FnIn T F f) (W:zBr T F f) {b:Int} (hb:0<=b/\b<((zQ F f).length:Int)):b=0↔zK (zQ F f) b (zQ F f).length=[]:=by
 have hnx:∀ c,0<=c->c<((zQ F f).length:Int)->(0:Int)∉nxL (zQ F f) c:=fun c c0 c1 hm=>by
  have hok:=(W.2.2 c c0 c1).2;unfold Z8 zDJ at hok;have h4:=hok.2.2.1;unfold nxL Zd at hm;split at hm
  ·rename_i e1;rw[QQ]at hm;exact(h4 (.inl e1)).1 hm.symm
  ·rename_i e1;split at hm
   ·rename_i e2;have h5:=h4 (.inr e2);split at hm
    ·rw[QQ]at hm;exact h5.1 hm.symm
    ·rcases Qj.1 hm with hm|hm
     ·exact h5.1 hm.symm
     ·rw[QQ]at hm;exact h5.2.elim e1 fun q=>q hm.symm
   ·cases hm
 constructor
 ·rintro rfl;rw[List.eq_nil_iff_forall_not_mem];intro a ha;have:=Y6.1 ha;exact hnx a this.1.1 this.1.2 this.2
 ·intro hn;have hw:=W.1 b hb.1 hb.2;cases hw with
  |here=>rfl
  |step w hm=>
   rename_i c;have hc:0<=c/\c<((zQ F f).length:Int):=by
    clear hm hn hb;induction w with
    |here=>have:=Z.n1;omega
    |step _ hm ih=>exact Z.nx _ ih _ hm
   have:=Y6.2 ⟨hc,hm⟩;rw[hn]at this;cases this
def zSD:ACode:=(oV (oV (oR [oM 58 11,oM 59 10,oQ 60 59,oB .lss 61 58 60]) (oT 61 0)) (oV (o5 1 (oV (oR [oM 64 10,oM 65 11,oI 7 66 64 65,oF 0 67 66,oL 68 67,oD .eql 69 68 22,oM 70 69,oG 70 (oM 71 10),oG 70 (oM 72 11),oG 70 (oI 7 73 71 72),oG 70 (oF 5 74 73),oG 70 (oL 75 74),oG 70 (oQ 76 75),oG 70 (oM 77 8),oG 70 (oQ 78 77),oG 70 (oB .neq 79 76 78),oG 70 (oM 80 79),oH 80 (oM 81 11),oH 80 (oC .gtr 82 81 0),oH 80 (oM 83 82),oG 83 (oM 84 10),oG 83 (oM 85 11),oG 83 (oC .sub 86 85 1),oG 83 (oI 7 87 84 86),oG 83 (oF 0 88 87),oG 83 (oL 89 88),oG 83 (oD .neq 90 89 22),oH 80 (oP 91 83 90),oG 70 (oO 92 80 91),oP 93 70 92]) (oJ 93 (oV (oR [oZ 6]) .ret) .skip))) (oR [oM 62 11,oC .add 63 62 1,oM 11 63])))
def zVC:ACode:=(oV (oR [oX 3 0,oZ 6]) (oV (oR [⟨some 14,none,(.call (.func 15) [])⟩,oM 7 14]) (oV (oV (oR [oA 2 15 3,⟨some 16,none,(.call (.func 8) [(.tmp 15),(.const (.int .i64 150))])⟩,oM 17 16,oH 17 (oA 2 18 3),oH 17 (o1 19 12 18),oH 17 (oC .neq 20 19 0),oO 21 17 20,oM 22 21,oH 22 (oM 23 7),oH 22 (oW 24 23),oO 25 22 24]) (oJ 25 (oV (oR [oM 26 7,oM 6 26]) .ret) .skip)) (oV (oR [oA 2 28 3,oM 29 1,oM 30 2,o3 31 19 28 29 30,oM 27 31,oE 32 27 0,oE 33 27 1,oM 8 32,oM 9 33]) (oV (oV (oR [oM 34 9,oC .neq 35 34 0]) (oJ 35 (oV (oR [oM 36 7,oM 37 36,oG 37 (oM 38 8),oG 37 (oQ 39 38),oG 37 (oC .eql 40 39 0),oP 41 37 40,oM 6 41]) .ret) .skip)) (oV (oV (oR [oM 42 2,oC .eql 43 42 0,oM 44 8,oQ 45 44,oC .eql 46 45 0,⟨some 47,none,(.binB true (.tmp 43) (.tmp 46))⟩]) (oJ 47 (oV (oR [oZ 6]) .ret) .skip)) (oV (oR [oF 1 48 3,oL 49 48,oM 50 1,oI 2 51 49 50,oF 1 52 51,oL 53 52,oM 54 2,oI 5 55 53 54,oF 0 56 55,oL 57 56,oM 10 57]) (oV (oV (oR [oN 11 0]) (o5 0 (.loop zSD))) (oV (oR [oA 2 95 3,⟨some 96,none,(.call (.func 20) [(.tmp 95),(.const (.int .i64 0)),(.const (.int .i64 0)),(.const (.int .i64 0))])⟩,oM 94 96,oE 97 94 0,oE 98 94 1,oM 12 97,oM 13 98]) (oV (oR [oM 99 7,oM 100 99,oG 100 (oM 101 13),oG 100 (oC .eql 102 101 0),oP 103 100 102,oM 104 103,oG 104 (oM 105 12),oG 104 (oQ 106 105),oG 104 (oC .eql 107 106 0),oP 108 104 107,oM 6 108]) .ret))))))))))
theorem zFJ (h:AHeap) (vt vf:Value) (T:List LType) (F:List LFn) (f b:Int) (tt:Tbl h) (hm:h.mark<=h.n) (Z:TzT h) (st:SlT h vt T) (sf:SlF h vf F) (hT:(T.length:Int)<=1152921504606846976) (hF:(F.length:Int)<=1152921504606846976):
  WC Tryz.prog tb 5 [.agg #[vt,vf],I f,I b] h fun r h'=>r= .bool true:=by
 refine en 109 [(6,none)] zVC ?_;refine WO.bx ?_;intro p h1 e1 o1;refine go ?_;refine WO.con (zOV h1 (tt.ext e1).1 (Z.ext e1).1) ?_;rintro _ _ ⟨rfl,rfl⟩;refine go ?_;refine WO.con (zMT h1 vt vf T F 150 (by omega) (st.ext e1) (SlF.ext sf e1) (by omega) (by omega)) ?_;rintro rr h2 ⟨hr,e2⟩;have o1:=o1.ext e2;rcases hr with rfl|⟨rfl,sm,si⟩
 ·refine gr ?_;rfl
 have E:Env h2 vt vf T F:=⟨(tt.ext e1).ext e2,yA e2 (yA e1 hm),sm,(st.ext e1).ext e2,SlF.ext (SlF.ext sf e1) e2⟩;have Z:=(Z.ext e1).ext e2;clear st sf tt hm e1 e2;replace o1:OwnC h h2 p [vt,vf]:=o1;refine go ?_;refine WO.con (zMx h2 vt vf T F E) ?_;rintro _ h3 ⟨rfl,e3⟩;have o1:=o1.ext e3;have E:=E.ext e3;have Z:=Z.ext e3;by_cases hs:zC9 T F=0;case neg=>
  have hs':zC9 T F≠0:=hs;refine gr ?_;rfl
 obtain⟨hp,hw⟩:=zJ4 hs;rw[hs];refine go ?_;refine WO.con (zEa h3 vt vf T F f b E.tt E.hm E.sm E.st E.sf) ?_;rintro _ h4 ⟨⟨v,rfl,ov⟩,e4⟩;have o1:=o1.ext e4;have E:=E.ext e4;have Z:=Z.ext e4;by_cases ha:(yd T F f b).2=0;case neg=>
  have ha':(yd T F f b).2≠0:=ha;have hl:(yd T F f b).1=[]:=by
   have h5:=ha;rw[zGU]at h5;unfold yd;rw[QI h5]
  rw[hl]at ov;refine gr ?_;rfl
 obtain⟨hf,hb,hP⟩:=zMJ hp ha;have Z12:=zTj hp hf;have W:=hw f hf.1 hf.2;have hz:=zJI Z12 W hb;have hlen:(zK (zQ F f) b (zQ F f).length).length<=(zQ F f).length:=YD _ _ _;have hn16:=Z12.n16;rw[hP]at ov;rw[ha];have hblk:=(W.2.2 b hb.1 hb.2).1;have hU:=(Z12.U _ (zH (l:=zQ F f) (i:=b.toNat) (by omega))).ins;have hil:=E.sm.ins _ (zH (l:=F) (i:=f.toNat) (by omega)) _ (zH (l:=zQ F f) (i:=b.toNat) (by omega));generalize zK (zQ F f) b (zQ F f).length=P at *;have hzz:(decide (b=0) != decide ((P.length:Int)=0))=false:=by
  have:(b=0)↔((P.length:Int)=0):=hz.trans ⟨fun e=>by rw[e];rfl,fun e=>Ga (by omega)⟩;rw[show decide (b=0)=decide ((P.length:Int)=0) from by rw[decide_eq_decide];exact this];simp
 have sv:=ov.sl;obtain⟨w1,w2,w3,rfl⟩:=SlC.shape sv;have sf4:=E.sf;obtain⟨cs,⟨vb,rfl,sb,hlb⟩,pc,hs⟩:=yN (i:=f.toNat) sf4 (by omega);have sb:SlB h4 vb (zQ F f):=sb;obtain⟨csb,⟨vi,rfl,si4,hli⟩,pcb,hsb⟩:=yN (i:=b.toNat) sb (by omega);generalize hBd:(zQ F f).getD b.toNat default=B at *;have hphi:∀ i,i<B.ins.length->(B.ins.getD i default).op=22->(B.ins.getD i default).args.length=P.length/\∀ j,j<i->(B.ins.getD j default).op=22:=fun i hi e=>by
  have:=hblk i hi;unfold Zw zEX at this;rw[hBd]at this;have h5:=this.2.2.1 e;have h6:=(hU _ (zH hi)).phi e;exact⟨by rw[<-h6.1,h5.2.1],h5.1⟩
 replace hphi:=Hid.mk hphi;clear hblk hU ov hP;obtain⟨v1,v2,v3,rfl⟩:=zM si4;refine go ?_;rw[hzz];refine go ?_;refine WX.loopA [58,59,60,61,64,65,66,67,68,69,70,71,72,73,74,75,76,77,78,79,80,81,82,83,84,85,86,87,88,89,90,91,92,93,6,62,63,11] (by kernel_rfl) (fun i=>B.ins.length - i) (fun i t h'=>h4=h'/\zB t 11=I i/\i<=B.ins.length) 0 ?_ ?_
 ·exact⟨rfl,sl_,QV _⟩
 rintro i t h5 hsame ⟨rfl,s11,hi⟩;refine go ?_;refine WX.br (fun hb=> ?_) (fun hb=> ?_)<;>simp only[DB]at hb
 ·have hi':i<B.ins.length:=by omega
  obtain⟨csx,⟨xa,xf,rfl,sxa,sxf,hla,hlf,ho⟩,pcx,hsx⟩:=yN (i:=i) si4 hi';obtain⟨a1,a2,a3,rfl⟩:=SlC.shape sxa;obtain⟨f1,f2,f3,rfl⟩:=SlC.shape sxf;by_cases hop:(B.ins.getD i default).op=22
  ·obtain⟨hal,hpre⟩:=hphi.out i hi' hop;have halI:((B.ins.getD i default).args.length:Int)=(P.length:Int):=by omega
   generalize B.ins.getD i default=x at *;by_cases i0:i=0
   ·subst i0;refine go ?_;exact zA 1 (by omega) ⟨rfl,sln,by omega⟩
   ·obtain⟨csy,⟨ya,yf,rfl,sya,syf,hya,hyf,hyo⟩,pcy,hsy⟩:=yN (i:=i - 1) si4 (by omega);obtain⟨y1,y2,y3,rfl⟩:=SlC.shape sya;obtain⟨y4,y5,y6,rfl⟩:=SlC.shape syf;have hyop:=hpre (i - 1) (by omega);generalize B.ins.getD (i - 1) default=y at *;have hi1:((i:Int) - 1).toNat=i - 1:=by omega
    rw[<-hi1]at pcy;refine go ?_;exact zA (i+1) (by omega) ⟨rfl,sln,by omega⟩
  ·generalize B.ins.getD i default=x at *;refine go ?_;exact zA (i+1) (by omega) ⟨rfl,sln,by omega⟩
 ·refine go ?_;rw[show Value.int .i64 0=I 0 from rfl];refine WO.con (zTm h4 vt vf T F 0 0 0 E.envL Z) ?_;rintro _ h6 ⟨⟨v6,l6,rfl,ov6,hn6,hA6⟩,e6⟩;have Z0:=zTj hp (f:=0) ⟨Qi 0,by omega⟩;have W0:=hw 0 (Qi 0) (by omega);have hb00:=Z0.bl 0 (Qi 0) (by have:=Z0.n1;omega);have hla:zBh T F 0 0 0=0:=by
   unfold zBh;rw[zPd,hb00,QD (fun e=>e rfl),QD (by omega)]
  have A:=hA6 hla;have hl6:l6=[]:=by
   rw[List.eq_nil_iff_forall_not_mem];intro r hr;exact zMZ Z0 W0 (zRT Z0 W0 (b:=0) (k:=0) (Qi 0) (by have:=Z0.n1;omega) (QV _) ((A.mem r).1 hr))
  subst hl6;have sv6:=ov6.sl;rw[hla];refine gr ?_;rfl
set_option maxRecDepth 1000000 in
theorem zLV:(zLf Tryz.prog (zHN Tryz.prog) 400).call 15 [] (Z9 Tryz.prog.globals.size zCC) (fun v _=>some v)=some (.bool true):=by kernel_rfl
theorem zPX:((aex Tryz.prog (zHN Tryz.prog) 400).call 15 [] (Z9 Tryz.prog.globals.size zCC)).map (·.1)=some (.bool true):=zPe zLV
set_option maxRecDepth 1000000 in
theorem zGl:(zCC:List (Nat×List Value)).all (fun x=>Nat.ble (x.1+1) Tryz.prog.globals.size&&yy x.2)=true:=by kernel_rfl
set_option maxRecDepth 1000000 in
theorem tb_ok:tb.Ok Tryz.prog where
 code:=fun _ _ h=>h
 stub:=fun f s hs=>by
  have hs:(if f=15 then some (zAT zCC (.bool true)) else none)=some s:=hs;split at hs
  ·rename_i e;subst e;cases hs;exact zH2 Tryz.checked.mixed (zJe _) rfl (fun x hx=>by
    have h1:=QY.1 zGl x hx;rw[QJ]at h1;exact⟨QM h1.1,h1.2⟩) zPX
  ·cases hs
 grow:=fun f s hs args h v h' hk=>by
  have hs:(if f=15 then some (zAT zCC (.bool true)) else none)=some s:=hs;split at hs
  ·cases hs;exact zJU args h v h' hk
  ·cases hs
end
end Go.Proofs.YteekipjpghikkaaGreatDoor
