/- Walks of functions, plain laws; proves no statement. -/
import Derived.Test.YtmejfcakhpihlaaGreatDoorJp
set_option linter.all false
set_option maxHeartbeats 4000000
namespace Go.Proofs.YtmejfcakhpihlaaGreatDoor
open Go.Am
theorem zGS{α:Type}[Inhabited α]{p:Nat->α->Prop}:∀ n:Nat,(∀ i,i<n->∃ a,p i a)->∃ l:List α,l.length=n/\∀ i,i<n->p i (l.getD i default)
 |0,_=>⟨[],rfl,fun i h=>absurd h (Qk _)⟩
 |n+1,h=>by
  obtain⟨l,h1,h2⟩:=zGS (p:=p) n fun i hi=>h i (by omega);obtain⟨a,ha⟩:=h n (by omega);refine⟨l++[a],by simp[h1],fun i hi=> ?_⟩;by_cases q:i<n
  ·have:=h2 i q;rwa [show(l++[a]).getD i default=l.getD i default by simp only[QG];rw[Qy (by omega)]]
  ·have e:i=n:=by omega
   subst e;rw[show(l++[a]).getD i default=a by simp only[QG];rw[GD (by omega),h1];simp];exact ha
theorem zPF{l:List Int}{k:Nat}{z:Int}(h:k<l.length):zh (l.map I) k [I z]=(l.set k z).map I:=by
 unfold zh;rw[List.map_set,List.set_eq_take_append_cons_drop,QF (by simpa using h)];simp
theorem zLV{b:Nat}{h:WA}{v:Value}{out:List Wh}{i:Nat}(o:OwnR 5 BU b h v out)(hi:i<out.length):
  ∃ va,OwA h va (out.getD i default).args/\(∀ h',Ext h h'->Wp h' v (i*5) [.int .u8 (out.getD i default).kind,I (out.getD i default).to,I (out.getD i default).frm,I (out.getD i default).n,va]/\Wp (inC h') v (i*5) [.int .u8 (out.getD i default).kind,I (out.getD i default).to,I (out.getD i default).frm,I (out.getD i default).n,va])/\zIq v/\
  ∀ (k:Nat) (z:Int),k<(out.getD i default).args.length->∃ g,va=.slice (some ⟨g,0,none⟩) (out.getD i default).args.length 1/\b<=g/\g<h.n/\h.get g=some (.row ((out.getD i default).args.map I) true 0)/\∃ iq,OwnR 5 BU b (h.set g (.row (((out.getD i default).args.set k z).map I) true 0)) v iq/\iq.map (fun x=>x.args.length)=out.map (fun x=>x.args.length):=by
 rcases o with⟨_,e⟩|⟨gL,cells,D,l1,l2,rfl,l4,l5,l6,l7,l8⟩
 ·rw[e]at hi;simp at hi
 have ah:∀ (j:Nat) (hj:j<out.length) {q:Nat},(cells.drop (j*5)).take 5=[.int .u8 (out.getD j default).kind,I (out.getD j default).to,I (out.getD j default).frm,I (out.getD j default).n,.slice (some ⟨q,0,none⟩) (out.getD j default).args.length 1]->D q:=fun j hj q hc=>Gi fun hn=>by
  have d:=l8 j out[j] (QB hj) (h.set q (.row ((out.getD j default).args.map I++[I 0]) true 0)) (fun k' o hd e=>by rw[zg,QC (fun e=>hn (by rw[<-e];exact hd))];exact e) (QE _);have hg:out.getD j default=out[j]:=by simp[List.getD,QB hj]
  rw[<-hg]at d;obtain⟨tJ,e1,e2,_⟩:=d;rw[hc]at e1;simp only[List.cons.injEq,and_true]at e1;obtain⟨_,_,_,_,rfl⟩:=e1;rcases e2 with⟨e,_⟩|⟨g',_,e,e3⟩
  ·cases e
  ·cases e;rw[zg,QF rfl]at e3;simp only[QA,Ws.row.injEq,and_true]at e3;have h0:=congrArg List.length e3;rw[QM,QV]at h0;omega
 have I3:out.getD i default=out[i]:=by simp[List.getD,QB hi]
 have di:=l8 i out[i] (QB hi);rw[<-I3]at di;obtain⟨va,dY,oa,_⟩:=di.self;have a:Wi 5 h (.slice (some ⟨gL,0,none⟩) out.length 5) out.length cells:=⟨l5,.inr ⟨gL,0,cells,rfl,Za l4,by rw[ZD (by omega)];simp[<-l5],l2⟩⟩;refine⟨va,oa,fun h' e=> ?_,⟨_,_,_,rfl⟩,fun k z hk=> ?_⟩
 ·have a':=a.ext e;rw[<-dY];exact⟨zBr a' hi,zBr (h:=inC h') a' hi⟩
 rcases oa with⟨_,e⟩|⟨g,g1,rfl,g2⟩
 ·rw[e]at hk;simp at hk
 have Mw:=ah i hi dY;have T7:g≠gL:=fun e=>l6 (by rw[<-e];exact Mw);have hn:∀ q,q≠g->(h.set g (.row (((out.getD i default).args.set k z).map I) true 0)).get q=h.get q:=fun q hq=>by rw[zg,QC hq]
 refine⟨g,rfl,(l7 g Mw).1,g1,g2,?_⟩;obtain⟨iq,o1,o2⟩:=zGS (α:=Wh) (p:=fun j x=>Ba BU (h.set g (.row (((out.getD i default).args.set k z).map I) true 0)) ((cells.drop (j*5)).take 5) x D/\x.args.length=(out.getD j default).args.length) out.length (fun j hj=>by
  have hg:out.getD j default=out[j]:=by simp[List.getD,QB hj]
  have d:=l8 j out[j] (QB hj);obtain⟨w,e1,e2,e3⟩:=d.self;rw[<-hg]at e1 e2 e3 d;rcases e2 with⟨rfl,ea⟩|⟨q,q1,rfl,q2⟩
  ·exact⟨_,fun hx h1 h2=>⟨_,e1,.inl ⟨rfl,ea⟩,e3⟩,rfl⟩
  ·have Mx:=ah j hj e1;by_cases hqg:q=g
   ·subst hqg;have CA:(out.getD j default).args.map I=(out.getD i default).args.map I:=by
     rw[g2]at q2;simp only[QA,Ws.row.injEq,and_true]at q2;exact q2.symm
    have hle:(out.getD j default).args.length=(out.getD i default).args.length:=by have:=congrArg List.length CA;simpa using this
    refine⟨{out.getD j default with args:=(out.getD i default).args.set k z},fun hx h1 h2=>⟨_,e1,.inr ⟨q,QI q1 h2,?_,h1 q _ Mx (by rw[zg,QF rfl])⟩,?_⟩,?_⟩
    ·show Value.slice _ _ _=.slice _ ((out.getD i default).args.set k z).length 1;rw[Gh,hle]
    ·show((out.getD i default).args.set k z).length<=1000;rw[Gh];omega
    ·show((out.getD i default).args.set k z).length=_;rw[Gh,hle]
   ·exact⟨_,fun hx h1 h2=>⟨_,e1,.inr ⟨q,QI q1 h2,rfl,h1 q _ Mx ((hn q hqg).trans q2)⟩,e3⟩,rfl⟩)
 refine⟨iq,.inr ⟨gL,cells,D,l1,l2,by rw[o1],(hn gL (Ne.symm T7)).trans l4,by rw[o1];exact l5,l6,l7,fun j a ha=> ?_⟩,?_⟩
 ·have hj:=(QR.1 ha).1;have:=(o2 j (by omega)).1;rw[show iq.getD j default=a by rw[QG,ha];rfl]at this;exact this
 ·refine G6 (by simp[o1]) fun j h1 h2=> ?_;have hj:j<out.length:=by simpa using h2
  have:=(o2 j hj).2;simp only[List.getElem_map];rwa [show iq.getD j default=iq[j]'(by omega) by simp[List.getD,QB (show j<iq.length by omega)],show out.getD j default=out[j] by simp[List.getD,QB hj]]at this
end Go.Proofs.YtmejfcakhpihlaaGreatDoor
set_option maxRecDepth 100000
namespace Go.Proofs.YtmejfcakhpihlaaGreatDoor
open Go.Am
theorem zN2{A B:List Wh}(h:A.map (fun x=>x.args.length)=B.map (fun x=>x.args.length))(i:Nat):(A.getD i default).args.length=(B.getD i default).args.length:=by
 have e:=congrArg (fun l=>l[i]?) h;simp only[GQ]at e;rw[QG,QG];cases ha:A[i]? with
 |none=>
  cases hb:B[i]? with
  |none=>rfl
  |some b=>rw[ha,hb]at e;cases e
 |some a=>
  cases hb:B[i]? with
  |none=>rw[ha,hb]at e;cases e
  |some b=>rw[ha,hb]at e;simpa using e
theorem zHD(h:WA)(vt vf:Value)(T:List WE)(F:List Wa)(tt:Br h)(hm:h.mark<=h.n)(st:Wu h vt T)(sf:Wo h vf F)(hT:(T.length:Int)<=1152921504606846976)(hF:(F.length:Int)<=1152921504606846976):
  WC Tryz.prog tb 3 [.agg #[vt,vf]] h fun r h'=>r=.bool true:=by
 refine en ?_;refine VF ?_;intro p h1 e1 o1;replace o1:WB h h1 p [vt,vf]:=o1;refine go ?_;refine VA (zLf h1 vt vf T F 100 (by omega) (st.ext e1) (Wo.ext sf e1) (by omega) (by omega)) ?_;rintro r h2 ⟨hr,e2⟩;have o1:=o1.ext e2;rcases hr with rfl|⟨rfl,sm,si⟩
 ·refine gr ?_;rfl
 have E:En h2 vt vf T F:=⟨(tt.ext e1).ext e2,zp e2 (zp e1 hm),sm,si,(st.ext e1).ext e2,Wo.ext (Wo.ext sf e1) e2⟩;clear st sf tt hm e1 e2;refine go ?_;refine VA (zOE h2 vt vf T F sm si E.hm E.st E.sf) ?_;rintro _ h3 ⟨⟨wt,wf,rfl,JL,JM⟩,e3⟩;have o1:=o1.ext e3;have E:=E.ext e3;obtain⟨wa,wn,wk,rfl⟩:=zD JL;obtain⟨xa,xn,xk,rfl⟩:=zD JM;refine go ?_;refine WO.al ?_;intro q h4 e4 o4;refine go ?_;refine VH (cs:=[.slice wa wn wk,.slice xa xn xk]) o4 e4 ?_;intro h5 e5 o5 _;have o1:=o1.ext e5;have E:=E.ext e5;have W:En h5 _ _ T F:=⟨E.tt,E.hm,sm,si,JL.ext e5,Wo.ext JM e5⟩;clear e3 e4 e5 o4 JL JM;have K:∀ h',Ext h5 h'->WB h h' p [vt,vf]/\WB h3 h' q [.slice wa wn wk,.slice xa xn xk]/\En h' vt vf T F/\En h' (.slice wa wn wk) (.slice xa xn xk) T F:=fun h' e=>⟨o1.ext e,o5.ext e,E.ext e,W.ext e⟩;replace K:=WK.mk K;refine go ?_;refine VA (zQ0 W.env) ?_;rintro _ h6 ⟨⟨vL,rfl,oL,hLl⟩,e6⟩;obtain⟨o1,o5,E,W⟩:=K.out _ e6;refine go ?_;refine VA (zN6 E) ?_;rintro _ h7 ⟨⟨vK,rfl,oK⟩,e7⟩;have rk:=e6.trans e7;have My:=OwnR.ext oL e7;generalize zBJ T F=A at *;generalize z8 T F=sl at *;obtain⟨o1,o5,E,W⟩:=K.out _ rk;obtain⟨v1,v2,v3,rfl⟩:=Zk oL.sl;obtain⟨k1,k2,k3,rfl⟩:=Zk oK.sl;refine go ?_;refine VA (zIr _ _ A My.sl oK.sl (by omega)) ?_;rintro _ _ ⟨rfl,rfl⟩;refine go ?_;refine VD (fun i=>A.length-i) (fun i t h'=>zC t 9=I i/\i<=A.length/\Ext h5 h'/\∃ out,OwnR 5 BU h5.n h' (.slice v1 v2 v3) out/\out.map (fun x=>x.args.length)=A.map (fun x=>x.args.length)) 0 ?_ ?_
 ·exact⟨WH,QK _,rk,A,My,rfl⟩
 rintro i t h8 ab ⟨s9,hi,Ar,out,oO,ml⟩;have hlen:out.length=A.length:=by have:=congrArg List.length ml;simpa using this
 have hle:=zN2 ml i;have sO:=oO.sl;refine go ?_;refine VE (fun hb=> ?_) (fun hb=> ?_)<;>simp only[DB]at hb;case refine_2=>
  obtain⟨o1,o5,E,W⟩:=K.out _ Ar;refine go ?_;refine VA (zMu h8 _ _ vt vf T F sm si E.hm W.st W.sf E.st E.sf) ?_;rintro _ h9 ⟨rfl,e9⟩;refine gr ?_;rfl
 have ae:i<A.length:=by omega
 refine go ?_;refine VD (fun k=>(A.getD i default).args.length-k) (fun k t h'=>zC t 10=I k/\k<=(A.getD i default).args.length/\Ext h5 h'/\∃ out,OwnR 5 BU h5.n h' (.slice v1 v2 v3) out/\out.map (fun x=>x.args.length)=A.map (fun x=>x.args.length)) 0 ?_ ?_
 ·exact⟨WH,QK _,Ar,out,oO,ml⟩
 clear hlen hle sO ml oO;rintro k t2 gV aZ ⟨iY,hk,Cu,qC,oO,ml⟩;have hlen:qC.length=A.length:=by have:=congrArg List.length ml;simpa using this
 have hle:=zN2 ml i;have sO:=oO.sl;obtain⟨va,oa,T8,T9,aX⟩:=zLV oO (i:=i) (by omega);have sva:=oa.sl;obtain⟨a1,a2,a3,rfl⟩:=Wi.shape sva;have pc:=(T8 _ (Ext.refl _)).1;have Mz:(qC.getD i default).args.length<=1000:=by
  obtain⟨_,⟨_,_,_,hq⟩,_⟩:=zP sO (i:=i) (by omega);exact hq
 refine go ?_;refine VE (fun hc=> ?_) (fun hc=> ?_)<;>simp only[DB]at hc;case refine_2=>
  refine go ?_;exact zA (i+1) (by omega) ⟨Wn,by omega,Cu,qC,oO,ml⟩
 obtain⟨g,hva,hg1,nO,hg3,JN,IU,JO⟩:=aX k (-7) (by omega);have pW:k<(qC.getD i default).args.length:=by omega
 refine go ?_;refine XG (cs:=[I (-7)]) (off:=k) (u:=I (-7)) hg3 (by rw[Qi];show k+1<=_;omega) (by rw[show(Value.pointer (some ⟨g,k,none⟩))=yB (.slice a1 a2 a3) k by rw[hva];show _=Value.pointer (some ⟨g,0+k,none⟩);rw[GH]];exact zi) zi rfl rfl rfl ?_;rw[zPF pW];refine go ?_;exact zA (k+1) (by omega) ⟨Wn,by omega,Cu.set hg1 nO _,JN,IU,JO.trans ml⟩
set_option maxRecDepth 1000000 in
theorem tb_ok:tb.Ok Tryz.prog where
 code:=fun _ _ h=>h
 stub:=fun f s hs=>by cases hs
 grow:=fun f s hs args h v h' hk=>by cases hs
end Go.Proofs.YtmejfcakhpihlaaGreatDoor
