/- A part of the machine and of its soundness; proves no statement. -/
import Derived.Test.YtmejfcakhpihlaaGreatDoorAmA
import Derived.Defers
import Derived.RangeFuncNested
set_option linter.all false
namespace Go.Am
open Go.RowKit
section
variable {P:Program}{B:Nat}{σ:Nat->Option Pl}{h:WA}{w:World}
theorem WT.val{s:Sem Value}{v:Value}{h':WA}(hs:∃ σ' w' cv,s.run P w=.ok cv w'/\WI σ' v cv/\W0 P B σ h w σ' h' w'):
  WT P B σ h w (do pure (.value (<-s))) v h':=by
 obtain⟨σ',w',cv,h1,h2,h3⟩:=hs;exact⟨σ',w',.inl ⟨cv,by simp[h1],h2⟩,h3⟩
theorem Va{s:Sem Unit}{h':WA}(hs:∃ σ' w',s.run P w=.ok () w'/\W0 P B σ h w σ' h' w'):
  WT P B σ h w (do s;pure .skip) Go.undef h':=by
 obtain⟨σ',w',h1,h3⟩:=hs;exact⟨σ',w',.inr ⟨by simp[h1],rfl⟩,h3⟩
theorem zBC(hr:Wg P B σ h w){t:WG Value}{a:Act}(ht:∀ k,WI σ (zC t k) (a.tmps.getD k Go.undef)){l:List Operand}(ho:∀ x∈l,Zq P x=true):WW σ (l.map (ev t)) (l.map a.eval):=
 ⟨by simp,fun i x y hx hy=>by
  simp only[GQ]at hx hy;cases hl:l[i]? with
  |none=>simp[hl]at hx
  |some z=>
   simp only[hl,QJ,QA]at hx hy;subst hx hy;exact zAb hr ht (ho z (Gl hl))⟩
theorem zKg(hr:Wg P B σ h w){xs ys:List Value}(hl:WW σ xs ys)(e:TypeId):
  ∃ σ' w' cv,((do pure (.pointer (some (<-newRow e ys.toArray))):Sem Value)).run P w=.ok cv w'/\WI σ' (.pointer (some ⟨h.n,0,none⟩)) cv/\W0 P B σ h w σ' (h.push (.row xs true 0)) w':=by
 have hp:=zDB hr hl [] e 0;rw[GY]at hp;refine⟨_,_,.pointer (some ⟨w.heap.size,0,none⟩),by simp[newRow],?_,hp⟩;exact WI.ptr (off:=0) (yR σ h.n ⟨w.heap.size,0,ys.length+0⟩)
theorem zBk(hr:Wg P B σ h w){t:WG Value}{a:Act}(ht:∀ k,WI σ (zC t k) (a.tmps.getD k Go.undef)){place:Nat->Option (Nat×Nat)}:
  ∀ {l:List (Nat×Operand)} {ps:List (Nat×Nat×Operand)},(∀ x∈l,Zq P x.2=true)->YR place l=some ps->
   (l.map fun x=>(x.1,a.eval x.2)).length=(zu t ps).length/\
   ∀ (j i:Nat) (v:Value) (o n:Nat) (u:Value),(l.map fun x=>(x.1,a.eval x.2))[j]?=some (i,v)->(zu t ps)[j]?=some (o,n,u)->place i=some (o,n)/\WI σ u v:=by
 intro l;induction l with
 |nil=>intro ps _ hp;simp[YR]at hp;subst hp;exact⟨rfl,fun j i v o n u h=>by simp at h⟩
 |cons x l ih=>
  intro ps ho hp;obtain⟨i0,x0⟩:=x;simp only[YR]at hp;split at hp
  ·rename_i o0 n0 r h1 h2;cases hp;obtain⟨a1,a2⟩:=ih (fun y hy=>ho y (Qu _ hy)) h2;refine⟨by simpa [zu]using a1,fun j i v o n u hj hk=> ?_⟩;cases j with
   |zero=>
    simp[zu]at hj hk;obtain⟨rfl,rfl⟩:=hj;obtain⟨rfl,rfl,rfl⟩:=hk;exact⟨h1,zAb hr ht (ho _ (Qj ..))⟩
   |succ j=>exact a2 j i v o n u (by simpa using hj) (by simpa [zu]using hk)
  ·cases hp
theorem zH1{α β:Type}{f:α->Sem β}{g:α->β}:∀ (l:List α),(∀ x∈l,(f x).run P w=.ok (g x) w)->(l.mapM f).run P w=.ok (l.map g) w
 |[],_=>by simp
 |x::l,hf=>by
  have h1:=hf x (Qj ..);have h2:=zH1 l (fun y hy=>hf y (Qu _ hy));simp[List.mapM_cons,h1,h2]
theorem zIl{fs:Array Field}(hf:fs.toList.all (fun f=>(ZW P f.type).isSome)=true):
  (fs.mapM fun f=>(do pure (f.offset,<-sizeOf f.type):Sem (Nat×Nat))).run P w=.ok (fs.map fun f=>(f.offset,(ZW P f.type).getD 0)) w:=by
 rw[Array.mapM_eq_mapM_toList,Sem.run_map,zH1 (g:=fun f=>(f.offset,(ZW P f.type).getD 0)) fs.toList (fun f hm=>by
  have:=QX.1 hf f hm;obtain⟨n,hn⟩:=Option.isSome_iff_exists.1 this;obtain⟨i,hi,hs⟩:=YZ hn;simp[yC hi,hn,hs])]
 simp only[Result.andThen_ok];congr 1;apply JF;simp
theorem zAB(hr:Wg P B σ h w){t:WG Value}{a:Act}(ht:∀ k,WI σ (zC t k) (a.tmps.getD k Go.undef)){x:Option Operand}(ho:∀ y,x=some y->Zq P y=true){n:Option Nat}(hx:Bx t x=some n):BV n (x.map a.eval):=by
 cases x with
 |none=>simp[Bx]at hx;subst hx;rfl
 |some x=>
  simp only[Bx]at hx;cases hn:BO (ev t x)with
  |none=>simp[hn]at hx
  |some m=>
   simp only[hn,QJ,QA]at hx;subst hx;obtain⟨k,hk⟩:=Yz (zAb hr ht (ho x rfl)) hn;exact⟨k,by simp[hk]⟩
theorem zDp{t:WG Value}{x:Option Operand}{n:Option Nat}(hx:Bx t x=some n):n.isSome=x.isSome:=by
 cases x with
 |none=>simp[Bx]at hx;subst hx;rfl
 |some x=>
  simp only[Bx]at hx;cases hn:BO (ev t x)with
  |none=>simp[hn]at hx
  |some m=>simp[hn]at hx;subst hx;rfl
theorem zFW{isMax:Bool}{r:List Value}:∀ {x x' v:Value} {r':List Value},WI σ x x'->WW σ r r'->zJj isMax x r=some v->
  ∃ cv,(r'.foldlM (if isMax then Builtin.max2 else Builtin.min2) x').run P w=.ok cv w/\WI σ v cv:=by
 induction r with
 |nil=>
  intro x x' v r' hx hl hv;have:r'=[]:=by have:=hl.1;simpa using this.symm
  subst this;simp only[zJj,QA]at hv;subst hv;exact⟨x',by simp,hx⟩
 |cons y r ih=>
  intro x x' v r' hx hl hv;match r',hl with
  |[],hl=>have:=hl.1;simp at this
  |y'::r',hl=>
   have hy:=hl.2 0 y y' rfl rfl;have w7:WW σ r r':=⟨by simpa using hl.1,fun i a b h1 h2=>hl.2 (i+1) a b (by simpa using h1) (by simpa using h2)⟩;unfold zJj at hv;split at hv
   ·rename_i heq;cases heq
   ·rename_i k n k' m r0 heq;cases heq;split at hv
    ·rename_i hk;cases hx;cases hy;obtain⟨cv,c1,c2⟩:=ih (WI.int k _) w7 hv;refine⟨cv,?_,c2⟩;rw[<-c1];cases isMax<;>simp[List.foldlM_cons,Builtin.max2,Builtin.min2]
    ·cases hv
   ·cases hv
theorem zHx(hr:Wg P B σ h w){ih:Ex}{t:WG Value}{a:Act}(ht:∀ k,WI σ (zC t k) (a.tmps.getD k Go.undef)){b:Builtin}{args:List Operand}{ts:List TypeId}{ty:TypeId}{consts:Array Bool}{op:Wx}
  (b7:∀ x∈args,Zq P x=true) (hc:zAH P b args ts=some op) {v:Value} {h':WA} (ho:WN P ih t h op=some (v,h')):
  WT P B σ h w (builtin b ts.toArray ty consts (args.map a.eval).toArray) v h':=by
 have E:∀ x∈args,WI σ (ev t x) (a.eval x):=fun x hx=>zAb hr ht (b7 x hx);unfold zAH at hc;split at hc
 ·
  rename_i x tt;have e1:=E x (by simp);split at hc
  ·rename_i n e hu;simp only[QA]at hc;subst hc;simp only[WN,QA,QD]at ho;obtain⟨rfl,rfl⟩:=ho;refine WT.same hr (cv:= .int .i64 n) ?_ (.int _ _);simp[Builtin.len_,run_underlying hu,goInt]
  ·rename_i e hu;split at hc
   ·rename_i n e' rY;simp only[QA]at hc;subst hc;simp only[WN,QA,QD]at ho;obtain⟨rfl,rfl⟩:=ho;refine WT.same hr (cv:= .int .i64 n) ?_ (.int _ _);simp[Builtin.len_,run_underlying hu,run_underlying rY,goInt]
   ·cases hc
  ·rename_i hu;simp only[QA]at hc;subst hc;simp only[WN]at ho;split at ho
   ·rename_i s hs;simp only[QA,QD]at ho;obtain⟨rfl,rfl⟩:=ho;rw[hs]at e1;have q1:a.eval x=.string s:=by generalize a.eval x=q at e1;cases e1;rfl
    refine WT.same hr (cv:= .int .i64 s.size) ?_ (.int _ _);simp[Builtin.len_,run_underlying hu,goInt,q1]
   ·cases ho
  ·rename_i e hu;simp only[QA]at hc;subst hc;simp only[WN]at ho;cases hl:zMP (ev t x)with
   |none=>simp[hl]at ho
   |some n=>
    simp only[hl,QJ,QA,QD]at ho;obtain⟨rfl,rfl⟩:=ho;unfold zMP at hl;split at hl
    ·rename_i ad len k hs;simp only[QA]at hl;subst hl;rw[hs]at e1;have q1:∃ y cap,a.eval x=.slice y len cap:=by generalize a.eval x=q at e1;cases e1<;>exact⟨_,_,rfl⟩
     obtain⟨y,cap,q1⟩:=q1;refine WT.same hr (cv:= .int .i64 len) ?_ (.int _ _);simp[Builtin.len_,run_underlying hu,goInt,q1]
    ·cases hl
  ·rename_i kt e hu;simp only[QA]at hc;subst hc;simp only[WN]at ho;split at ho
   ·rename_i hs;simp only[QA,QD]at ho;obtain⟨rfl,rfl⟩:=ho;rw[hs]at e1;have q1:a.eval x=.map none:=by generalize a.eval x=q at e1;cases e1;rfl
    refine WT.same hr (cv:= .int .i64 0) ?_ (.int _ _);simp[Builtin.len_,run_underlying hu,goInt,q1]
   ·rename_i g hs;split at ho
    ·rename_i es clock hg;simp only[QA,QD]at ho;obtain⟨rfl,rfl⟩:=ho;rw[hs]at e1;obtain⟨pl,aM,k1,k2,k3,k4⟩:=zBU hr hg e1;refine WT.same hr (cv:= .int .i64 es.length) ?_ (.int _ _);have:aM.size=es.length:=by have:=k4.1;simpa using this.symm
     simp[Builtin.len_,run_underlying hu,goInt,k2,getObj,Sem.run,k3,this]
    ·cases ho
   ·cases ho
  ·cases hc
 ·
  rename_i s x tt u nD;have e1:=E s (by simp);have e2:=E x (by simp);cases b9:yh P tt with
  |none=>simp[b9]at hc
  |some e=>
   have hu:P.underlying tt=some (.slice e):=by
    unfold yh at b9;split at b9
    ·cases b9;assumption
    ·cases b9
   simp only[b9]at hc;cases rY:P.underlying u with
   |none=>
    rw[rY]at hc;cases he:Zm P e<;>simp[he]at hc
   |some d=>
    rw[rY]at hc;cases he:Zm P e with
    |none=>rw[he]at hc;cases d<;>cases hc
    |some c=>
     rw[he]at hc;cases d with
     |slice e'=>
      dsimp only at hc;cases CA:(e' == e)with
      |false=>rw[CA]at hc;cases hc
      |true=>
       rw[CA]at hc;simp only[cond_true,QA]at hc;subst hc;simp only[WN]at ho;exact WT.val (zJD hr hu rY he e1 e2 ho)
     |_=>cases hc
 ·
  rename_i d s tt nD;have e1:=E d (by simp);have e2:=E s (by simp);cases b9:yh P tt with
  |none=>simp[b9]at hc
  |some e=>
   have hu:P.underlying tt=some (.slice e):=by
    unfold yh at b9;split at b9
    ·cases b9;assumption
    ·cases b9
   simp only[b9]at hc;cases he:Zm P e with
   |none=>simp[he]at hc
   |some c=>
    simp only[he,QJ,QA]at hc;subst hc;simp only[WN]at ho;split at ho
    ·rename_i ad len k hd;rw[hd]at e1;split at ho
     ·rename_i ys aT;obtain⟨r1,r2⟩:=zM7 (ty:=ty) (ts:=nD) hr hu he e1 e2 aT rfl;cases hm:Nat.beq (min (ys.length / c) len) 0 with
      |true=>
       simp only[hm,cond_true,QA,QD]at ho;obtain⟨rfl,rfl⟩:=ho;exact WT.same hr (r1 (QO hm)) (.int _ _)
      |false=>
       simp only[hm,QU]at ho;cases hb:(Nat.beq k c&&ad.spot.isNone)with
       |false=>simp[hb]at ho
       |true=>
        simp only[hb,cond_true]at ho;simp only[QN]at hb;cases aX:zr h ad (ys.take (min (ys.length / c) len*c))with
        |none=>simp[aX]at ho
        |some h1=>
         simp only[aX,QJ,QA,QD]at ho;obtain⟨rfl,rfl⟩:=ho;obtain⟨w',q1,q2⟩:=r2 _ (Nat.ne_of_beq_eq_false hm) (QO hb.1) (by simpa using hb.2) aX;exact WT.val ⟨σ,w',_,q1,.int _ _,q2⟩
     ·cases ho
    ·rename_i hd;rw[hd]at e1;have q1:a.eval d=.slice none 0 0:=by generalize a.eval d=q at e1;cases e1;rfl
     split at ho
     ·rename_i ys aT;simp only[QA,QD]at ho;obtain⟨rfl,rfl⟩:=ho;obtain⟨i,z,hi,hsz,aW,_⟩:=y9 he;subst hsz;obtain⟨n,zs,hl,hS⟩:=zC2 hr aW e2 aT;have s1:=hS.1 w;have s2:=hS.2.2 0 (QK _) w.drawn;simp at s2;refine WT.same hr (cv:= .int .i64 0) ?_ (.int _ _);simp[Builtin.copy_,run_underlying hu,q1,s1,yC hi,s2,goInt]
     ·cases ho
    ·cases ho
 ·
  simp only[QA]at hc;subst hc;simp only[WN]at ho;split at ho
  ·rename_i x r;cases hm:zJj true (ev t x) (r.map (ev t))with
   |none=>simp[hm]at ho
   |some u=>
    simp only[hm,QJ,QA,QD]at ho;obtain⟨rfl,rfl⟩:=ho;obtain⟨cv,c1,c2⟩:=zFW (P:=P) (w:=w) (E x (by simp)) (zBC hr ht (fun y hy=>b7 y (by simp[hy]))) hm;refine WT.same hr ?_ c2;simpa [Builtin.max_]using c1
  ·cases ho
 ·simp only[QA]at hc;subst hc;simp only[WN]at ho;split at ho
  ·rename_i x r;cases hm:zJj false (ev t x) (r.map (ev t))with
   |none=>simp[hm]at ho
   |some u=>
    simp only[hm,QJ,QA,QD]at ho;obtain⟨rfl,rfl⟩:=ho;obtain⟨cv,c1,c2⟩:=zFW (P:=P) (w:=w) (E x (by simp)) (zBC hr ht (fun y hy=>b7 y (by simp[hy]))) hm;refine WT.same hr ?_ c2;simpa [Builtin.min_]using c1
  ·cases ho
 ·
  rename_i m k tt nD;have e1:=E m (by simp);have e2:=E k (by simp);split at hc
  ·rename_i kt e hu;split at hc
   ·rename_i d hk;simp only[QA]at hc;subst hc;simp only[WN]at ho;split at ho
    ·rename_i g kk n h1 h2;rw[h1]at e1;rw[h2]at e2;have q2:a.eval k=.int kk n:=by generalize a.eval k=q at e2;cases e2;rfl
     split at ho
     ·rename_i es clock hg;have fin:∀ h1,(∃ w',(Builtin.delete_ (tt::nD).toArray ty #[a.eval m,.int kk n]).run P w=.ok (.tuple #[]) w'/\W0 P B σ h w σ h1 w')->
        WT P B σ h w (builtin .delete (tt::nD).toArray ty consts ([m,k].map a.eval).toArray) (.tuple #[]) h1:=fun h1 ⟨w',r1,r2⟩=>by
       have:([m,k].map a.eval).toArray=#[a.eval m,.int kk n]:=by simp[q2]
       rw[this];exact WT.val ⟨σ,w',.tuple #[],r1,.tuple rfl (fun i x y h=>by simp at h),r2⟩
      split at ho
      ·rename_i i u hf;simp only[QA,QD]at ho;obtain⟨rfl,rfl⟩:=ho;exact fin _ (zFB (ty:=ty) (ts:=nD) hu hk hr hg e1 hf)
      ·rename_i hf;simp only[QA,QD]at ho;obtain⟨rfl,rfl⟩:=ho;exact fin _ (zFB (ty:=ty) (ts:=nD) hu hk hr hg e1 hf)
      ·cases ho
     ·cases ho
    ·cases ho
   ·cases hc
  ·cases hc
 ·
  rename_i m tt nD;have e1:=E m (by simp);split at hc
  ·rename_i kt e hu;simp only[QA]at hc;subst hc;simp only[WN]at ho;split at ho
   ·rename_i g h1;rw[h1]at e1;split at ho
    ·rename_i es clock hg;simp only[QA,QD]at ho;obtain⟨rfl,rfl⟩:=ho;obtain⟨w',r1,r2⟩:=zGA (ty:=ty) (ts:=nD) hr hu hg e1;exact WT.val ⟨σ,w',.tuple #[],r1,.tuple rfl (fun i x y h=>by simp at h),r2⟩
    ·cases ho
   ·cases ho
  ·rename_i e hu;split at hc
   ·rename_i n z he hz;simp only[QA]at hc;subst hc;obtain⟨q1,q2⟩:=zIt (ty:=ty) (ts:=nD) hr hu he hz e1;simp only[WN,zBy]at ho;split at ho
    ·rename_i h1;simp only[QA,QD]at ho;obtain⟨rfl,rfl⟩:=ho;exact WT.val ⟨σ,w,.tuple #[],q1 (.inl h1),.tuple rfl (fun i x y h=>by simp at h),.refl hr⟩
    ·rename_i ad len k h1;cases hn:Nat.beq len 0 with
     |true=>
      have:=QO hn;subst this;simp only[hn,cond_true,QA,QD]at ho;obtain⟨rfl,rfl⟩:=ho;exact WT.val ⟨σ,w,.tuple #[],q1 (.inr ⟨ad,k,h1⟩),.tuple rfl (fun i x y h=>by simp at h),.refl hr⟩
     |false=>
      simp only[hn,QU]at ho;cases hk:Nat.beq k n with
      |false=>simp[hk]at ho
      |true=>
       simp only[hk,cond_true]at ho;cases aX:zr h ad (zo z len)with
       |none=>simp[aX]at ho
       |some h2=>
        simp only[aX,QJ,QA,QD]at ho;obtain⟨rfl,rfl⟩:=ho;obtain⟨w',r1,r2⟩:=q2 ad len k _ h1 (Nat.ne_of_beq_eq_false hn) (QO hk) aX;exact WT.val ⟨σ,w',.tuple #[],r1,.tuple rfl (fun i x y h=>by simp at h),r2⟩
    ·cases ho
   ·cases hc
  ·cases hc
 ·cases hc
theorem zHL(hr:Wg P B σ h w){ih:Ex}{t:WG Value}{a:Act}(ht:∀ k,WI σ (zC t k) (a.tmps.getD k Go.undef)){b:Builtin}{args:List Operand}{ts:List TypeId}{ty:TypeId}{consts:Array Bool}{op:Wx}
  (b7:∀ x∈args,Zq P x=true) (hc:Y6 P b args ts=some op) {v:Value} {h':WA} (ho:WN P ih t h op=some (v,h')):
  WT P B σ h w (builtin b ts.toArray ty consts (args.map a.eval).toArray) v h':=by
 have E:∀ x∈args,WI σ (ev t x) (a.eval x):=fun x hx=>zAb hr ht (b7 x hx);unfold Y6 at hc;split at hc
 ·rename_i x y;have e1:=E x (by simp);have e2:=E y (by simp);simp only[QA]at hc;subst hc;simp only[WN]at ho;obtain⟨vv,hu,ho⟩:=QQ.1 ho;simp only[QD]at ho;obtain⟨rfl,rfl⟩:=ho;unfold zPu at hu;split at hu
  ·rename_i k u k' u' h1 h2;rw[h1]at e1;rw[h2]at e2;split at hu
   ·rename_i hk;subst hk;simp only[QA]at hu;subst hu;have c1:=e1.closed_eq rfl;have c2:=e2.closed_eq rfl;have q:Builtin.complex_ ts.toArray ty #[.float k u,.float k u']=pure (.complex k u u'):=by
     show(if k=k then pure (.complex k u u')else stuck "complex: parts of different kinds":Sem Value)=_;rw[QF rfl]
    have q2:([x,y].map a.eval).toArray=#[.float k u,.float k u']:=by simp[c1,c2]
    rw[q2];exact WT.same (s:=Builtin.complex_ ts.toArray ty #[.float k u,.float k u']) hr (by rw[q];rfl) (.complex k u u')
   ·cases hu
  ·cases hu
 ·rename_i x;have e1:=E x (by simp);simp only[QA]at hc;subst hc;simp only[WN]at ho;obtain⟨vv,hu,ho⟩:=QQ.1 ho;simp only[QD]at ho;obtain⟨rfl,rfl⟩:=ho;unfold zJQ at hu;split at hu
  ·rename_i k u u' h1;rw[h1]at e1;simp only[QA]at hu;subst hu;have c1:=e1.closed_eq rfl;have q2:([x].map a.eval).toArray=#[.complex k u u']:=by simp[c1]
   rw[q2];exact WT.same (s:=Builtin.real_ ts.toArray ty #[.complex k u u']) hr rfl (.float k _)
  ·cases hu
 ·rename_i x;have e1:=E x (by simp);simp only[QA]at hc;subst hc;simp only[WN]at ho;obtain⟨vv,hu,ho⟩:=QQ.1 ho;simp only[QD]at ho;obtain⟨rfl,rfl⟩:=ho;unfold zJQ at hu;split at hu
  ·rename_i k u u' h1;rw[h1]at e1;simp only[QA]at hu;subst hu;have c1:=e1.closed_eq rfl;have q2:([x].map a.eval).toArray=#[.complex k u u']:=by simp[c1]
   rw[q2];exact WT.same (s:=Builtin.imag_ ts.toArray ty #[.complex k u u']) hr rfl (.float k _)
  ·cases hu
 ·simp only[QA]at hc;subst hc;cases ho
 ·exact zHx hr ht b7 hc ho
theorem zCG{P:Program}(f:Operand)(args:List Operand):zKM P f args=.call f args\/∃ g x rt,f=.func g/\args=[x]/\zAU P g "internal/reflectlite.TypeOf"=true/\zJ0 P=some rt/\zKM P f args=.typeOf rt x:=by
 unfold zKM;split
 ·rename_i g x;cases he:zAU P g "internal/reflectlite.TypeOf" with
  |false=>exact .inl rfl
  |true=>
   simp only[cond_true];split
   ·rename_i rt kB;exact .inr ⟨g,x,rt,rfl,rfl,he,kB,rfl⟩
   ·exact .inl rfl
 ·exact .inl rfl
theorem WI.agg_inv{cs:Array Value}{q:Value}(hv:WI σ (.agg cs) q):∃ vC,q=.agg vC/\WW σ cs.toList vC.toList:=by
 cases hv with
 |agg ha ra=>exact⟨_,rfl,by simpa using ha,fun i x y hx hy=>ra i x y (by simpa using hx) (by simpa using hy)⟩
theorem WI.ptr_inv{a:Addr}{q:Value}(hv:WI σ (.pointer (some a)) q):∃ pl,σ a.block=some pl/\q=.pointer (some ⟨pl.b,pl.base+a.off,none⟩):=by
 cases hv with
 |ptr hp=>exact⟨_,hp,rfl⟩
theorem zPf(hr:Wg P B σ h w){ih:Ex}{t:WG Value}{a:Act}(ht:∀ k,WI σ (zC t k) (a.tmps.getD k Go.undef)){o:Oper}{op:Wx}(hc:B9 P o=some op)(J2:(∀ f args,op≠ .call f args)/\∀ x n args,op≠ .invoke x n args){v:Value}{h':WA}
  (ho:WN P ih t h op=some (v,h')):WT P B σ h w (execOp a.eval o) v h':=by
 unfold B9 at hc;cases a8:zCP P o.op.operands.toList with
 |false=>simp[a8]at hc
 |true=>
 simp only[a8,QW,QU]at hc;have b7:∀ x∈o.op.operands.toList,Zq P x=true:=fun x hx=>QX.1 a8 x hx;clear a8;have E:∀ x∈o.op.operands.toList,WI σ (ev t x) (a.eval x):=fun x hx=>zAb hr ht (b7 x hx);unfold execOp;cases hq:o.op with
 |move x=>
  simp only[hq,QA]at hc;subst hc;simp only[WN,QA,QD]at ho;obtain⟨rfl,rfl⟩:=ho;exact⟨σ,w,.inl ⟨_,rfl,E x (by simp[hq,Op.operands])⟩,W0.refl hr⟩
 |assign x=>
  simp only[hq,QA]at hc;subst hc;simp only[WN,QA,QD]at ho;obtain⟨rfl,rfl⟩:=ho;exact⟨σ,w,.inl ⟨_,rfl,E x (by simp[hq,Op.operands])⟩,W0.refl hr⟩
 |pick c x y=>
  simp only[hq,QA]at hc;subst hc;have e1:=E c (by simp[hq,Op.operands]);have e2:=E x (by simp[hq,Op.operands]);have e3:=E y (by simp[hq,Op.operands]);simp only[WN]at ho;split at ho
  ·rename_i b hb;simp only[QA,QD]at ho;obtain⟨rfl,rfl⟩:=ho;rw[hb]at e1;have e4:a.eval c=.bool b:=by generalize a.eval c=q at e1;cases e1;rfl
   refine⟨σ,w,.inl ⟨if b then a.eval x else a.eval y,by simp[e4,asBool],?_⟩,W0.refl hr⟩;cases b<;>simpa
  ·cases ho
 |alloc e=>
  simp only[hq]at hc;cases hz:Yw P e with
  |none=>simp[hz]at hc
  |some zs=>
   simp only[hz,QJ,QA]at hc;subst hc;obtain⟨i,z,hi,dF,rfl,nv,a7⟩:=ZT hz;simp only[WN,QA,QD]at ho;obtain⟨rfl,rfl⟩:=ho;refine WT.val ?_;obtain⟨σ',w',cv,r1,r2,r3⟩:=zKg hr (VM σ a7) e;refine⟨σ',w',cv,?_,r2,r3⟩;simp[newRow]at r1;simp[Instr.alloc,zeroValue,typeInfo,hi,dF,newVar,newRow,r1]
 |box e x=>
  simp only[hq,QA]at hc;subst hc;simp only[WN,QA,QD]at ho;obtain⟨rfl,rfl⟩:=ho;refine WT.val ?_;obtain⟨σ',w',cv,r1,r2,r3⟩:=zKg hr (E x (by simp[hq,Op.operands])).cells e;refine⟨σ',w',cv,?_,r2,r3⟩;simp[newRow]at r1;simp[Instr.box,newVar,newRow,r1]
 |build ty parts=>
  simp only[hq]at hc;have dN:∀ x∈parts.toList,Zq P x.2=true:=fun x hx=>b7 x.2 (by simp[hq,Op.operands];exact⟨x.1,by simpa using hx⟩);split at hc
  ·rename_i zs fs hz hu;cases lF:fs.toList.all (fun f=>(ZW P f.type).isSome)with
   |false=>simp[lF]at hc
   |true=>
   simp only[lF,QW,QU]at hc;cases fH:YR (zG8 P fs) parts.toList with
   |none=>simp[fH]at hc
   |some ps=>
    simp only[fH,QJ,QA]at hc;subst hc;obtain⟨i,z,hi,dF,rfl,nv,a7⟩:=ZT hz;simp only[WN]at ho;cases hf:Zy z.cells.toList (zu t ps)with
    |none=>simp[hf]at ho
    |some cells=>
     simp only[hf,QJ,QA,QD]at ho;obtain⟨rfl,rfl⟩:=ho;obtain⟨q1,q2⟩:=zBk hr ht dN fH;have lG:=zC8 (parts.toList.map fun x=>(x.1,a.eval x.2)) (fun i=>(fs.map fun f=>(f.offset,(ZW P f.type).getD 0))[i]?) z.cells.toList z.cells.toList (zu t ps) cells (VM σ a7) q1
      (fun j i v o n u h1 h2=>by
       obtain⟨a1,a2⟩:=q2 j i v o n u h1 h2;refine⟨?_,a2⟩;unfold zG8 at a1;cases fI:fs[i]? with
       |none=>simp[fI]at a1
       |some f=>
        simp only[fI]at a1;cases pe:ZW P f.type with
        |none=>simp[pe]at a1
        |some m=>simp[pe]at a1;simp[fI,pe,a1]) hf
     obtain⟨ys,f1,f2⟩:=lG;refine WT.same hr ?_ (Vd f2);have cG:=zIl (P:=P) (w:=w) lF;simp only[Gw]at f1;have lJ:(parts.map fun x=>(x.1,a.eval x.2)).toList=parts.toList.map fun x=>(x.1,a.eval x.2):=by simp
     simp only[Instr.build,zeroValue,typeInfo,Sem.run_bind,run_program,Result.andThen_ok,hi,dF,Sem.run_pure,run_underlying hu,cG,lJ,f1]
  ·rename_i zs len e hz hu;cases pe:ZW P e with
   |none=>simp[pe]at hc
   |some n=>
   simp only[pe]at hc;cases fH:YR (fun i=>some (i*n,n)) parts.toList with
   |none=>simp[fH]at hc
   |some ps=>
    simp only[fH,QJ,QA]at hc;subst hc;obtain⟨i,z,hi,dF,rfl,nv,a7⟩:=ZT hz;obtain⟨ie,ML,hsz⟩:=YZ pe;simp only[WN]at ho;cases hf:Zy z.cells.toList (zu t ps)with
    |none=>simp[hf]at ho
    |some cells=>
     simp only[hf,QJ,QA,QD]at ho;obtain⟨rfl,rfl⟩:=ho;obtain⟨q1,q2⟩:=zBk hr ht dN fH;obtain⟨ys,f1,f2⟩:=zC8 (parts.toList.map fun x=>(x.1,a.eval x.2)) (fun i=>some (i*n,n)) z.cells.toList z.cells.toList (zu t ps) cells (VM σ a7) q1 q2 hf;refine WT.same hr ?_ (Vd f2);simp only[Gw]at f1;have lJ:(parts.map fun x=>(x.1,a.eval x.2)).toList=parts.toList.map fun x=>(x.1,a.eval x.2):=by simp
     simp only[Instr.build,zeroValue,typeInfo,Sem.run_bind,run_program,Result.andThen_ok,hi,dF,Sem.run_pure,run_underlying hu,yC ML,hsz,lJ,f1]
  ·cases hc
 |buildSlice ty len parts=>
  simp only[hq]at hc;have dN:∀ x∈parts.toList,Zq P x.2=true:=fun x hx=>b7 x.2 (by simp[hq,Op.operands];exact⟨x.1,by simpa using hx⟩);cases b9:yh P ty with
  |none=>simp[b9]at hc
  |some e=>
  have hu:P.underlying ty=some (.slice e):=by
   unfold yh at b9;split at b9
   ·cases b9;assumption
   ·cases b9
  simp only[b9]at hc;split at hc
  ·rename_i n zs he hz;cases hb:Nat.ble (len*n) 65536 with
   |false=>simp[hb]at hc
   |true=>
   simp only[hb,cond_true]at hc;cases fH:YR (fun i=>some (i*n,n)) parts.toList with
   |none=>simp[fH]at hc
   |some ps=>
    simp only[fH,QJ,QA]at hc;subst hc;obtain⟨i,z,hi,hsz,aW,_,_,dF,dM⟩:=y9 he;obtain⟨i',z',ae,lK,rfl,nv,a7⟩:=ZT hz;rw[hi]at ae;cases ae;rw[dF]at lK;cases lK;subst hsz;simp only[WN]at ho;cases hf:Zy (zo z.cells.toList len) (zu t ps)with
    |none=>simp[hf]at ho
    |some cells=>
     simp only[hf,QJ,QA,mk,QD]at ho;obtain⟨rfl,rfl⟩:=ho;obtain⟨q1,q2⟩:=zBk hr ht dN fH;have D6:WW σ (zo z.cells.toList len) (zo z.cells.toList len):=VM σ (zAP a7 len);obtain⟨ys,f1,f2⟩:=zC8 (parts.toList.map fun x=>(x.1,a.eval x.2)) (fun D7=>some (D7*i.size,i.size)) _ _ (zu t ps) cells D6 q1 q2 hf;refine WT.val ?_;have hp:=zDB hr f2 [] e 0;rw[GY]at hp;have hlen:ys.length=len*i.size:=by
      have cG:∀ (qs:List (Nat×Nat×Value)) (xs r:List Value),Zy xs qs=some r->r.length=xs.length:=fun qs=>by
       induction qs with
       |nil=>intro xs r h;simp[Zy]at h;rw[h]
       |cons q qs w8=>
        intro xs r h;obtain⟨o1,n1,u1⟩:=q;simp only[Zy]at h;cases aC:(Nat.beq u1.cells.size n1&&Nat.ble (o1+n1) xs.length)with
        |false=>simp[aC]at h
        |true=>
         simp only[aC,cond_true]at h;simp only[QN]at aC;have b1:=QO aC.1;have b2:=QS aC.2;rw[w8 _ _ h];simp[zh];omega
      rw[<-f2.1,cG _ _ _ hf,yA];simp[dM]
     refine⟨_,_,.slice (some ⟨w.heap.size,0,none⟩) len len,?_,WI.slice (pl:=⟨w.heap.size,0,ys.length+0⟩) (yR _ _ _) aW (QE _) (by simp[hlen]),hp⟩;have iL:¬(16777216<len*i.size):=by have:=QS hb;omega
     have aO:((Array.range (len*i.size)).map (z.cells[· % z.cells.size]!))=(zo z.cells.toList len).toArray:=by
      apply JF;rw[<-zAl z.cells (by omega) len];simp[dM]
     by_cases fP:len*i.size=0
     ·have eD:len=0:=by rcases Nat.mul_eq_zero.1 fP with h|h<;>omega
      subst eD;have cR:Array.range 0=#[]:=rfl;simp only[zo]at f1;simp[Instr.buildSlice,run_underlying hu,yC hi,newRow,cR,f1]
     ·simp[Instr.buildSlice,run_underlying hu,yC hi,zeroValue,typeInfo,hi,dF,iL,newRow,aO,f1];intro h0;exact absurd h0 fP
  ·cases hc
 |load ty x=>
  simp only[hq]at hc;split at hc
  ·rename_i g n hg hn;simp only[QA]at hc;subst hc;have e1:=E x (by simp[hq,Op.operands]);simp only[WN]at ho;split at ho
   ·rename_i ad jR;rw[jR]at e1;cases fq:ad.spot with
    |some s=>simp[fq]at ho
    |none=>
     simp only[fq,Qp,cond_true]at ho;cases dx:yj h ad.block with
     |none=>simp[dx]at ho
     |some cells=>
      simp only[dx,Qb]at ho;cases bX:cut cells ad.off n with
      |none=>simp[bX]at ho
      |some xs=>
       simp only[bX,Qb]at ho;cases ft:zO g xs with
       |none=>simp[ft]at ho
       |some u=>
        simp only[ft,QJ,QA,QD]at ho;obtain⟨rfl,rfl⟩:=ho;obtain⟨pl,ys,c1,c2,c3,c4,c5⟩:=zBw hr dx bX;obtain⟨cv,d1,d2⟩:=zAT c2 ft;obtain⟨b,off,sp⟩:=ad;simp only at fq c1 c5;subst fq;generalize dW:a.eval x=q at e1;cases e1 with
        |ptr hp=>
         rw[c1]at hp;cases hp;refine WT.same hr ?_ d2;have:=zBh (P:=P) (w:=w) hg hn c3 c5 d1;simp[Instr.loadAt,Instr.sureAddr,dW,this]
   ·cases ho
  ·cases hc
 |store ty x y=>
  simp only[hq]at hc;cases hn:ZW P ty with
  |none=>simp[hn]at hc
  |some n=>
   simp only[hn,QJ,QA]at hc;subst hc;have e1:=E x (by simp[hq,Op.operands]);have e2:=E y (by simp[hq,Op.operands]);simp only[WN]at ho;split at ho
   ·rename_i ad jR;rw[jR]at e1;cases hsz:Nat.beq (ev t y).cells.size n with
    |false=>simp[hsz]at ho
    |true=>
     simp only[hsz,cond_true]at ho;have hsz:=QO hsz;cases aX:zr h ad (ev t y).cells.toList with
     |none=>simp[aX]at ho
     |some h1=>
      simp only[aX,QJ,QA,QD]at ho;obtain⟨rfl,rfl⟩:=ho;obtain⟨i,hi,hs⟩:=YZ hn;generalize dW:a.eval x=q at e1;cases e1 with
      |ptr hp=>
       obtain⟨w',r1,r2⟩:=zCN hr (WI.ptr hp) e2.cells aX;refine Va ⟨σ,w',?_,r2⟩;have D8:(a.eval y).cells.size=i.size:=by have:=e2.cells.1;simp at this;omega
       simp[Instr.storeAt,Instr.sureAddr,dW,storeVar,yC hi,D8,r1]
   ·cases ho
 |nilCheck x=>
  simp only[hq,QA]at hc;subst hc;have e1:=E x (by simp[hq,Op.operands]);generalize dW:a.eval x=q at e1;simp only[WN]at ho;obtain⟨u,hu,ho⟩:=QQ.1 ho;simp only[QD]at ho;obtain⟨rfl,rfl⟩:=ho;unfold zAg at hu;split at hu
  ·rename_i ad jR;rw[jR]at e1;simp only[QA]at hu;subst hu;refine⟨σ,w,.inl ⟨q,?_,e1⟩,W0.refl hr⟩;cases e1;simp[dW]
  ·rename_i f first cap jR
   rw[jR]at e1;simp only[QA]at hu;subst hu;refine⟨σ,w,.inl ⟨q,?_,e1⟩,W0.refl hr⟩;cases e1;simp[dW]
  ·rename_i f first cap jR
   rw[jR]at e1;simp only[QA]at hu;subst hu;refine⟨σ,w,.inl ⟨q,?_,e1⟩,W0.refl hr⟩;cases e1;simp[dW]
  ·cases hu
 |binOp jw ty x y ty2=>
  simp only[hq]at hc;have e1:=E x (by simp[hq,Op.operands]);have e2:=E y (by simp[hq,Op.operands]);have D9:op=.bin jw x y->(∃ k,P.underlying ty=some (.int k))->WT P B σ h w (do pure (.value (<-(do eqGuard jw ty x y (a.eval x) (a.eval y);binOp jw ty (a.eval x) (a.eval y))))) v h':=fun b7 _=>by
   subst b7;simp only[WN]at ho;cases hb:ZF jw (ev t x) (ev t y)with
   |none=>simp[hb]at ho
   |some u=>
    simp only[hb,QJ,QA,QD]at ho;obtain⟨rfl,rfl⟩:=ho;obtain⟨r1,r2⟩:=zL9 (P:=P) (w:=w) e1 e2 hb ty;refine WT.same hr ?_ r2;have hg:(eqGuard jw ty x y (a.eval x) (a.eval y)).run P w=.ok () w:=by
     have:∃ k n,ev t x=.int k n:=by
      unfold ZF at hb;split at hb<;>first|(cases hb;done)|(rename_i h1 _;exact⟨_,_,h1⟩)|(rename_i h1 h2;exact⟨_,_,h1⟩)
     obtain⟨k,n,hk⟩:=this;rw[hk]at e1;generalize a.eval x=q at e1;cases e1;unfold eqGuard;split<;>rfl
    simp[hg,r1]
  have fQ:op=.binP jw ty x y->WT P B σ h w (do pure (.value (<-(do eqGuard jw ty x y (a.eval x) (a.eval y);binOp jw ty (a.eval x) (a.eval y))))) v h':=fun b7=>by
   subst b7;simp only[WN]at ho;cases a7:(Yy (ev t x)&&Yy (ev t y))with
   |false=>simp[a7]at ho
   |true=>
    simp only[a7,cond_true]at ho;simp only[QN]at a7;split at ho
    ·rename_i u hp;cases rZ:yx u with
     |false=>simp[rZ]at ho
     |true=>
      simp only[rZ,cond_true,QA,QD]at ho;obtain⟨rfl,rfl⟩:=ho;have q1:=e1.closedD_eq a7.1;have q2:=e2.closedD_eq a7.2;rw[q1,q2];exact WT.same hr (zDj _ hp) (VO σ rZ)
    ·cases ho
  have ef:∀ (d:TypeDesc) (k:Nat) (neg:Bool) (z u:Operand),P.underlying ty=some d->Ym d=some k->zAZ k u=true->jw=(if neg then .neq else .eql)->op=.isNil k neg z->((x=z/\y=u)\/(x=u/\y=z))->
    WT P B σ h w (do pure (.value (<-(do eqGuard jw ty x y (a.eval x) (a.eval y);binOp jw ty (a.eval x) (a.eval y))))) v h':=fun d k neg z u hd hk hu hb r7 w9=>by
   subst r7;simp only[WN]at ho;cases hn:zG1 k (ev t z)with
   |none=>simp[hn]at ho
   |some b=>
    simp only[hn,QJ,QA,QD]at ho;obtain⟨rfl,rfl⟩:=ho;have Ea:∃ c,u=.const c:=by
     cases u with
     |const c=>exact⟨c,rfl⟩
     |_=>unfold zAZ at hu;split at hu<;>simp_all
    obtain⟨c,fZ⟩:=Ea;subst hb;rcases w9 with⟨rfl,rfl⟩|⟨rfl,rfl⟩
    ·have:=(zHd (P:=P) (w:=w) hd hk e1 hn hu fZ x neg).1;subst fZ;exact WT.same hr this (.bool _)
    ·have:=(zHd (P:=P) (w:=w) hd hk e2 hn hu fZ y neg).2;subst fZ;exact WT.same hr this (.bool _)
  have qG:∀ neg,P.underlying ty=some .bool->jw=(if neg then .neq else .eql)->op=.binB neg x y->WT P B σ h w (do pure (.value (<-(do eqGuard jw ty x y (a.eval x) (a.eval y);binOp jw ty (a.eval x) (a.eval y))))) v h':=fun neg hd hb r7=>by
   subst r7 hb;simp only[WN]at ho;split at ho
   ·rename_i b1 b2 h1 h2;simp only[QA,QD]at ho;obtain⟨rfl,rfl⟩:=ho;rw[h1]at e1;rw[h2]at e2;have q1:a.eval x=.bool b1:=by generalize a.eval x=q at e1;cases e1;rfl
    have q2:a.eval y=.bool b2:=by generalize a.eval y=q at e2;cases e2;rfl
    rw[q1,q2];have hE:(Op.equal ty (.bool b1) (.bool b2)).run P w=.ok (b1 == b2) w:=by
     have:∀ D,(Op.equalIn (D+1) ty (.bool b1) (.bool b2)).run P w=.ok (b1 == b2) w:=fun D=>by rw[Op.equalIn,Sem.run_bind,run_underlying hd];rfl
     exact this 9999
    refine WT.same hr ?_ (.bool _);cases neg
    ·simp[eqGuard,binOp,hE]
    ·simp[eqGuard,binOp,hE];cases b1<;>cases b2<;>rfl
   ·cases ho
  dsimp only;cases hd:P.underlying ty with
  |none=>simp[hd]at hc
  |some d=>
   simp only[hd]at hc;cases d with
   |int k=>simp only[QA]at hc;exact D9 hc.symm ⟨k,hd⟩
   |bool=>
    simp only at hc;split at hc
    ·simp only[QA]at hc;exact qG false hd rfl hc.symm
    ·simp only[QA]at hc;exact qG true hd rfl hc.symm
    ·cases hc
   |struct _=>simp only[QA]at hc;exact fQ hc.symm
   |array _ _=>simp only[QA]at hc;exact fQ hc.symm
   |string=>simp only[QA]at hc;exact fQ hc.symm
   |float _=>simp only[QA]at hc;exact fQ hc.symm
   |complex _=>simp only[QA]at hc;exact fQ hc.symm
   |_=>
    simp only[Ym]at hc;first
     |(cases hc;done)
     |(split at hc
       all_goals first
        |(cases hc;done)
        |(simp only[QA]at hc;first
          |exact ef _ _ false x y hd rfl (by assumption) rfl hc.symm (.inl ⟨rfl,rfl⟩)
          |exact ef _ _ true x y hd rfl (by assumption) rfl hc.symm (.inl ⟨rfl,rfl⟩)
          |exact ef _ _ false y x hd rfl (by assumption) rfl hc.symm (.inr ⟨rfl,rfl⟩)
          |exact ef _ _ true y x hd rfl (by assumption) rfl hc.symm (.inr ⟨rfl,rfl⟩)))
     |(split at hc
       all_goals first
        |(cases hc;done)
        |(simp only[QA]at hc;first
          |exact ef _ _ false x y hd rfl (by assumption) rfl hc.symm (.inl ⟨rfl,rfl⟩)
          |exact ef _ _ true x y hd rfl (by assumption) rfl hc.symm (.inl ⟨rfl,rfl⟩)
          |exact ef _ _ false y x hd rfl (by assumption) rfl hc.symm (.inr ⟨rfl,rfl⟩)
          |exact ef _ _ true y x hd rfl (by assumption) rfl hc.symm (.inr ⟨rfl,rfl⟩))
        |(simp only[Nat.beq,QU,reduceCtorEq]at hc;done)
        |(simp only[Nat.beq,cond_true,QA]at hc;exact fQ hc.symm))
 |unOp MM ty x=>
  simp only[hq,QA]at hc;subst hc;have e1:=E x (by simp[hq,Op.operands]);simp only[WN]at ho;cases hu:unV MM (ev t x)with
  |none=>simp[hu]at ho
  |some u=>
   simp only[hu,QJ,QA,QD]at ho;obtain⟨rfl,rfl⟩:=ho;obtain⟨r1,r2⟩:=zPc (P:=P) (w:=w) e1 hu;exact WT.same hr r1 r2
 |convert s d x=>
  simp only[hq]at hc;have e1:=E x (by simp[hq,Op.operands]);have r8:op=.convP s d x->WT P B σ h w (do pure (.value (<-convert s d (a.eval x)))) v h':=fun b7=>by
   subst b7;simp only[WN]at ho;cases a7:yx (ev t x)with
   |false=>simp[a7]at ho
   |true=>
    simp only[a7,cond_true]at ho;split at ho
    ·rename_i u hp;cases rZ:yx u with
     |false=>simp[rZ]at ho
     |true=>
      simp only[rZ,cond_true,QA,QD]at ho;obtain⟨rfl,rfl⟩:=ho;rw[e1.closed_eq a7];exact WT.same hr (zDj _ hp) (VO σ rZ)
    ·cases ho
  split at hc
  ·rename_i k1 k2 h1 h2;simp only[QA]at hc;subst hc;simp only[WN]at ho;split at ho
   ·rename_i k n hn;simp only[QA,QD]at ho;obtain⟨rfl,rfl⟩:=ho;rw[hn]at e1;generalize dW:a.eval x=q at e1;cases e1;refine WT.same hr (cv:= .int k2 (k2.wrap n)) ?_ (.int _ _);show(convert s d (a.eval x)).run P w=_;rw[dW];simp[convert,run_underlying h1,run_underlying h2,Conv.intToInt]
   ·cases ho
  all_goals first
   |(simp only[QA]at hc;exact r8 hc.symm)
   |(cases hc;done)
   |skip
  ·rename_i e h1 h2;split at hc
   ·rename_i h3;split at hc
    ·simp only[QA]at hc;subst hc;simp only[WN]at ho;obtain⟨vv,hu,ho⟩:=QQ.1 ho;simp only[QD]at ho;obtain⟨rfl,rfl⟩:=ho;unfold zGF at hu;split at hu
     ·rename_i l hl;obtain⟨b,hb,hu⟩:=QQ.1 hu;subst hu;have r1:=zLN hr e1 hl hb;have eg:∃ ad len cap,a.eval x=.slice ad len cap:=by
       generalize a.eval x=q at e1;unfold yg at hl;split at hl
       ·rename_i heq;rw[heq]at e1;cases e1;exact⟨_,_,_,rfl⟩
       ·rename_i heq;rw[heq]at e1;cases e1<;>exact⟨_,_,_,rfl⟩
       ·cases hl
      obtain⟨ad,len,cap,eg⟩:=eg;refine WT.same (s:=convert s d (a.eval x)) hr ?_ (.string _);rw[eg]at r1 |-;rw[run_convert_bytes_string w s d e ad len cap h1 h3 h2];exact r1
     ·cases hu
    ·cases hc
   ·cases hc
 |makeFunc fn first cap=>
  simp only[hq,QA]at hc;subst hc;simp only[WN]at ho;split at ho
  ·simp only[QA,QD]at ho;obtain⟨rfl,rfl⟩:=ho;have l1:=zBC hr ht (l:=first.toList) (fun x hx=>b7 x (by simp[hq,Op.operands];left;simpa using hx));have l2:=zBC hr ht (l:=cap.toList) (fun x hx=>b7 x (by simp[hq,Op.operands];right;simpa using hx));refine WT.same hr rfl ?_;refine .func _ (by simp) (by simp) (fun i x y hx hy=>l1.2 i x y (by simpa using hx) (by simpa using hy)) (fun i x y hx hy=>l2.2 i x y (by simpa using hx) (by simpa using hy))
  ·cases ho
 |makeMap ty r=>
  simp only[hq]at hc;cases r with
  |some r=>simp at hc
  |none=>
   simp only at hc;split at hc
   ·rename_i k e hu;simp only[QA]at hc;subst hc;simp only[WN,QA,QD]at ho;obtain⟨rfl,rfl⟩:=ho;have hp:W0 P B σ h w (Zu σ h.n ⟨w.heap.size,0,0⟩) (h.push (.map [] 0)) (w.alloc (.map #[] 0)):=
     hr.push rfl ⟨rfl,rfl,rfl⟩ ⟨#[],by show(w.heap.push _)[w.heap.size]?=_;simp,BZ.nil⟩
    exact WT.val ⟨_,_,.map (some w.heap.size),by simp[Instr.makeMap],WI.map (pl:=⟨w.heap.size,0,0⟩) (yR _ _ _),hp⟩
   ·cases hc
 |makeSlice ty l c=>
  simp only[hq]at hc;have e1:=E l (by simp[hq,Op.operands]);have e2:=E c (by simp[hq,Op.operands]);cases b9:yh P ty with
  |none=>simp[b9]at hc
  |some e=>
   have hu:P.underlying ty=some (.slice e):=by
    unfold yh at b9;split at b9
    ·cases b9;assumption
    ·cases b9
   simp only[b9]at hc;split at hc
   ·rename_i n zs he hz;simp only[QA]at hc;subst hc;simp only[WN]at ho;split at ho
    ·rename_i ln cn h1 h2;cases hb:(Nat.ble ln cn&&Nat.ble cn room)with
     |false=>simp[hb]at ho
     |true=>
      simp only[hb,cond_true,QA,QD]at ho;simp only[QN]at hb;obtain⟨rfl,rfl⟩:=ho;obtain⟨k,hk⟩:=Yz e1 h1;obtain⟨k',bK⟩:=Yz e2 h2;dsimp only;rw[hk,bK];exact WT.val (zIJ hr hu he hz (QS hb.1) (QS hb.2))
    ·cases ho
   ·cases hc
 |slice ty x lo hi mx=>
  simp only[hq]at hc;have e1:=E x (by simp[hq,Op.operands]);have Eb:∀ y,lo=some y->Zq P y=true:=fun y hy=>b7 y (by subst hy;simp[hq,Op.operands]);have Ec:∀ y,hi=some y->Zq P y=true:=fun y hy=>b7 y (by subst hy;simp[hq,Op.operands]);have MN:∀ y,mx=some y->Zq P y=true:=fun y hy=>b7 y (by subst hy;simp[hq,Op.operands]);cases fG:(mx.isSome&&hi.isNone)with
  |true=>simp[fG]at hc
  |false=>
  simp only[fG,QU]at hc;split at hc
  ·rename_i e hu;cases he:Zm P e with
   |none=>simp[he]at hc
   |some c=>
    simp only[he,QJ,QA]at hc;subst hc;simp only[WN]at ho;split at ho
    ·rename_i gD kC MO h1 h2 h3;cases hs:Zp c (ev t x) gD kC MO with
     |none=>simp[hs]at ho
     |some u=>
      simp only[hs,QJ,QA,QD]at ho;obtain⟨rfl,rfl⟩:=ho;obtain⟨cv,r1,r2⟩:=zJv (P:=P) (w:=w) hu he e1 (zAB hr ht Eb h1) (zAB hr ht Ec h2) (zAB hr ht MN h3) (fun h=>by
       rw[zDp h3]at h;rw[zDp h2];cases hi<;>simp_all) hs
      exact WT.same hr r1 r2
    ·cases ho
  ·rename_i hu;cases mx with
   |some m=>simp at hc
   |none=>
   simp only[Option.isSome_none,QU,QA]at hc;subst hc;simp only[WN]at ho;split at ho
   ·rename_i s gD kC h1 h2 h3;cases hb:(Nat.ble (gD.getD 0) (kC.getD s.size)&&Nat.ble (kC.getD s.size) s.size)with
    |false=>simp[hb]at ho
    |true=>
     simp only[hb,cond_true,QA,QD]at ho;simp only[QN]at hb;obtain⟨rfl,rfl⟩:=ho;rw[h1]at e1;have q1:a.eval x=.string s:=by generalize a.eval x=q at e1;cases e1;rfl
     have b1:=zAB hr ht Eb h2;have b2:=zAB hr ht Ec h3;have c1:=QS hb.1;have c2:=QS hb.2;dsimp only;rw[q1];refine WT.same hr ?_ (.string _);have aV:(Instr.sliceBounds false s.size s.size (lo.map a.eval) (hi.map a.eval) none).run P w=.ok (gD.getD 0,kC.getD s.size,s.size) w:=by
      cases gD with
      |none=>
       cases kC with
       |none=>rw[b1,b2];simp[Instr.sliceBounds]
       |some e=>
        obtain⟨k,hk⟩:=b2;rw[b1,hk];simp at c2;simp[Instr.sliceBounds,YG,c2]
      |some l=>
       obtain⟨k,hk⟩:=b1;cases kC with
       |none=>
        rw[hk,b2];simp at c1;simp[Instr.sliceBounds,YG,c1]
       |some e=>
        obtain⟨k2,aS⟩:=b2;rw[hk,aS];simp at c1 c2;simp[Instr.sliceBounds,YG,c1,c2]
     simp[Instr.sliceAt,Instr.slice,run_underlying hu,aV]
   ·cases ho
  ·rename_i len e hu;cases he:Zm P e with
   |none=>simp[he]at hc
   |some c=>
    simp only[he,QJ,QA]at hc;subst hc;obtain⟨ie,z,ae,rfl,aW,_⟩:=y9 he;simp only[WN]at ho;split at ho
    ·rename_i ad jR;split at ho
     ·rename_i gD kC cells h2 h3 h4;cases hb:(Nat.ble (gD.getD 0) (kC.getD len)&&Nat.ble (kC.getD len) len&&ad.spot.isNone&&Nat.ble (ad.off+len*ie.size) cells.length)with
      |false=>simp[hb]at ho
      |true=>
       simp only[hb,cond_true,QA,QD]at ho;simp only[QN]at hb;obtain⟨⟨⟨c1,c2⟩,c3⟩,c4⟩:=hb;have c1:=QS c1;have c2:=QS c2;have c4:=QS c4;obtain⟨rfl,rfl⟩:=ho;rw[jR]at e1;obtain⟨pl,hp,q1⟩:=e1.ptr_inv;obtain⟨cP,k1,k2,_⟩:=zGR hr h4;rw[hp]at k1;cases k1;have b1:=zAB hr ht Eb h2;have b2:=zAB hr ht Ec h3;have aV:=Zi (P:=P) (w:=w) (sl:=false) (len:=len) (cap:=len) (mx:=none) (qE:=none) b1 b2 rfl rfl rfl rfl (by simp) c1 (by simpa using c2) (by simp) (fun _=>c2);simp only[Gu]at aV;dsimp only;rw[q1];have xb:(Instr.sliceAt ty (.pointer (some ⟨pl.b,pl.base+ad.off,none⟩)) (lo.map a.eval) (hi.map a.eval) none).run P w=
         .ok (.slice (some (if len=gD.getD 0 then⟨pl.b,pl.base+ad.off,none⟩else⟨pl.b,pl.base+ad.off+gD.getD 0*ie.size,none⟩)) (kC.getD len-gD.getD 0) (len-gD.getD 0)) w:=by
        simp[Instr.sliceAt,Instr.sureAddr,run_underlying hu,aV,yC ae,Yn]
       refine WT.same hr xb ?_;by_cases hz:len=gD.getD 0
       ·have e3:kC.getD len-gD.getD 0=0:=by omega
        have e4:len-gD.getD 0=0:=by omega
        rw[e3,e4];exact .szero _ _ _
       ·rw[QC hz];have e3:pl.base+ad.off+gD.getD 0*ie.size=pl.base+(ad.off+gD.getD 0*ie.size):=by omega
        rw[e3];refine .slice hp aW (by omega) ?_;have e4:(len-gD.getD 0)*ie.size+gD.getD 0*ie.size=len*ie.size:=by rw[<-Gv];congr 1;omega
        omega
     ·cases ho
    ·cases ho
  ·cases hc
 |fieldAddr ty x f=>
  simp only[hq]at hc;have e1:=E x (by simp[hq,Op.operands]);split at hc
  ·rename_i fs hu;split at hc
   ·rename_i f0 hf;split at hc
    ·rename_i n hn;simp only[QA]at hc;subst hc;simp only[WN]at ho;split at ho
     ·rename_i ad jR;rw[jR]at e1;cases fq:ad.spot with
      |some s=>simp[fq]at ho
      |none=>
       simp only[fq,Qp,cond_true,QA,QD]at ho;obtain⟨rfl,rfl⟩:=ho;obtain⟨b,off,sp⟩:=ad;generalize dW:a.eval x=q at e1;cases e1 with
       |ptr hp=>
        dsimp only;rw[dW];refine WT.same hr (zHu hu hf hn _ _) ?_;rw[Nat.add_assoc];exact .ptr hp
     ·cases ho
    ·cases hc
   ·cases hc
  ·cases hc
 |field ty x f=>
  simp only[hq]at hc;have e1:=E x (by simp[hq,Op.operands]);split at hc
  ·rename_i fs hu;split at hc
   ·rename_i f0 hf;split at hc
    ·rename_i g n hg hn;simp only[QA]at hc;subst hc;simp only[WN]at ho;split at ho
     ·rename_i cs bP;rw[bP]at e1;cases bX:cut cs.toList f0.offset n with
      |none=>simp[bX]at ho
      |some xs=>
       simp only[bX,Qb]at ho;cases ft:zO g xs with
       |none=>simp[ft]at ho
       |some u=>
        simp only[ft,QJ,QA,QD]at ho;obtain⟨rfl,rfl⟩:=ho;generalize dW:a.eval x=q at e1;obtain⟨vC,rfl,ir⟩:=e1.agg_inv;obtain⟨ys,c1,c2⟩:=zJ2 ir bX;obtain⟨cv,d1,d2⟩:=zAT c2 ft;dsimp only;rw[dW];exact WT.same hr (zLI hu hf hg hn c1 d1) d2
     ·cases ho
    ·cases hc
   ·cases hc
  ·cases hc
 |indexAddr ty x i=>
  simp only[hq]at hc;have e1:=E x (by simp[hq,Op.operands]);have e2:=E i (by simp[hq,Op.operands]);split at hc
  ·rename_i e hu;cases he:Zm P e with
   |none=>simp[he]at hc
   |some c=>
    simp only[he,QJ,QA]at hc;subst hc;obtain⟨ie,z,hi,rfl,aW,_⟩:=y9 he;simp only[WN]at ho;split at ho
    ·rename_i ad len k n h1 h2;cases hb:(Nat.ble (n+1) len&&Nat.beq k ie.size&&ad.spot.isNone)with
     |false=>simp[hb]at ho
     |true=>
      simp only[hb,cond_true,QA,QD]at ho;simp only[QN]at hb;obtain⟨⟨b1,b2⟩,b3⟩:=hb;have b1:=QS b1;obtain⟨rfl,rfl⟩:=ho;obtain⟨kk,hk⟩:=Yz e2 h2;rw[h1]at e1;generalize dW:a.eval x=q at e1;rcases e1.slice_inv with⟨pl,cap,hp,_,jv,hn,rfl⟩|⟨y,rfl,rfl⟩
      ·dsimp only;rw[dW,hk];refine WT.same hr (zCj hu hi _ _ _ _ _ _ (by omega)) ?_;rw[Nat.add_assoc];exact .ptr hp
      ·omega
    ·cases ho
  ·rename_i len e hu;cases he:Zm P e with
   |none=>simp[he]at hc
   |some c=>
    simp only[he,QJ,QA]at hc;subst hc;obtain⟨ie,z,hi,rfl,aW,_⟩:=y9 he;simp only[WN]at ho;split at ho
    ·rename_i ad n h1 h2;cases hb:(Nat.ble (n+1) len&&ad.spot.isNone)with
     |false=>simp[hb]at ho
     |true=>
      simp only[hb,cond_true,QA,QD]at ho;simp only[QN]at hb;have b1:=QS hb.1;obtain⟨rfl,rfl⟩:=ho;obtain⟨kk,hk⟩:=Yz e2 h2;rw[h1]at e1;obtain⟨b,off,sp⟩:=ad;generalize dW:a.eval x=q at e1;cases e1 with
      |ptr hp=>
       dsimp only;rw[dW,hk];refine WT.same hr (zDK hu hi _ _ _ _ (by omega)) ?_;rw[Nat.add_assoc];exact .ptr hp
    ·cases ho
  ·cases hc
 |index ty x i=>
  simp only[hq]at hc;have e1:=E x (by simp[hq,Op.operands]);have e2:=E i (by simp[hq,Op.operands]);split at hc
  ·rename_i len e hu;split at hc
   ·rename_i g c hg he;simp only[QA]at hc;subst hc;simp only[WN]at ho;split at ho
    ·rename_i cs n h1 h2;cases hb:Nat.ble (n+1) len with
     |false=>simp[hb]at ho
     |true=>
      simp only[hb,cond_true]at ho;have b1:=QS hb;cases bX:cut cs.toList (n*c) c with
      |none=>simp[bX]at ho
      |some xs=>
       simp only[bX,Qb]at ho;cases ft:zO g xs with
       |none=>simp[ft]at ho
       |some u=>
        simp only[ft,QJ,QA,QD]at ho;obtain⟨rfl,rfl⟩:=ho;obtain⟨kk,hk⟩:=Yz e2 h2;rw[h1]at e1;generalize dW:a.eval x=q at e1;obtain⟨vC,rfl,ir⟩:=e1.agg_inv;obtain⟨ys,c1,c2⟩:=zJ2 ir bX;obtain⟨cv,d1,d2⟩:=zAT c2 ft;dsimp only;rw[dW,hk];exact WT.same hr (zD9 hu hg he (by omega) c1 d1) d2
    ·cases ho
   ·cases hc
  ·rename_i hu;simp only[QA]at hc;subst hc;simp only[WN]at ho;split at ho
   ·rename_i s n h1 h2;obtain⟨kk,hk⟩:=Yz e2 h2;rw[h1]at e1;split at ho
    ·rename_i b hb;simp only[QA,QD]at ho;obtain⟨rfl,rfl⟩:=ho;generalize dW:a.eval x=q at e1;cases e1;dsimp only;rw[dW,hk];refine WT.same hr (cv:= .int .u8 b.toNat) ?_ (.int _ _);simp[Instr.index,run_underlying hu,asIntOf,hb]
    ·cases ho
   ·cases ho
  ·cases hc
 |lookup ty m k ok=>
  simp only[hq]at hc;have e1:=E m (by simp[hq,Op.operands]);have e2:=E k (by simp[hq,Op.operands]);split at hc
  ·rename_i kt e hu;split at hc
   ·rename_i d z hk hz;cases dM:Zr z.cells.toList with
    |false=>simp[dM]at hc
    |true=>
    simp only[dM,cond_true,QA]at hc;subst hc;simp only[WN]at ho;generalize nz:(match ev t m with
     | .map none=>some []
     | .map (some g)=>(match h.get g with
      |some (.map es _)=>some es
      |_=>none)
     |_=>none:Option (List MapEntry))=eso at ho
    split at ho
    ·cases ho
    rename_i es nz;split at ho
    ·rename_i kk n xc;rw[xc]at e2;have q2:a.eval k=.int kk n:=by generalize a.eval k=q at e2;cases e2;rfl
     have xd:(ev t m=.map none/\es=[])\/∃ g clock,ev t m=.map (some g)/\h.get g=some (.map es clock):=by
      split at nz
      ·rename_i hm;left;exact⟨hm,by simpa using nz.symm⟩
      ·rename_i g hm;split at nz
       ·rename_i es0 clock hg;simp only[QA]at nz;subst nz;exact .inr ⟨g,clock,hm,hg⟩
       ·cases nz
      ·cases nz
     dsimp only;rw[q2];split at ho
     ·rename_i i u hf;simp only[QA,QD]at ho;obtain⟨rfl,rfl⟩:=ho;obtain⟨cv,r1,r2⟩:=zEx (ok:=ok) hu hk hr hz dM e1 xd hf rfl;exact WT.same hr r1 r2
     ·rename_i hf;simp only[QA,QD]at ho;obtain⟨rfl,rfl⟩:=ho;obtain⟨cv,r1,r2⟩:=zEx (ok:=ok) hu hk hr hz dM e1 xd hf rfl;exact WT.same hr r1 r2
     ·cases ho
    ·cases ho
   ·cases hc
  ·cases hc
 |mapUpdate ty m k x=>
  simp only[hq]at hc;have e1:=E m (by simp[hq,Op.operands]);have e2:=E k (by simp[hq,Op.operands]);have e3:=E x (by simp[hq,Op.operands]);split at hc
  ·rename_i kt e hu;split at hc
   ·rename_i d hk;simp only[QA]at hc;subst hc;simp only[WN]at ho;split at ho
    ·rename_i g kk n h1 h2;rw[h1]at e1;rw[h2]at e2;have q2:a.eval k=.int kk n:=by generalize a.eval k=q at e2;cases e2;rfl
     split at ho
     ·rename_i es clock hg;dsimp only;rw[q2];split at ho
      ·rename_i i u hf;simp only[QA,QD]at ho;obtain⟨rfl,rfl⟩:=ho;obtain⟨w',r1,r2⟩:=zAv hu hk hr hg e1 e3 hf;exact Va ⟨σ,w',r1,r2⟩
      ·rename_i hf;simp only[QA,QD]at ho;obtain⟨rfl,rfl⟩:=ho;obtain⟨w',r1,r2⟩:=zAv hu hk hr hg e1 e3 hf;exact Va ⟨σ,w',r1,r2⟩
      ·cases ho
     ·cases ho
    ·cases ho
   ·cases hc
  ·cases hc
 |insert ty m k x=>
  simp only[hq]at hc;have e1:=E m (by simp[hq,Op.operands]);have e2:=E k (by simp[hq,Op.operands]);have e3:=E x (by simp[hq,Op.operands]);split at hc
  ·rename_i kt e hu;split at hc
   ·rename_i d hk;simp only[QA]at hc;subst hc;simp only[WN]at ho;split at ho
    ·rename_i g kk n h1 h2;rw[h1]at e1;rw[h2]at e2;have q2:a.eval k=.int kk n:=by generalize a.eval k=q at e2;cases e2;rfl
     split at ho
     ·rename_i es clock hg;dsimp only;rw[q2];split at ho
      ·rename_i i u hf;simp only[QA,QD]at ho;obtain⟨rfl,rfl⟩:=ho;obtain⟨w',r1,r2⟩:=zAv hu hk hr hg e1 e3 hf;exact Va ⟨σ,w',r1,r2⟩
      ·rename_i hf;simp only[QA,QD]at ho;obtain⟨rfl,rfl⟩:=ho;obtain⟨w',r1,r2⟩:=zAv hu hk hr hg e1 e3 hf;exact Va ⟨σ,w',r1,r2⟩
      ·cases ho
     ·cases ho
    ·cases ho
   ·cases hc
  ·cases hc
 |extract x i=>
  simp only[hq,QA]at hc;subst hc;have e1:=E x (by simp[hq,Op.operands]);simp only[WN]at ho;split at ho
  ·rename_i vs vD;rw[vD]at e1;split at ho
   ·rename_i u hu;simp only[QA,QD]at ho;obtain⟨rfl,rfl⟩:=ho;generalize dW:a.eval x=q at e1;cases e1 with
    |tuple ha ra=>
     rename_i kD;have hi:i<kD.size:=by rw[<-ha];exact(G1.1 hu).1
     have hy:kD[i]?=some kD[i]:=Q9 _;dsimp only;rw[dW];exact WT.same hr (by simp[Instr.extract,hy]) (ra i _ _ hu hy)
   ·cases ho
  ·cases ho
 |call c=>
  simp only[hq]at hc;split at hc
  ·rename_i f hf;simp only[QA]at hc;subst hc;rcases zCG (P:=P) f c.args.toList with fZ|⟨g,x,rt,rfl,hx,he,kB,fZ⟩
   ·exact absurd fZ (J2.1 _ _)
   ·rw[fZ]at ho;have hargs:c.args=#[x]:=by rw[<-Gw (xs:=c.args),hx]
    have e1:=E x (by rw[hq];simp[Op.operands,Call.operands,hf,hargs]);simp only[WN]at ho;obtain⟨u,hu,ho⟩:=QQ.1 ho;simp only[QD]at ho;obtain⟨rfl,rfl⟩:=ho;obtain⟨cv,r1,r2⟩:=zJw (w:=w) he kB e1 hu;refine⟨σ,w,.inl ⟨cv,?_,r2⟩,.refl hr⟩;have MP:a.eval (.func g)=.func (.func g) #[] #[]:=rfl;simp only[resolve,hf,hargs,Sem.run_bind,MP,Deferred.ofValue,Sem.run_pure,Result.andThen_ok,invoke];simpa using r1
  ·rename_i b hb;have aw:∀ x∈c.args.toList,Zq P x=true:=fun x hx=>b7 x (by
    rw[hq];simp only[Op.operands,Call.operands,hb];simpa using hx)
   have:=zHL (ty:=o.type) (consts:=c.args.map fun| .const _=>true|_=>false) hr ht aw hc ho;have e1:(c.args.toList.map a.eval).toArray=c.args.map a.eval:=by apply JF;simp
   rw[e1,Gw]at this;obtain⟨σ',w',r1,r2⟩:=this;refine⟨σ',w',?_,r2⟩;simp only[resolve,hb,Sem.run_bind,Sem.run_pure,Result.andThen_ok,invoke];exact r1
  ·simp only[QA]at hc;exact absurd hc.symm (J2.2 _ _ _)
 |defer c=>
  simp only[hq]at hc;split at hc
  ·simp only[QA]at hc;subst hc;simp[WN]at ho
  ·split at hc
   ·split at hc
    ·simp only[QA]at hc;subst hc;simp[WN]at ho
    ·cases hc
   ·cases hc
  ·cases hc
 |makeInterface ty x=>
  simp only[hq]at hc;have e1:=E x (by simp[hq,Op.operands]);split at hc
  ·cases hc
  ·rename_i d hnd hu;simp only[QA]at hc;subst hc;simp only[WN,QA,QD]at ho;obtain⟨rfl,rfl⟩:=ho;refine WT.same (s:=Instr.makeInterface ty (a.eval x)) hr ?_ (.iface ty e1);cases d<;>first|(simp[Instr.makeInterface,run_underlying hu];done)|exact(hnd _ rfl).elim|exact(hnd _ hu).elim
  ·cases hc
 |typeAssert x xt ty ok=>
  simp only[hq,QA]at hc;subst hc;have e1:=E x (by simp[hq,Op.operands]);simp only[WN]at ho;obtain⟨u,hu,ho⟩:=QQ.1 ho;simp only[QD]at ho;obtain⟨rfl,rfl⟩:=ho;obtain⟨cv,r1,r2⟩:=zI7 (w:=w) (xt:=xt) e1 hu;exact WT.same (s:=Instr.typeAssert (a.eval x) xt ty ok) hr r1 r2
 |range ty x=>
  simp only[hq]at hc;have e1:=E x (by simp[hq,Op.operands]);split at hc
  ·rename_i hu;simp only[QA]at hc;subst hc;simp only[WN,zBn]at ho;split at ho
   ·rename_i s hs;rw[hs]at e1;have q1:a.eval x=.string s:=by generalize a.eval x=q at e1;cases e1;rfl
    simp only[QA,QD]at ho;obtain⟨rfl,rfl⟩:=ho;dsimp only;rw[q1];exact WT.val (zKi hr s hu)
   ·cases ho
  ·cases hc
 |next x MQ=>
  cases MQ with
  |false=>simp[hq]at hc
  |true=>
  simp only[hq,QA]at hc;subst hc;have e1:=E x (by simp[hq,Op.operands]);simp only[WN,zCi]at ho;split at ho
  ·rename_i ad hx;rw[hx]at e1;cases hb:(Nat.beq ad.off 0&&ad.spot.isNone)with
   |false=>simp[hb]at ho
   |true=>
    simp only[hb,cond_true]at ho;rw[QN]at hb;split at ho
    ·rename_i s pos hg;obtain⟨n1,n2⟩:=zMY (ty:=o.type) hr e1 (QO hb.1) hg;cases hp:Nat.ble (pos+1) s.size with
     |true=>
      simp only[hp,cond_true,QA,QD]at ho;obtain⟨rfl,rfl⟩:=ho;obtain⟨w',r1,r2⟩:=n1 (QS hp);refine WT.val ⟨σ,w',_,r1,?_,r2⟩;refine .tuple rfl fun k c d hc hd=> ?_;rw[hc]at hd;cases hd;match k with
      |0=>simp at hc;subst hc;exact .bool _
      |1=>simp at hc;subst hc;exact .int _ _
      |2=>simp at hc;subst hc;exact .int _ _
      |k+3=>simp at hc
     |false=>
      simp only[hp,QU,QA,QD]at ho;obtain⟨rfl,rfl⟩:=ho;have r1:=n2 (fun aL=>by
       have:Nat.ble (pos+1) s.size=true:=QH aL;rw[this]at hp;cases hp)
      refine WT.val ⟨σ,w,_,r1,?_,.refl hr⟩;refine .tuple rfl fun k c d hc hd=> ?_;rw[hc]at hd;cases hd;match k with
      |0=>simp at hc;subst hc;exact .bool _
      |k+1=>simp at hc
    ·cases ho
  ·cases ho
 |_=>simp[hq]at hc
end
def At(b:Frame)(a:Act)(todo:List Item):Frame:={fn:=b.fn,tmps:=a.tmps,todo,defers:=a.defers,mode:= .run,kind:=b.kind,roundOf:=b.roundOf}
def DRel(P:Program)(σ:Nat->Option Pl)(d d':Deferred):Prop:=
 match d.target with
 | .fn (.func f) cap=>∃ cK,d'.target=.fn (.func f) cK/\WW σ cap.toList cK.toList/\WW σ d.args.toList d'.args.toList
 | .builtin .clear ts ty cs=>∃ t kt e,ts=#[t]/\P.underlying t=some (.map kt e)/\d'.target=.builtin .clear #[t] ty cs/\WW σ d.args.toList d'.args.toList
 | .collected g=>∃ pl,σ g=some pl/\d'.target=.collected pl.b
 |_=>False
def BS(P:Program)(σ:Nat->Option Pl):List Deferred->List Deferred->Prop
 |[],[]=>True
 |d::l,d'::l'=>DRel P σ d d'/\BS P σ l l'
 |_,_=>False
def RRel(σ:Nat->Option Pl)(r r':Option Nat):Prop:=
 match r with
 |none=>r'=none
 |some l=>∃ pl,σ l=some pl/\r'=some pl.b
structure W5(P:Program)(σ:Nat->Option Pl)(nt:Nat)(fr:WR)(a:Act)(b:Frame):Prop where
 size:nt<=a.tmps.size
 tm:∀ k,WI σ (zC fr.tm k) (a.tmps.getD k Go.undef)
 dfs:BS P σ fr.dfs a.defers
 round:RRel σ fr.round b.roundOf
def Arr(P:Program)(m:Machine)(b:Frame)(k:List Item)(cs:List Frame):WP->Act->World->Prop
 | .normal,a,w=>Steps P m (lone (At b a k) cs w)
 | .exit id,a,w=>∃ k1,exitTo id k1=exitTo id k/\Steps P m (lone (At b a (.code (.exit id)::k1)) cs w)
 | .goto l,a,w=>∃ k1,gotoIn l k1=gotoIn l k/\Steps P m (lone (At b a (.code (.goto l)::k1)) cs w)
 | .ret,a,w=>∃ k1,Steps P m (lone (At b a (.code .ret::k1)) cs w)
def zPv(kind:CallKind)(cs:List Frame):Prop:=kind=.normal\/kind=.deferred/\∀ (c:Frame) (rest:List Frame),cs=c::rest->∀ ch,c.mode≠ .panicking ch
def zBM(b:Frame)(cs:List Frame):Prop:=zPv b.kind cs
def yQ(P:Program)(ex:Ex):Prop:=∀ (nt:Nat) (c:Code) (ac:WY),zEJ P nt c ac->∀ (fr:WR) (h:WA) (e:WP) (af:WR) (h':WA),ex.exec ac fr h=some (e,af,h')->
 ∀ (B:Nat) (σ:Nat->Option Pl) (w:World),Wg P B σ h w->∀ (a:Act) (b:Frame),W5 P σ nt fr a b->
  ∃ σ' w' a',W0 P B σ h w σ' h' w'/\W5 P σ' nt af a' b/\af.round=fr.round/\∀ (k:List Item) (cs:List Frame),zBM b cs->Arr P (lone (At b a (.code c::k)) cs w) b k cs e a' w'
structure Bs(P:Program)(f:FuncId)(kind:CallKind)(fr:Frame)(cv:Value)(w:World):Prop where
 mode:fr.mode=.returning
 defers:fr.defers=[]
 kind:fr.kind=kind
 fn:fr.fn=f
 results:∃ fn,P.funcs[f]?=some fn/\(results fn fr.tmps).run P w=.ok cv w
def yO(P:Program)(ex:Ex):Prop:=∀ (f:FuncId) (args:List Value) (h:WA) (v:Value) (h':WA),ex.call f args h=some (v,h')->
 (∀ (as:Array Value) (w:World),(callFunc f as).run P w=.ok (.enter f as) w)/\
 ∀ (B:Nat) (σ:Nat->Option Pl) (w:World),Wg P B σ h w->∀ (as:Array Value),WW σ args as.toList->∀ (kind:CallKind),kind=.normal\/kind=.deferred->
  ∃ σ' w' cv,W0 P B σ h w σ' h' w'/\WI σ' v cv/\∀ cs:List Frame,zPv kind cs->∃ af,Steps P (lone (Frame.enter P f as kind) cs w) (lone af cs w')/\Bs P f kind af cv w'
theorem DRel.mono{P:Program}{σ σ':Nat->Option Pl}(hs:Le σ σ'){d d':Deferred}(h:DRel P σ d d'):DRel P σ' d d':=by
 unfold DRel at *;split at h
 ·obtain⟨cK,h1,h2,h3⟩:=h;exact⟨cK,h1,h2.mono hs,h3.mono hs⟩
 ·obtain⟨t,kt,e,h1,h2,h3,h4⟩:=h;exact⟨t,kt,e,h1,h2,h3,h4.mono hs⟩
 ·obtain⟨pl,h1,h2⟩:=h;exact⟨pl,hs _ _ h1,h2⟩
 ·exact h.elim
theorem BS.mono{P:Program}{σ σ':Nat->Option Pl}(hs:Le σ σ'):∀ {l l':List Deferred},BS P σ l l'->BS P σ' l l'
 |[],[],_=>trivial
 |_::_,_::_,h=>⟨h.1.mono hs,h.2.mono hs⟩
theorem RRel.mono{σ σ':Nat->Option Pl}(hs:Le σ σ'){r r':Option Nat}(h:RRel σ r r'):RRel σ' r r':=by
 cases r with
 |none=>exact h
 |some l=>obtain⟨pl,h1,h2⟩:=h;exact⟨pl,hs _ _ h1,h2⟩
theorem W5.mono{P:Program}{σ σ':Nat->Option Pl}{nt:Nat}{fr:WR}{a:Act}{b:Frame}(hs:Le σ σ')(h:W5 P σ nt fr a b):W5 P σ' nt fr a b:=
 ⟨h.size,fun k=>(h.tm k).mono hs,h.dfs.mono hs,h.round.mono hs⟩
theorem zHj(tm:Array Value)(d k:Nat)(v:Value)(hd:d<tm.size):(tm.setIfInBounds d v).getD k Go.undef=if k=d then v else tm.getD k Go.undef:=by
 simp only[GA,Ga];by_cases hk:k=d
 ·subst hk;simp[hd]
 ·rw[QC (by omega),QC hk]
theorem W5.val{P:Program}{σ:Nat->Option Pl}{nt:Nat}{fr:WR}{a:Act}{b:Frame}(h:W5 P σ nt fr a b){d:Option Nat}(hd:∀ k,d=some k->k<nt){v v':Value}(hv:WI σ v v'):W5 P σ nt (val d fr v) (a.put d v') b:=by
 cases d with
 |none=>exact h
 |some d=>
  have aL:d<a.tmps.size:=QI (hd d rfl) h.size;refine⟨by simpa [Act.put]using h.size,fun k=> ?_,h.dfs,h.round⟩;simp only[Am.val,Act.put];rw[zb,zHj _ _ _ _ aL];split
  ·exact hv
  ·exact h.tm k
theorem zG6(b:Frame)(a:Act)(todo:List Item):(At b a todo).eval=a.eval:=by
 funext x;cases x<;>rfl
theorem Yd(b:Frame)(a:Act)(ops:Array Oper)(i:Nat)(rest:List Nat)(k:List Item)(v:Value):
  (At b a (.inRegion ops (i::rest)::k)).finish v=At b (a.put ((ops[i]?).bind (·.dst)) v) (.inRegion ops rest::k):=by
 cases h:(ops[i]?).bind (·.dst)<;>simp[Frame.finish,At,Act.put,h]
section
variable {P:Program}{b:Frame}{a:Act}{k:List Item}{cs:List Frame}{w:World}
theorem zAp{ops:Array Oper}{i:Nat}{rest:List Nat}{o:Oper}(ho:ops[i]?=some o)(hw:Region.wanted o (yielded ops a.tmps)=true)(hd:∀ c,o.op=.defer c->b.roundOf=none):
  stepG P true {frame:=At b a (.inRegion ops (i::rest)::k),callers:=cs,status:= .running,dying:=none} w=
   stepG.apply P true (At b a (.inRegion ops (i::rest)::k)) cs none (execOp a.eval o) w:=by
 have he:=zG6 b a (.inRegion ops (i::rest)::k);simp only[At]at he;simp only[stepG,stepG.exec,stepG.oper,Frame.oper?,At,ho,hw,he,QJ,GB,Q6];split
 ·rename_i l c h1 h2;rw[hd c h2]at h1;cases h1
 ·rfl
theorem zIx{ops:Array Oper}{i:Nat}{rest:List Nat}(h:((ops[i]?).map (Region.wanted · (yielded ops a.tmps))).getD false=false):
  step P (lone (At b a (.inRegion ops (i::rest)::k)) cs w)=.next (lone (At b (a.put ((ops[i]?).bind (·.dst)) Go.undef) (.inRegion ops rest::k)) cs w):=by
 rw[<-Yd];exact step_lone_go (by
  have h':=h;simp only[At]at *;simp[stepG,stepG.exec,h'])
theorem zCZ{ops:Array Oper}{i:Nat}{rest:List Nat}{o:Oper}{v:Value}{w':World}(ho:ops[i]?=some o)(hw:Region.wanted o (yielded ops a.tmps)=true)(hd:∀ c,o.op=.defer c->b.roundOf=none)
  (hr:(execOp a.eval o).run P w=.ok (.value v) w'):step P (lone (At b a (.inRegion ops (i::rest)::k)) cs w)=.next (lone (At b (a.put o.dst v) (.inRegion ops rest::k)) cs w'):=by
 have bF:=Yd b a ops i rest k v;rw[ho]at bF;simp only[Qb]at bF;refine step_lone_go ?_;rw[zAp ho hw hd,<-bF];simp[stepG.apply,hr]
theorem zL2{ops:Array Oper}{i:Nat}{rest:List Nat}{o:Oper}{w':World}(ho:ops[i]?=some o)(hw:Region.wanted o (yielded ops a.tmps)=true)(hd:∀ c,o.op=.defer c->b.roundOf=none)
  (hr:(execOp a.eval o).run P w=.ok .skip w'):step P (lone (At b a (.inRegion ops (i::rest)::k)) cs w)=.next (lone (At b (a.put o.dst Go.undef) (.inRegion ops rest::k)) cs w'):=by
 have bF:=Yd b a ops i rest k Go.undef;rw[ho]at bF;simp only[Qb]at bF;refine step_lone_go ?_;rw[zAp ho hw hd,<-bF];simp[stepG.apply,hr]
theorem zDo{ops:Array Oper}{i:Nat}{rest:List Nat}{o:Oper}{d:Deferred}{w':World}(ho:ops[i]?=some o)(hw:Region.wanted o (yielded ops a.tmps)=true)(hd:∀ c,o.op=.defer c->b.roundOf=none)
  (hr:(execOp a.eval o).run P w=.ok (.defer d) w'):step P (lone (At b a (.inRegion ops (i::rest)::k)) cs w)=.next (lone (At b ({a with defers:=d::a.defers}.put o.dst Go.undef) (.inRegion ops rest::k)) cs w'):=by
 have bF:=Yd b {a with defers:=d::a.defers} ops i rest k Go.undef;rw[ho]at bF;simp only[Qb]at bF;refine step_lone_go ?_;rw[zAp ho hw hd,<-bF];simp only[stepG.apply,Sem.runT_eq,hr,GStep.bare_after];rfl
theorem zEC{fr:Frame}(hc:zBM fr cs):tryRecover fr cs=none:=by
 rcases hc with hk|⟨hk,hm⟩
 ·unfold tryRecover;simp[hk]
 ·unfold tryRecover;simp only[hk];cases cs with
  |nil=>rfl
  |cons c rest=>
   have:=hm c rest rfl;simp only;split
   ·rename_i h;exact absurd h (this _)
   ·rfl
theorem zGc{ops:Array Oper}{i:Nat}{rest:List Nat}{o:Oper}{w':World}(ho:ops[i]?=some o)(hw:Region.wanted o (yielded ops a.tmps)=true)(hd:∀ c,o.op=.defer c->b.roundOf=none)
  (hr:(execOp a.eval o).run P w=.ok .recover w') (hb:b.roundOf=none) (hc:zBM b cs):step P (lone (At b a (.inRegion ops (i::rest)::k)) cs w)=.next (lone (At b (a.put o.dst .nilIface) (.inRegion ops rest::k)) cs w'):=by
 have bF:=Yd b a ops i rest k .nilIface;rw[ho]at bF;simp only[Qb]at bF;refine step_lone_go ?_;rw[zAp ho hw hd,<-bF];have ht:tryRecover (At b a (.inRegion ops (i::rest)::k)) cs=none:=zEC hc;have MR:(At b a (.inRegion ops (i::rest)::k)).roundOf=none:=hb;simp[stepG.apply,hr,MR,ht]
def zCf(P:Program):Next->Option Frame
 | .enter f args=>some (Frame.enter P f args .normal)
 | .round l f tmps assign body=>some (Frame.round l f tmps assign body .normal)
 |_=>none
theorem zF1{ops:Array Oper}{i:Nat}{rest:List Nat}{o:Oper}{nx:Next}{cF:Frame}{w':World}(ho:ops[i]?=some o)(hw:Region.wanted o (yielded ops a.tmps)=true)(hd:∀ c,o.op=.defer c->b.roundOf=none)
  (hr:(execOp a.eval o).run P w=.ok nx w') (hf:zCf P nx=some cF):
  step P (lone (At b a (.inRegion ops (i::rest)::k)) cs w)=.next (lone cF (At b a (.inRegion ops (i::rest)::k)::cs) w'):=by
 refine step_lone_go ?_;rw[zAp ho hw hd];cases nx<;>simp only[zCf,QA]at hf<;>try (cases hf;done)
 all_goals
  subst hf
  simp[stepG.apply,hr,At]
end
section
variable {P:Program}{b:Frame}{a:Act}{k:List Item}{cs:List Frame}{w:World}
theorem zPX:step P (lone (At b a (.code .skip::k)) cs w)=.next (lone (At b a k) cs w):=step_lone_go (by simp[stepG,stepG.exec,At])
theorem zML{l:Nat}:step P (lone (At b a (.code (.label l)::k)) cs w)=.next (lone (At b a k) cs w):=step_lone_go (by simp[stepG,stepG.exec,At])
theorem zIw{id:Nat}:step P (lone (At b a (.inBlock id::k)) cs w)=.next (lone (At b a k) cs w):=step_lone_go (by simp[stepG,stepG.exec,At])
theorem zJK{c:Code}:step P (lone (At b a (.inScope c::k)) cs w)=.next (lone (At b a k) cs w):=step_lone_go (by simp[stepG,stepG.exec,At])
theorem zNz{x y:Code}:step P (lone (At b a (.code (.seq x y)::k)) cs w)=.next (lone (At b a (.code x:: .code y::k)) cs w):=step_lone_go (by simp[stepG,stepG.exec,At])
theorem zKJ{c:Operand}{x y:Code}{t:Bool}(h:a.eval c=.bool t):
  step P (lone (At b a (.code (.cond c x y)::k)) cs w)=.next (lone (At b a (.code (if t then x else y)::k)) cs w):=
 step_lone_go (by
  have he:=zG6 b a (.code (.cond c x y)::k);have:=congrFun he c;simp only[At]at this;simp[stepG,stepG.exec,At,this,h])
theorem zM0{id:Nat}{c:Code}:step P (lone (At b a (.code (.block id c)::k)) cs w)=.next (lone (At b a (.code c:: .inBlock id::k)) cs w):=step_lone_go (by simp[stepG,stepG.exec,At])
theorem zG7{c:Code}:step P (lone (At b a (.code (.loop c)::k)) cs w)=.next (lone (At b a (.code c:: .inLoop c::k)) cs w):=step_lone_go (by simp[stepG,stepG.exec,At])
theorem zKv{c:Code}:step P (lone (At b a (.inLoop c::k)) cs w)=.next (lone (At b a (.code c:: .inLoop c::k)) cs w):=step_lone_go (by simp[stepG,stepG.exec,At])
theorem zMs{c:Code}:step P (lone (At b a (.code (.scope c)::k)) cs w)=.next (lone (At b a (.code c:: .inScope c::k)) cs w):=step_lone_go (by simp[stepG,stepG.exec,At])
theorem zPU{id:Nat}{k':List Item}(h:exitTo id k=some k'):step P (lone (At b a (.code (.exit id)::k)) cs w)=.next (lone (At b a k') cs w):=step_lone_go (by simp[stepG,stepG.exec,At,h])
theorem zOZ{l:Nat}{k':List Item}(h:gotoIn l k=some k'):step P (lone (At b a (.code (.goto l)::k)) cs w)=.next (lone (At b a k') cs w):=step_lone_go (by simp[stepG,stepG.exec,At,h])
theorem zLB{id:Nat}{ops:Array Oper}:step P (lone (At b a (.code (.region id ops false)::k)) cs w)=.next (lone (At b a (.inRegion ops (List.range ops.size)::k)) cs w):=step_lone_go (by simp[stepG,stepG.exec,At])
theorem zEn{id:Nat}{ops:Array Oper}:step P (lone (At b a (.code (.region id ops true)::k)) cs w)=
  .next (lone (At b a (.inRegion ops (Region.schedule (P.follows .mixedOrders) ops (w.tape w.drawn (.order b.fn id)))::k)) cs {w with drawn:=w.drawn+1}):=
 step_lone_go (by simp[stepG,stepG.exec,At,choose,Sem.run,Question.forced,Question.cut])
theorem zB9{ops:Array Oper}:step P (lone (At b a (.inRegion ops []::k)) cs w)=.next (lone (At b a k) cs w):=step_lone_go (by simp[stepG,stepG.exec,At])
theorem zQK(hr:b.roundOf=none):step P (lone (At b a (.code .ret::k)) cs w)=.next (lone {At b a (.code .ret::k)with mode:= .returning} cs w):=step_lone_go (by simp[stepG,stepG.exec,At,hr])
theorem zP7(hr:b.roundOf=none):step P (lone (At b a []) cs w)=.next (lone {At b a []with mode:= .returning} cs w):=step_lone_go (by simp[stepG,stepG.exec,At,hr])
theorem zMT{l:Nat}{w':World}(hr:b.roundOf=some l)(hb:(Instr.beginRound l).run P w=.ok () w'):step P (lone (At b a (.beginRound::k)) cs w)=.next (lone (At b a k) cs w'):=by
 refine step_lone_go ?_;simp only[stepG,stepG.exec,At,hr,Option.elim];simp[stepG.apply,hb,Frame.finish]
theorem zG3{l:Nat}{c:Frame}{w':World}{v:Value}(hr:b.roundOf=some l)(hk:b.kind=.normal)(he:(Instr.endRound l none).run P w=.ok v w'):
  step P (lone (At b a []) (c::cs) w)=.next (lone (c.finish v) cs w'):=by
 refine step_lone_go ?_;simp[stepG,stepG.exec,At,hr,Sem.runT_eq,he,doReturn,hk]
theorem zGT{l:Nat}{c:Frame}{w':World}{v:Value}(hr:b.roundOf=some l)(hk:b.kind=.normal)(he:(Instr.endRound l (some .ret)).run P w=.ok v w'):
  step P (lone (At b a (.code .ret::k)) (c::cs) w)=.next (lone (c.finish v) cs w'):=by
 refine step_lone_go ?_;simp[stepG,stepG.exec,At,hr,Sem.runT_eq,he,doReturn,hk]
theorem zFY{l id:Nat}{c:Frame}{w':World}{v:Value}(hr:b.roundOf=some l)(hk:b.kind=.normal)(hx:exitTo id k=none)(he:(Instr.endRound l (some (.exit id))).run P w=.ok v w'):
  step P (lone (At b a (.code (.exit id)::k)) (c::cs) w)=.next (lone (c.finish v) cs w'):=by
 refine step_lone_go ?_;simp[stepG,stepG.exec,At,hr,hx,Sem.runT_eq,he,doReturn,hk]
theorem zFe{l g:Nat}{c:Frame}{w':World}{v:Value}(hr:b.roundOf=some l)(hk:b.kind=.normal)(hx:gotoIn g k=none)(he:(Instr.endRound l (some (.goto g))).run P w=.ok v w'):
  step P (lone (At b a (.code (.goto g)::k)) (c::cs) w)=.next (lone (c.finish v) cs w'):=by
 refine step_lone_go ?_;simp[stepG,stepG.exec,At,hr,hx,Sem.runT_eq,he,doReturn,hk]
theorem zCF{f:FuncId}{fr c:Frame}{v:Value}(h:Bs P f .normal fr v w):step P (lone fr (c::cs) w)=.next (lone (c.finish v) cs w):=by
 obtain⟨hm,hd,hk,rfl,fn,hf,hr⟩:=h;exact step_lone_go (by simp[stepG,unwind,doReturn,hm,hd,hk,hf,hr])
theorem zD8{f:FuncId}{fr c:Frame}{v:Value}(h:Bs P f .deferred fr v w)(hc:c.mode=.returning):step P (lone fr (c::cs) w)=.next (lone c cs w):=by
 obtain⟨hm,hd,hk,rfl,fn,hf,hr⟩:=h;refine step_lone_go ?_;simp only[stepG,unwind,doReturn,hm,hd,hk,hf,Sem.runT_eq,hr,GStep.bare_after,GStep.bare_go,hc]
end
section
variable {P:Program}{B:Nat}{σ:Nat->Option Pl}{h:WA}{w:World}
theorem zAk(hr:Wg P B σ h w){l:Nat}{r:W4}(hl:h.get l=some (.loop r)):∃ pl r',σ l=some pl/\w.heap[pl.b]?=some (.loop r')/\Bq P σ r r':=by
 obtain⟨pl,h1,⟨r',h2,h3⟩,_⟩:=hr.live _ _ hl;exact⟨pl,r',h1,h2,h3⟩
theorem zFN(hr:Wg P B σ h w){l:Nat}{r r2:W4}{vE:Loop}(hl:h.get l=some (.loop r)){pl:Pl}(hp:σ l=some pl)(lM:Bq P σ r2 vE):
  W0 P B σ h w σ (h.set l (.loop r2)) {w with heap:=w.heap.setIfInBounds pl.b (.loop vE)}:=by
 have aL:pl.b<w.heap.size:=(hr.lt _ _ hp).2;refine hr.put (O':= .loop vE) hl rfl rfl hp ⟨by simp,by simp[aL],fun b aq=> ?_⟩ ⟨rfl,rfl,rfl⟩ ⟨vE,by simp[aL],lM⟩ (fun g2 o2 cQ _ _ _ _ k=>by cases o2<;>exact k.elim);simp only[Ga];rw[QC (by omega)]
theorem zKl:∀ {ps:List Nat} {vs kD:List Value} {t:WG Value} {tm:Array Value},(∀ p∈ps,p<tm.size)->ps.length=vs.length->WW σ vs kD->(∀ k,WI σ (zC t k) (tm.getD k Go.undef))->
  (∀ k,WI σ (zC (zD1 ps vs t) k) (((ps.zip kD).foldl (fun tm (t,a)=>tm.setIfInBounds t a) tm).getD k Go.undef))/\((ps.zip kD).foldl (fun tm (t,a)=>tm.setIfInBounds t a) tm).size=tm.size:=by
 intro ps;induction ps with
 |nil=>intro vs kD t tm _ _ _ ht;cases vs<;>exact⟨ht,rfl⟩
 |cons p ps ih=>
  intro vs kD t tm hp hlen hl ht;match vs,kD,hl with
  |[],_,_=>simp at hlen
  |v::vs,[],hl=>have:=hl.1;simp at this
  |v::vs,v'::kD,hl=>
   have hv:=hl.2 0 v v' rfl rfl;have w7:WW σ vs kD:=⟨by simpa using hl.1,fun i a b h1 h2=>hl.2 (i+1) a b (by simpa using h1) (by simpa using h2)⟩;have lJ:p<tm.size:=hp p (Qj ..);obtain⟨a1,a2⟩:=ih (t:=t.set p v) (tm:=tm.setIfInBounds p v') (fun q hq=>by simpa using hp q (Qu _ hq)) (by simpa using hlen) w7 (fun k=>by
    rw[zb,zHj _ _ _ _ lJ];split
    ·exact hv
    ·exact ht k)
   exact⟨a1,by rw[List.zip_cons_cons,List.foldl_cons,a2];simp⟩
def zOB:WP->Option Code
 | .normal=>none
 | .ret=>some .ret
 | .exit id=>some (.exit id)
 | .goto g=>some (.goto g)
theorem zHJ{l:Nat}{r:W4}{e:WP}{v:Value}{h':WA}(hr:Wg P B σ h w)(hl:h.get l=some (.loop r)){pl:Pl}(hp:σ l=some pl)(he:Z7 l r h e=(v,h')):
  ∃ w' b,v=.bool b/\W0 P B σ h w σ h' w'/\(Instr.endRound pl.b (zOB e)).run P w=.ok (.bool b) w':=by
 obtain⟨Cv,r',k1,k2,k3⟩:=zAk hr hl;rw[hp]at k1;cases k1;have key:∀ (st:LoopState) (pn:Option WY) (sc:LoopState) (Ed:Option Code),sc=st->zKS pn Ed->
   W0 P B σ h w σ (h.set l (.loop {r with state:=st,pending:=pn})) (w.putObj pl.b (.loop {r' with state:=sc,pending:=Ed})):=
  fun st pn sc Ed h1 h2=>zFN hr hl hp ⟨h1,h2,k3.tm,k3.params,k3.code,k3.defers⟩
 have bN:=run_endRound (P:=P) (zOB e) k2;cases e with
 |normal=>
  simp only[Z7,QD]at he;obtain⟨rfl,rfl⟩:=he;exact⟨_,true,rfl,key .ready none _ none rfl trivial,bN⟩
 |ret=>
  simp only[Z7,QD]at he;obtain⟨rfl,rfl⟩:=he;exact⟨_,false,rfl,key .done (some .ret) _ (some .ret) rfl trivial,bN⟩
 |exit id=>
  simp only[Z7,QD]at he;obtain⟨rfl,rfl⟩:=he;exact⟨_,false,rfl,key .done (some (.exit id)) _ (some (.exit id)) rfl rfl,bN⟩
 |goto g=>
  simp only[Z7,QD]at he;obtain⟨rfl,rfl⟩:=he;exact⟨_,false,rfl,key .done (some (.goto g)) _ (some (.goto g)) rfl rfl,bN⟩
theorem zIN{ih:Ex}(hex:yQ P ih)(hr:Wg P B σ h w){l:Nat}{pl:Pl}(hp:σ l=some pl){r:W4}{r':Loop}(hb:w.heap[pl.b]?=some (.loop r'))(fP:h.get l=some (.loop r))(k3:Bq P σ r r')
  {args cw:List Value} (hl:WW σ args cw) (hlen:args.length=r.params.length) {v:Value} {h':WA} (hc:zDf ih l r args h=some (v,h')):
  ∃ σ' w' cv,W0 P B σ h w σ' h' w'/\WI σ' v cv/\∀ (c:Frame) (cs:List Frame),
   Steps P (lone (Frame.round pl.b r'.fn ((r'.params.zip cw.toArray).foldl (fun tmps (t,a)=>tmps.setIfInBounds t a) r'.tmps) r'.assign r'.body .normal) (c::cs) w) (lone (c.finish cv) cs w'):=by
 obtain⟨nt,c1,c2,c3,c4⟩:=k3.code;have cf:=zKl (tm:=r'.tmps) (t:=r.tm) (fun p f9=>QI (c2 p f9) c1) hlen.symm hl k3.tm;rw[<-k3.params]at cf;have MS:((r'.params.zip cw.toArray).foldl (fun tmps (t,a)=>tmps.setIfInBounds t a) r'.tmps)=((r'.params.toList.zip cw).foldl (fun tm (t,a)=>tm.setIfInBounds t a) r'.tmps):=by
  rw[<-Array.foldl_toList];simp
 rw[MS];generalize((r'.params.toList.zip cw).foldl (fun tm (t,a)=>tm.setIfInBounds t a) r'.tmps)=tm at cf;unfold zDf at hc;rw[<-k3.params]at hc;split at hc
 ·rename_i bB h1 se;split at hc
  ·rename_i r1 eD;have aX:r1.state=.ready:=by
    cases hs:r1.state<;>first|rfl|(rw[hs]at hc;cases hc)
   rw[aX]at hc;dsimp only[cond_true]at hc;split at hc
   ·rename_i e lr h2 sh;split at hc
    ·rename_i r2 J3 df;cases iM:Z7 l r2 h2 e with
     |mk v0 h0=>
     rw[iM]at hc;cases hc;let b:Frame:={(default:Frame)with fn:=r'.fn,kind:= .normal,roundOf:=some pl.b}
     have hF:W5 P σ nt ⟨zD1 r'.params.toList args r.tm,[],some l⟩ {tmps:=tm,defers:=[]} b:=
      ⟨by rw[cf.2];exact c1,cf.1,trivial,⟨pl,hp,rfl⟩⟩
     obtain⟨σ1,w1,a1,fu,lN,MT,Ee⟩:=hex nt r'.assign r.assign c3 _ h _ _ _ se B σ w hr _ b hF;obtain⟨MA,MU,m1,m2,m3⟩:=zAk fu.rel eD;have jx:=fu.le _ _ hp;rw[jx]at m1;cases m1;have sk:=run_beginRound (P:=P) m2 (by rw[m3.state,aX]);have eE:=zFN (r2:={r1 with state:= .busy}) (vE:={MU with state:= .busy}) fu.rel eD jx ⟨rfl,m3.pending,m3.tm,m3.params,m3.code,m3.defers⟩;obtain⟨σ3,w3,a3,Ef,hF3,MV,Eg⟩:=hex nt r'.body r.body c4 _ _ _ _ _ sh B σ1 _ eE.rel _ b lN;have J4:=Ef.le _ _ jx;obtain⟨w4,bv,rfl,Eh,bN⟩:=zHJ Ef.rel df J4 iM;refine⟨σ3,w4,.bool bv,((fu.trans eE).trans Ef).trans Eh,.bool bv,fun c cs=> ?_⟩;have s1:=Ee [.beginRound,.code r'.body] (c::cs) (.inl rfl);have s2:=Eg [] (c::cs) (.inl rfl);refine Steps.trans s1 (.trans (.one (zMT rfl sk)) ?_);cases e with
     |normal=>exact Steps.trans s2 (.one (zG3 rfl rfl bN))
     |ret=>obtain⟨k1,s2⟩:=s2;exact Steps.trans s2 (.one (zGT rfl rfl bN))
     |exit id=>obtain⟨k1,hx,s2⟩:=s2;exact Steps.trans s2 (.one (zFY rfl rfl hx bN))
     |goto g=>obtain⟨k1,hx,s2⟩:=s2;exact Steps.trans s2 (.one (zFe rfl rfl hx bN))
    ·cases hc
   ·cases hc
  ·cases hc
 ·cases hc
theorem zDg{ih:Ex}(hex:yQ P ih)(aD:yO P ih)(hr:Wg P B σ h w){f f':Value}{args cw:List Value}{v:Value}{h':WA}(hf:WI σ f f')(hl:WW σ args cw)
  (hc:zBZ ih f args h=some (v,h')):
  ∃ nx cF σ' w' cv,((do let d <-Deferred.ofValue f' cw.toArray;invoke d.target d.args):Sem Next).run P w=.ok nx w/\zCf P nx=some cF/\W0 P B σ h w σ' h' w'/\WI σ' v cv/\
   ∀ (c:Frame) (cs:List Frame),Steps P (lone cF (c::cs) w) (lone (c.finish cv) cs w'):=by
 unfold zBZ at hc;split at hc
 ·rename_i fi first cap
  obtain⟨h1,h2⟩:=aD _ _ _ _ _ hc;cases hf with
  |func _ ha oU ra rc=>
   rename_i dg cK
   have df:WW σ (first.toList++args++cap.toList) (dg.toList++cw++cK.toList):=
    (WW.append ⟨by simpa using ha,fun i x y hx hy=>ra i x y (by simpa using hx) (by simpa using hy)⟩ hl).append ⟨by simpa using oU,fun i x y hx hy=>rc i x y (by simpa using hx) (by simpa using hy)⟩
   obtain⟨σ',w',cv,e1,e2,e3⟩:=h2 B σ w hr (dg++cw.toArray++cK) (by simpa using df) .normal (.inl rfl);refine⟨.enter fi (dg++cw.toArray++cK),_,σ',w',cv,?_,rfl,e1,e2,fun c cs=> ?_⟩
   ·simp[Deferred.ofValue,invoke,h1]
   ·obtain⟨af,e4,e5⟩:=e3 (c::cs) (.inl rfl);exact e4.trans (.one (zCF e5))
 ·rename_i l first cap
  split at hc
  ·rename_i r fP;cases hlen:Nat.beq args.length r.params.length with
   |false=>simp[hlen]at hc
   |true=>
   simp only[hlen,cond_true]at hc;have hlen:=QO hlen;cases hf with
   |yield hp=>
    rename_i pl;obtain⟨Cv,r',k1,k2,k3⟩:=zAk hr fP;rw[hp]at k1;cases k1;obtain⟨σ',w',cv,e1,e2,e3⟩:=zIN hex hr hp k2 fP k3 hl hlen hc;have hsz:cw.toArray.size=r'.params.size:=by
     have:=congrArg List.length k3.params;simp only[Array.length_toList]at this;simp[<-hl.1,hlen,this]
    refine⟨.round pl.b r'.fn ((r'.params.zip cw.toArray).foldl (fun tmps (t,a)=>tmps.setIfInBounds t a) r'.tmps) r'.assign r'.body,_,σ',w',cv,?_,rfl,e1,e2,e3⟩;have:=run_yield (P:=P) k2 hsz;simp only[Gc]at hsz;simp[Deferred.ofValue,invoke,this]
  ·cases hc
 ·cases hc
end
section
variable {P:Program}{B:Nat}{σ:Nat->Option Pl}{h:WA}{w:World}
theorem zCK{nt:Nat}{ops:Array Oper}{o:Oper}{ao:WF}(hc:zDL P nt ops o=some ao):
  (∀ d,o.dst=some d->d<nt)/\ao.dst=o.dst/\ao.op=(B9 P o).getD .stuck/\
   ((o.guard=none/\ao.guard=none)\/∃ j want s,o.guard=some (j,want)/\(ops[j]?).bind (·.dst)=some s/\ao.guard=some (s,want)):=by
 have key:∀ (x:Option WF),x=(match o.guard with
   |none=>some ⟨o.dst,none,(B9 P o).getD .stuck⟩
   |some (j,want)=>match(ops[j]?).bind (·.dst)with
    |some s=>some ⟨o.dst,some (s,want),(B9 P o).getD .stuck⟩
    |none=>none)->x=some ao->ao.dst=o.dst/\ao.op=(B9 P o).getD .stuck/\
   ((o.guard=none/\ao.guard=none)\/∃ j want s,o.guard=some (j,want)/\(ops[j]?).bind (·.dst)=some s/\ao.guard=some (s,want)):=by
  intro x hx vG;subst vG;cases hg:o.guard with
  |none=>
   rw[hg]at hx;cases hx;exact⟨rfl,rfl,.inl ⟨rfl,rfl⟩⟩
  |some p=>
   obtain⟨j,want⟩:=p;rw[hg]at hx;cases hs:(ops[j]?).bind (·.dst)with
   |none=>simp only[hs]at hx;cases hx
   |some s=>
    simp only[hs]at hx;cases hx;exact⟨rfl,rfl,.inr ⟨j,want,s,rfl,hs,rfl⟩⟩
 unfold zDL at hc;cases hd:o.dst with
 |none=>
  simp only[hd,cond_true]at hc;have k:=key _ (by first|(rw[hd];done)|(rw[hd];rfl)) hc;rw[hd]at k;exact⟨(fun d e=>by cases e),k⟩
 |some d=>
  cases hl:Nat.ble (d+1) nt with
  |false=>simp[hd,hl]at hc
  |true=>
   simp only[hd,hl,cond_true]at hc;have k:=key _ (by first|(rw[hd];done)|(rw[hd];rfl)) hc;rw[hd]at k;exact⟨fun d' e=>by cases e;exact QS hl,k⟩
theorem zGQ{nt:Nat}{ops:Array Oper}{o:Oper}{ao:WF}(hc:zDL P nt ops o=some ao){t:WG Value}{a:Act}(ht:∀ k,WI σ (zC t k) (a.tmps.getD k Go.undef)):
  Region.wanted o (yielded ops a.tmps)=zV t ao.guard:=by
 obtain⟨_,_,_,hg⟩:=zCK hc;unfold Region.wanted zV;rcases hg with⟨h1,h2⟩|⟨j,want,s,h1,h2,h3⟩
 ·rw[h1,h2]
 ·rw[h1,h3];have hv:=ht s;simp only[yielded,h2,Qb];rw[GA]at hv;generalize zC t s=x at hv;cases hx:a.tmps[s]? with
  |none=>
   rw[hx]at hv;simp only[Gu,Go.undef]at hv;cases hv;simp
  |some y=>
   rw[hx]at hv;simp only[GB]at hv;cases hv<;>simp
def zC1:Wx->Bool
 | .call .. | .dfr .. | .dfrClear .. | .invoke .. | .recover=>true
 |_=>false
theorem zP4{o:Oper}{op:Wx}(hc:B9 P o=some op):∀ x∈o.op.operands.toList,Zq P x=true:=by
 unfold B9 at hc;cases a8:zCP P o.op.operands.toList with
 |false=>simp[a8]at hc
 |true=>exact fun x hx=>QX.1 a8 x hx
theorem zE8{b:Builtin}{args:List Operand}{ts:List TypeId}{op:Wx}(hc:zAH P b args ts=some op):zC1 op=false:=by
 unfold zAH at hc;simp only[GI]at hc;repeat' split at hc
 all_goals first
  |(cases hc;done)
  |(cases hc;rfl)
  |(simp only[QQ]at hc;obtain⟨_,_,rfl⟩:=hc;rfl)
theorem zED{b:Builtin}{args:List Operand}{ts:List TypeId}{op:Wx}(hc:Y6 P b args ts=some op):(b=.recover/\args=[]/\op=.recover)\/zC1 op=false:=by
 unfold Y6 at hc;split at hc
 ·cases hc;exact .inr rfl
 ·cases hc;exact .inr rfl
 ·cases hc;exact .inr rfl
 ·cases hc;exact .inl ⟨rfl,rfl,rfl⟩
 ·exact .inr (zE8 hc)
theorem zNU{o:Oper}{op:Wx}(hc:B9 P o=some op)(hk:zC1 op=true):(∃ c,o.op=.call c)\/∃ c,o.op=.defer c:=by
 unfold B9 at hc;cases a8:zCP P o.op.operands.toList with
 |false=>simp[a8]at hc
 |true=>
  simp only[a8,QW,QU]at hc;clear a8;cases hq:o.op with
  |call c=>exact .inl ⟨c,rfl⟩
  |defer c=>exact .inr ⟨c,rfl⟩
  |_=>
   exfalso;try simp only[hq,GI]at hc
   repeat' split at hc
   all_goals first
    |(cases hc;done)
    |(cases hc;cases hk;done)
    |(simp only[QQ]at hc;obtain⟨_,_,rfl⟩:=hc;cases hk;done)
    |(simp_all;done)
theorem zHe{o:Oper}{op:Wx}{c:Call}(hc:B9 P o=some op)(hq:o.op=.call c):(∃ f,c.callee=.value f/\op=.call f c.args.toList)\/(∃ x n,c.callee=.invoke x n/\op=.invoke x n c.args.toList)\/(c.callee=.builtin .recover/\c.args.toList=[]/\op=.recover)\/zC1 op=false:=by
 unfold B9 at hc;cases a8:zCP P o.op.operands.toList with
 |false=>simp[a8]at hc
 |true=>
  simp only[a8,QW,QU]at hc;clear a8;simp only[hq]at hc;split at hc
  ·rename_i f hf;rcases zCG (P:=P) f c.args.toList with q|⟨g,x,rt,_,_,_,_,q⟩
   ·rw[q]at hc;cases hc;exact .inl ⟨f,hf,rfl⟩
   ·rw[q]at hc;cases hc;exact .inr (.inr (.inr rfl))
  ·rename_i b hb;rcases zED hc with⟨rfl,q1,q2⟩|q
   ·exact .inr (.inr (.inl ⟨hb,q1,q2⟩))
   ·exact .inr (.inr (.inr q))
  ·rename_i x n hx;cases hc;exact .inr (.inl ⟨x,n,hx,rfl⟩)
theorem zA4{o:Oper}{op:Wx}{c:Call}(hc:B9 P o=some op)(hq:o.op=.defer c):
  (∃ f,c.callee=.value f/\op=.dfr f c.args.toList)\/
  (∃ m t kt e,c.callee=.builtin .clear/\c.args=#[m]/\c.argTypes=#[t]/\P.underlying t=some (.map kt e)/\op=.dfrClear t o.type (c.args.map fun| .const _=>true|_=>false) m):=by
 unfold B9 at hc;cases a8:zCP P o.op.operands.toList with
 |false=>simp[a8]at hc
 |true=>
  simp only[a8,QW,QU]at hc;clear a8;simp only[hq]at hc;split at hc
  ·rename_i f hf;cases hc;exact .inl ⟨f,hf,rfl⟩
  ·rename_i a7;split at hc
   ·rename_i m t hm ht;split at hc
    ·rename_i kt e hu;cases hc;exact .inr ⟨m,t,kt,e,a7,by rw[<-Gw (xs:=c.args),hm],by rw[<-Gw (xs:=c.argTypes),ht],hu,rfl⟩
    ·cases hc
   ·cases hc
  ·cases hc
theorem zAV{ih:Ex}(hex:yQ P ih)(aD:yO P ih){nt:Nat}{ops:Array Oper}{i:Nat}{o:Oper}{ao:WF}(ho:ops[i]?=some o)(hc:zDL P nt ops o=some ao)
  (hr:Wg P B σ h w) {fr af:WR} {a:Act} {b:Frame} (hF:W5 P σ nt fr a b) {h':WA} (hx:yU P ih ao fr h=some (af,h')):
  ∃ σ' w' a',W0 P B σ h w σ' h' w'/\W5 P σ' nt af a' b/\af.round=fr.round/\
   ∀ (rest:List Nat) (k:List Item) (cs:List Frame),zBM b cs->Steps P (lone (At b a (.inRegion ops (i::rest)::k)) cs w) (lone (At b a' (.inRegion ops rest::k)) cs w'):=by
 obtain⟨s1,s2,s3,_⟩:=zCK hc;have hw:=zGQ hc hF.tm;unfold yU at hx;cases vH:zV fr.tm ao.guard with
 |false=>
  simp only[vH,QU,QA,QD]at hx;obtain⟨rfl,rfl⟩:=hx;refine⟨σ,w,a.put o.dst Go.undef,.refl hr,?_,?_,fun rest k cs aY=> ?_⟩
  ·rw[s2];exact hF.val s1 (WI.undef σ)
  ·cases ao.dst<;>rfl
  ·have:=zIx (P:=P) (b:=b) (a:=a) (k:=k) (cs:=cs) (w:=w) (ops:=ops) (i:=i) (rest:=rest) (by rw[ho];simp[hw,vH]);rw[ho]at this;exact .one this
 |true=>
  simp only[vH,cond_true]at hx;rw[vH]at hw;cases hv:yP P ih fr.tm fr.round h ao.op with
  |none=>simp[hv]at hx
  |some r=>
  obtain⟨v,ds,h1⟩:=r;simp only[hv,QA,QD]at hx;obtain⟨rfl,rfl⟩:=hx;have fO:(val ao.dst {fr with dfs:=ds++fr.dfs} v).round=fr.round:=by cases ao.dst<;>rfl
  cases dO:B9 P o with
  |none=>
   rw[dO,Gu]at s3;rw[s3]at hv;simp[yP,WN]at hv
  |some op=>
  rw[dO,GB]at s3;subst s3;have a8:=zP4 dO;have E:∀ x∈o.op.operands.toList,WI σ (ev fr.tm x) (a.eval x):=fun x hx=>zAb hr hF.tm (a8 x hx);have fin:∀ {σ' w' cv},W0 P B σ h w σ' h1 w'->WI σ' v cv->ds=[]->
    (∀ (rest:List Nat) (k:List Item) (cs:List Frame),zBM b cs->Steps P (lone (At b a (.inRegion ops (i::rest)::k)) cs w) (lone (At b (a.put o.dst cv) (.inRegion ops rest::k)) cs w'))->
    ∃ σ' w' a',W0 P B σ h w σ' h1 w'/\W5 P σ' nt (val ao.dst {fr with dfs:=ds++fr.dfs} v) a' b/\(val ao.dst {fr with dfs:=ds++fr.dfs} v).round=fr.round/\
     ∀ (rest:List Nat) (k:List Item) (cs:List Frame),zBM b cs->Steps P (lone (At b a (.inRegion ops (i::rest)::k)) cs w) (lone (At b a' (.inRegion ops rest::k)) cs w'):=by
   intro σ' w' cv e1 e2 e3 e4;subst e3;exact⟨σ',w',a.put o.dst cv,e1,by rw[s2];exact(hF.mono e1.le).val s1 e2,fO,e4⟩
  cases bh:zC1 ao.op with
  |false=>
   have hnd:∀ c,o.op=.defer c->b.roundOf=none:=fun c hq=>by
    rcases zA4 dO hq with⟨f,_,e⟩|⟨m,t,kt,e',_,_,_,_,e⟩<;>rw[e]at bh<;>cases bh
   have MW:∃ v0,WN P ih fr.tm h ao.op=some (v,v0)/\h1=v0/\ds=[]:=by
    unfold yP at hv;split at hv
    ·rename_i e;rw[e]at bh;cases bh
    ·rename_i e;rw[e]at bh;cases bh
    ·rename_i e;rw[e]at bh;cases bh
    ·cases hx:WN P ih fr.tm h ao.op with
     |none=>simp[hx]at hv
     |some p=>
      obtain⟨v0,h0⟩:=p;simp only[hx,QA,QD]at hv;obtain⟨rfl,rfl,rfl⟩:=hv;exact⟨_,rfl,rfl,rfl⟩
   obtain⟨v0,vI,rfl,qH⟩:=MW;obtain⟨σ',w',Ei,iO⟩:=zPf hr hF.tm dO ⟨(fun f args e=>by rw[e]at bh;cases bh),(fun x n args e=>by rw[e]at bh;cases bh)⟩ vI;rcases Ei with⟨cv,h2,h3⟩|⟨h2,h3⟩
   ·exact fin iO h3 qH fun rest k cs aY=> .one (zCZ ho hw hnd h2)
   ·subst h3;exact fin iO (WI.undef _) qH fun rest k cs aY=> .one (zL2 ho hw hnd h2)
  |true=>
   rcases zNU dO bh with⟨c,hq⟩|⟨c,hq⟩
   ·rcases zHe dO hq with⟨f,hf,he⟩|⟨x,name,hf,he⟩|⟨hf,hargs,he⟩|he
    ·have hnd:∀ c,o.op=.defer c->b.roundOf=none:=fun c' cE=>by rw[hq]at cE;cases cE
     rw[he]at hv;simp only[yP,WN]at hv;have gN:∀ x,x=f\/x∈c.args->x∈o.op.operands.toList:=fun x hx=>by
      rw[hq];simp only[Op.operands,Call.operands,hf];rcases hx with rfl|hx<;>simp[*]
     cases so:zBZ ih (ev fr.tm f) (c.args.toList.map (ev fr.tm)) h with
     |none=>simp[so]at hv
     |some p=>
      obtain⟨v0,h0⟩:=p;simp only[so,QA,QD]at hv;obtain⟨rfl,rfl,rfl⟩:=hv;have hargs:WW σ (c.args.toList.map (ev fr.tm)) (c.args.toList.map a.eval):=
       zBC hr hF.tm fun x hx=>a8 x (gN x (.inr (by simpa using hx)))
      obtain⟨nx,cF,σ',w',cv,r1,r2,r3,r4,r5⟩:=zDg hex aD hr (E f (gN f (.inl rfl))) hargs so;refine fin r3 r4 rfl fun rest k cs aY=> ?_;have aV:(execOp a.eval o).run P w=.ok nx w:=by
       have:(c.args.toList.map a.eval).toArray=c.args.map a.eval:=by rw[<-Array.toList_map,Gw]
       rw[this]at r1;simp only[execOp,hq,resolve,hf];exact r1
      have:=r5 (At b a (.inRegion ops (i::rest)::k)) cs;rw[Yd,ho]at this;exact Steps.trans (.one (zF1 ho hw hnd aV r2)) this
    ·have hnd:∀ c,o.op=.defer c->b.roundOf=none:=fun c' cE=>by rw[hq]at cE;cases cE
     rw[he]at hv;simp only[yP]at hv;have gN:∀ y,y=x\/y∈c.args->y∈o.op.operands.toList:=fun y hy=>by
      rw[hq];simp only[Op.operands,Call.operands,hf];rcases hy with rfl|hy<;>simp[*]
     have hargs:WW σ (c.args.toList.map (ev fr.tm)) (c.args.toList.map a.eval):=
      zBC hr hF.tm fun y hy=>a8 y (gN y (.inr (by simpa using hy)))
     have e1:=E x (gN x (.inl rfl));have xe:∀ {R:Result Next},(callMethod (a.eval x) name (c.args.map a.eval)).run P w=R->(execOp a.eval o).run P w=R:=by
      intro R hR;simp only[execOp,hq,resolve,hf,Sem.run_bind,Sem.run_pure,Result.andThen_ok,invoke];have h1:((#[a.eval x]++c.args.map a.eval:Array Value)[0]?:Option Value)=some (a.eval x):=by
       rw[Array.getElem?_append_left (by simp)];rfl
      have h2:(#[a.eval x]++c.args.map a.eval:Array Value).extract 1 (#[a.eval x]++c.args.map a.eval:Array Value).size=c.args.map a.eval:=by
       apply JF;rw[Array.toList_extract];simp;exact Q7 (by simp)
      rw[h1,h2];exact hR
     cases fR:WN P ih fr.tm h (.invoke x name c.args.toList)with
     |none=>simp[fR]at hv
     |some p=>
      obtain⟨v0,h0⟩:=p;simp only[fR,QA,QD]at hv;obtain⟨rfl,rfl,rfl⟩:=hv;simp only[WN]at fR;unfold zAw at fR;split at fR
      ·rename_i ty u cL;split at fR
       ·rename_i f MX;obtain⟨k1,k2⟩:=aD _ _ _ _ _ fR;rw[cL]at e1;obtain⟨u',rY,MY⟩:∃ u',a.eval x=.iface ty u'/\WI σ u u':=by
         generalize a.eval x=q at e1;cases e1 with
         |iface _ q=>exact⟨_,rfl,q⟩
        obtain⟨σ',w',cv,r1,r2,r3⟩:=k2 B σ w hr (#[u']++c.args.map a.eval) (by simpa using WW.cons MY hargs) .normal (.inl rfl);refine fin r1 r2 rfl fun rest k cs aY=> ?_;have lC:∃ n,P.types.size+Made.depth=n+1:=⟨P.types.size+Made.depth-1,by have:0<Made.depth:=(by decide);omega⟩;obtain⟨n,hn⟩:=lC;have nC:=zD2 (w:=w) MX u' n;rw[<-hn]at nC;have aV:(execOp a.eval o).run P w=.ok (.enter f (#[u']++c.args.map a.eval)) w:=by
         refine xe ?_;rw[rY];simp only[callMethod,program,Sem.run_bind,Sem.run,Result.andThen,nC];exact k1 _ w
        obtain⟨af,e4,e5⟩:=r3 (At b a (.inRegion ops (i::rest)::k)::cs) (.inl rfl);have hs:=zCF (cs:=cs) (c:=At b a (.inRegion ops (i::rest)::k)) e5;rw[Yd,ho]at hs;exact Steps.trans (.one (zF1 ho hw hnd aV rfl)) (Steps.trans e4 (.one hs))
       ·cases fR
      ·rename_i u MZ;split at fR
       ·rename_i G rt ty kB;generalize xg:(name == "Comparable"&&(List.map (ev fr.tm) c.args.toList).isEmpty)=cn at fR;cases cn with
        |false=>cases fR
        |true=>
        simp only[cond_true,QQ,QD]at fR;obtain⟨bv,hb,rfl,rfl⟩:=fR;simp only[QN,beq_iff_eq]at xg;obtain⟨rfl,Ej⟩:=xg;have sq:c.args=#[]:=by simpa using Ej
        have fS:a.eval x=.iface rt (.agg #[.pointer (some ⟨G,ty,none⟩)]):=by
         clear MZ;generalize ev fr.tm x=q at e1 kB;generalize a.eval x=y at e1;cases e1<;>simp only[zGv,reduceCtorEq]at kB;simp only[QA,QD]at kB;obtain⟨rfl,rfl,rfl⟩:=kB;rfl
        refine fin (.refl hr) (.bool bv) rfl fun rest k cs aY=> .one (zCZ ho hw hnd (xe ?_));rw[fS];exact zET hb _ (by simp[sq])
       ·cases fR
    ·have hnd:∀ c,o.op=.defer c->b.roundOf=none:=fun c' cE=>by rw[hq]at cE;cases cE
     rw[he]at hv;simp only[yP]at hv;split at hv
     ·rename_i lO;simp only[QA,QD]at hv;obtain⟨rfl,rfl,rfl⟩:=hv;have nF:b.roundOf=none:=by have:=hF.round;rw[lO]at this;exact this
      have aV:(execOp a.eval o).run P w=.ok .recover w:=by
       simp only[execOp,hq,resolve,hf,Sem.run_bind,Sem.run_pure,Result.andThen_ok,invoke,builtin]
      exact fin (.refl hr) .nilIface rfl fun rest k cs aY=> .one (zGc ho hw hnd aV nF aY)
     ·cases hv
    ·rw[he]at bh;cases bh
   ·have M0:∀ d eS:Deferred,True:=fun _ _=>trivial;rcases zA4 dO hq with⟨f,hf,he⟩|⟨m,t,kt,e,hf,hargs,pe,hu,he⟩
    ·rw[he]at hv;simp only[yP]at hv;split at hv
     ·rename_i fi first cap lO Na
      simp only[QA,QD]at hv;obtain⟨rfl,rfl,rfl⟩:=hv;have nF:b.roundOf=none:=by have:=hF.round;rw[lO]at this;exact this
      have gN:∀ x,x=f\/x∈c.args->x∈o.op.operands.toList:=fun x hx=>by
       rw[hq];simp only[Op.operands,Call.operands,hf];rcases hx with rfl|hx<;>simp[*]
      have hargs:WW σ (c.args.toList.map (ev fr.tm)) (c.args.toList.map a.eval):=
       zBC hr hF.tm fun x hx=>a8 x (gN x (.inr (by simpa using hx)))
      have lP:=E f (gN f (.inl rfl));rw[Na]at lP;cases Ek:a.eval f with
      |func gE dg cK=>
       rw[Ek]at lP;cases lP with
       |func _ ha oU ra rc=>
       have aV:(execOp a.eval o).run P w=.ok (.defer {target:= .fn (.func fi) cK,args:=dg++c.args.map a.eval}) w:=by
        simp only[execOp,hq,resolve,hf,Ek];simp[Deferred.ofValue]
       refine⟨σ,w,_,.refl hr,?_,fO,fun rest k cs aY=> .one (zDo ho hw (fun c _=>nF) aV)⟩;rw[s2];have hd0:DRel P σ {target:= .fn (.func fi) cap,args:=first++(c.args.toList.map (ev fr.tm)).toArray} {target:= .fn (.func fi) cK,args:=dg++c.args.map a.eval}:= ?_;exact W5.val (fr:={fr with dfs:=_::fr.dfs}) (a:={a with defers:=_::a.defers}) ⟨hF.size,hF.tm,And.intro hd0 hF.dfs,hF.round⟩ s1 (WI.undef σ);refine⟨cK,rfl,⟨by simpa using oU,fun i x y hx hy=>rc i x y (by simpa using hx) (by simpa using hy)⟩,?_⟩;have:=WW.append (σ:=σ) (a:=first.toList) (a':=dg.toList) ⟨by simpa using ha,fun i x y hx hy=>ra i x y (by simpa using hx) (by simpa using hy)⟩ hargs;simpa using this
      |_=>rw[Ek]at lP;cases lP
     ·cases hv
    ·rw[he]at hv;simp only[yP]at hv;split at hv
     ·rename_i g lO Nb;simp only[QA,QD]at hv;obtain⟨rfl,rfl,rfl⟩:=hv;have nF:b.roundOf=none:=by have:=hF.round;rw[lO]at this;exact this
      have nC:=E m (by rw[hq];simp[Op.operands,Call.operands,hargs,hf]);rw[Nb]at nC;have aV:(execOp a.eval o).run P w=.ok (.defer {target:= .builtin .clear #[t] o.type (c.args.map fun| .const _=>true|_=>false),args:=#[a.eval m]}) w:=by
       simp only[execOp,hq,resolve,hf,pe];simp[hargs];cases m<;>rfl
      refine⟨σ,w,_,.refl hr,?_,fO,fun rest k cs aY=> .one (zDo ho hw (fun c _=>nF) aV)⟩;rw[s2];have hd0:DRel P σ {target:= .builtin .clear #[t] o.type (c.args.map fun| .const _=>true|_=>false),args:=#[.map (some g)]}
        {target:= .builtin .clear #[t] o.type (c.args.map fun| .const _=>true|_=>false),args:=#[a.eval m]}:=⟨t,kt,e,rfl,hu,rfl,WW.cons nC (WW.nil _)⟩
      exact W5.val (fr:={fr with dfs:=_::fr.dfs}) (a:={a with defers:=_::a.defers}) ⟨hF.size,hF.tm,And.intro hd0 hF.dfs,hF.round⟩ s1 (WI.undef σ)
     ·cases hv
end
theorem Vf{P:Program}{m m1 m2:Machine}(h:Steps P m m2)(aq:m≠m2)(hs:step P m=.next m1):Steps P m1 m2:=by
 obtain⟨n,hn⟩:=h;cases n with
 |zero=>simp[runN]at hn;exact absurd hn aq
 |succ n=>exact⟨n,by simpa [runN,hs]using hn⟩
section
variable {P:Program}{B:Nat}{σ:Nat->Option Pl}{h:WA}{w:World}
theorem zGb{ih:Ex}(hex:yQ P ih)(aD:yO P ih){nt:Nat}{ops:Array Oper}{b:Frame}:∀ (l:List Oper) (j:Nat) (as:List WF) {σ:Nat->Option Pl} {h:WA} {w:World} {fr af:WR} {a:Act} {h':WA},
  (∀ i o,l[i]?=some o->ops[j+i]?=some o)->Yf P nt ops l=some as->Wg P B σ h w->W5 P σ nt fr a b->ZA P ih as fr h=some (af,h')->
  ∃ σ' w' a',W0 P B σ h w σ' h' w'/\W5 P σ' nt af a' b/\af.round=fr.round/\
   ∀ (k:List Item) (cs:List Frame),zBM b cs->Steps P (lone (At b a (.inRegion ops (List.range' j l.length)::k)) cs w) (lone (At b a' (.inRegion ops []::k)) cs w'):=by
 intro l;induction l with
 |nil=>
  intro j as σ h w fr af a h' _ hc hr hF hx;simp only[Yf,QA]at hc;subst hc;simp only[ZA,QA,QD]at hx;obtain⟨rfl,rfl⟩:=hx;exact⟨σ,w,a,.refl hr,hF,rfl,fun k cs aY=>Steps.refl P _⟩
 |cons o l cI=>
  intro j as σ h w fr af a h' hl hc hr hF hx;simp only[Yf]at hc;cases h1:zDL P nt ops o with
  |none=>simp[h1]at hc
  |some ao=>
  cases h2:Yf P nt ops l with
  |none=>simp[h1,h2]at hc
  |some J5=>
  simp only[h1,h2,QA]at hc;subst hc;simp only[ZA]at hx;cases h3:yU P ih ao fr h with
  |none=>simp[h3]at hx
  |some p=>
  obtain⟨bB,qI⟩:=p;simp only[h3]at hx;obtain⟨σ1,w1,a1,e1,F1,eU,bL⟩:=zAV hex aD (i:=j) (by simpa using hl 0 o rfl) h1 hr hF h3;obtain⟨σ2,w2,a2,e2,F2,kE,bC⟩:=cI (j+1) J5 (fun i o' hi=>by have:=hl (i+1) o' (by simpa using hi);rw[<-this];congr 1;omega) h2 e1.rel F1 hx;refine⟨σ2,w2,a2,e1.trans e2,F2,kE.trans eU,fun k cs aY=> ?_⟩;rw[GF,List.range'_succ];exact Steps.trans (bL _ k cs aY) (bC k cs aY)
theorem zHH{ih:Ex}(hex:yQ P ih)(aD:yO P ih){nt id:Nat}{ops:Array Oper}{b:Frame}{as:List WF}{fr af:WR}{a:Act}{h':WA}
  (hc:Yf P nt ops ops.toList=some as) (hr:Wg P B σ h w) (hF:W5 P σ nt fr a b) (hx:ZA P ih as fr h=some (af,h')):
  ∃ σ' w' a',W0 P B σ h w σ' h' w'/\W5 P σ' nt af a' b/\af.round=fr.round/\
   ∀ (k:List Item) (cs:List Frame),zBM b cs->Steps P (lone (At b a (.code (.region id ops false)::k)) cs w) (lone (At b a' k) cs w'):=by
 obtain⟨σ1,w1,a1,e1,F1,eU,bL⟩:=zGb hex aD ops.toList 0 as (fun i o hi=>by simpa using hi) hc hr hF hx;refine⟨σ1,w1,a1,e1,F1,eU,fun k cs aY=> ?_⟩;refine Steps.trans (.one zLB) (.trans ?_ (.one (zB9 (ops:=ops))));have:=bL k cs aY;rw[<-List.range_eq_range']at this;simpa using this
theorem zB5{nt:Nat}:∀ {c:Code} {ac:WY} {l:Nat},yK P nt c=some ac->
  (findLabel c l=none/\yW ac l=none)\/∃ r r',findLabel c l=some r/\yW ac l=some r'/\yK P nt r=some r':=by
 intro c;induction c with
 |seq x y Nc Nd=>
  intro ac l hc;simp only[yK]at hc;cases h1:yK P nt x with
  |none=>simp[h1]at hc
  |some ax=>
  cases h2:yK P nt y with
  |none=>simp[h1,h2]at hc
  |some ay=>
  simp only[h1,h2,QA]at hc;subst hc;simp only[findLabel,yW];rcases Nc (l:=l) h1 with⟨a1,a2⟩|⟨r,r',a1,a2,a3⟩
  ·rw[a1,a2];exact Nd (l:=l) h2
  ·rw[a1,a2];exact .inr ⟨_,_,rfl,rfl,by simp[yK,a3,h2]⟩
 |label l'=>
  intro ac l hc;simp only[yK,QA]at hc;subst hc;simp only[findLabel,yW];by_cases e:l' == l
  ·simp only[e,Q6];exact .inr ⟨_,_,rfl,rfl,rfl⟩
  ·simp only[e];exact .inl ⟨rfl,rfl⟩
 |_=>
  intro ac l hc;refine .inl ⟨rfl,?_⟩;simp only[yK,GI]at hc;repeat' split at hc
  all_goals first
   |(cases hc;done)
   |(cases hc;rfl)
   |(simp only[QQ]at hc;obtain⟨_,_,rfl⟩:=hc;rfl)
   |(simp only[zGH,GI]at hc;split at hc<;>cases hc;rfl)
theorem VW{m m1:Machine}{b:Frame}{k:List Item}{cs:List Frame}{e:WP}{a:Act}{w:World}(hs:Steps P m m1)(h:Arr P m1 b k cs e a w):Arr P m b k cs e a w:=by
 cases e with
 |normal=>exact Steps.trans hs h
 |ret=>obtain⟨k1,h⟩:=h;exact⟨k1,Steps.trans hs h⟩
 |exit id=>obtain⟨k1,h1,h2⟩:=h;exact⟨k1,h1,Steps.trans hs h2⟩
 |goto l=>obtain⟨k1,h1,h2⟩:=h;exact⟨k1,h1,Steps.trans hs h2⟩
def zFQ(P:Program)(B:Nat)(σ:Nat->Option Pl)(h:WA)(w:World)(nt:Nat)(c:Code)(fr:WR)(a:Act)(b:Frame)(e:WP)(af:WR)(h':WA):Prop:=
 ∃ σ' w' a',W0 P B σ h w σ' h' w'/\W5 P σ' nt af a' b/\af.round=fr.round/\∀ (k:List Item) (cs:List Frame),zBM b cs->Arr P (lone (At b a (.code c::k)) cs w) b k cs e a' w'
theorem zH8{ih:Ex}(hex:yQ P ih){nt:Nat}{c0:Code}{CB:WY}(aW:yK P nt c0=some CB){b:Frame}:∀ (n:Nat) {c:Code} {ac:WY} {σ:Nat->Option Pl} {h:WA} {w:World} {fr af:WR} {a:Act} {e:WP} {h':WA},
  yK P nt c=some ac->Wg P B σ h w->W5 P σ nt fr a b->Ya ih n CB ac fr h=some (e,af,h')->
  ∃ σ' w' a',W0 P B σ h w σ' h' w'/\W5 P σ' nt af a' b/\af.round=fr.round/\∀ (k:List Item) (cs:List Frame),zBM b cs->Arr P (lone (At b a (.code c:: .inScope c0::k)) cs w) b k cs e a' w':=by
 intro n;induction n with
 |zero=>intro c ac σ h w fr af a e h' _ _ _ hx;simp[Ya]at hx
 |succ n nG=>
  intro c ac σ h w fr af a e h' hc hr hF hx;simp only[Ya]at hx;have leave:∀ {e0 cF h0},ih.exec ac fr h=some (e0,cF,h0)->(∀ l,e0=.goto l->yW CB l=none)->
    ∃ σ' w' a',W0 P B σ h w σ' h0 w'/\W5 P σ' nt cF a' b/\cF.round=fr.round/\∀ (k:List Item) (cs:List Frame),zBM b cs->Arr P (lone (At b a (.code c:: .inScope c0::k)) cs w) b k cs e0 a' w':=by
   intro e0 cF h0 cL bW;obtain⟨σ1,w1,a1,e1,F1,eU,bL⟩:=hex nt c ac hc fr h e0 cF h0 cL B σ w hr a b hF;refine⟨σ1,w1,a1,e1,F1,eU,fun k cs aY=> ?_⟩;have:=bL (.inScope c0::k) cs aY;cases e0 with
   |normal=>exact Steps.trans this (.one zJK)
   |ret=>exact this
   |exit id=>obtain⟨k1,h1,h2⟩:=this;exact⟨k1,h1,h2⟩
   |goto l=>
    obtain⟨k1,h1,h2⟩:=this;have hn:findLabel c0 l=none:=by
     rcases zB5 (l:=l) aW with⟨q,_⟩|⟨r,r',_,q,_⟩
     ·exact q
     ·rw[bW l rfl]at q;cases q
    exact⟨k1,by rw[h1];simp[gotoIn,hn],h2⟩
  cases cL:ih.exec ac fr h with
  |none=>simp[cL]at hx
  |some p=>
  obtain⟨e0,cF,h0⟩:=p;rw[cL]at hx;cases e0 with
  |goto l=>
   simp only at hx;cases cG:yW CB l with
   |none=>
    simp only[cG,QA,QD]at hx;obtain⟨rfl,rfl,rfl⟩:=hx;exact leave cL fun l' e=>by cases e;exact cG
   |some rest=>
    simp only[cG]at hx;rcases zB5 (l:=l) aW with⟨_,q⟩|⟨r,r',q1,q2,q3⟩
    ·rw[cG]at q;cases q
    ·rw[cG]at q2;cases q2;obtain⟨σ1,w1,a1,e1,F1,eU,bL⟩:=hex nt c ac hc fr h _ cF h0 cL B σ w hr a b hF;obtain⟨σ2,w2,a2,e2,F2,kE,bC⟩:=nG q3 e1.rel F1 hx;refine⟨σ2,w2,a2,e1.trans e2,F2,kE.trans eU,fun k cs aY=> ?_⟩;obtain⟨k1,h1,h2⟩:=bL (.inScope c0::k) cs aY;have hg:gotoIn l k1=some (.code r:: .inScope c0::k):=by rw[h1];simp[gotoIn,q1]
     exact VW (Steps.trans h2 (.one (zOZ hg))) (bC k cs aY)
  |normal=>
   simp only[QA,QD]at hx;obtain⟨rfl,rfl,rfl⟩:=hx;exact leave cL fun l e=>by cases e
  |ret=>
   simp only[QA,QD]at hx;obtain⟨rfl,rfl,rfl⟩:=hx;exact leave cL fun l e=>by cases e
  |exit id=>
   simp only[QA,QD]at hx;obtain⟨rfl,rfl,rfl⟩:=hx;exact leave cL fun l e=>by cases e
theorem zJe{f:Operand}{params:Array Tmp}{assign body:Code}{b:Frame}{a:Act}{k:List Item}{cs:List Frame}{l:Nat}{mark:List Deferred}{w' vg:World}{nx:Next}{cF:Frame}
  (he:(Instr.enterLoop b.fn a.tmps params assign body b.roundOf).run P w=.ok (l,mark) w')
  (hr:((do let d <-Deferred.ofValue (a.eval f) #[.func (.yield l) #[] #[]];invoke d.target d.args):Sem Next).run P w'=.ok nx vg) (hf:zCf P nx=some cF):
  step P (lone (At b a (.code (.rangeFunc f params assign body)::k)) cs w)=.next (lone cF (At b {a with defers:=mark++a.defers} (.inRangeFunc l::k)::cs) vg):=by
 refine step_lone_go ?_;have dW:=congrFun (zG6 b {a with defers:=mark++a.defers} (.inRangeFunc l::k)) f;simp only[At]at dW;have El:(At b {a with defers:=mark++a.defers} (.inRangeFunc l::k)).eval f=a.eval f:=dW;have hargs:(#[Operand.const (.func (.yield l) #[] #[])].map (At b {a with defers:=mark++a.defers} (.inRangeFunc l::k)).eval)=#[.func (.yield l) #[] #[]]:=by simp[Frame.eval]
 have aV:((do let d <-resolve (At b {a with defers:=mark++a.defers} (.inRangeFunc l::k)).eval {callee:= .value f,args:=#[.const (.func (.yield l) #[] #[])],argTypes:=#[]} 0;invoke d.target d.args):Sem Next).run P w'=.ok nx vg:=by
  simp only[resolve,El,hargs];exact hr
 simp only[stepG,stepG.exec,At,Sem.runT_eq,he,GStep.bare_after]at aV |-;cases nx<;>simp only[zCf,QA]at hf<;>try (cases hf;done)
 all_goals
  subst hf
  simp[stepG.apply,aV]
theorem zH9{b:Frame}{a:Act}{k:List Item}{cs:List Frame}{l:Nat}{w':World}{jump:Option Code}(he:(Instr.endLoop l).run P w=.ok jump w'):
  step P (lone (At b a (.endRangeFunc l::k)) cs w)=.next (lone (At b a ((jump.map Item.code).toList++k)) cs w'):=by
 refine step_lone_go ?_;simp[stepG,stepG.exec,At,Sem.runT_eq,he]
end
section
variable {P:Program}{B:Nat}{σ:Nat->Option Pl}{h:WA}{w:World}
theorem BS.append{l l' m m':List Deferred}(hl:BS P σ l l')(hm:BS P σ m m'):BS P σ (l++m) (l'++m'):=by
 induction l generalizing l' with
 |nil=>cases l' with
  |nil=>exact hm
  |cons _ _=>exact hl.elim
 |cons d l ih=>cases l' with
  |nil=>exact hl.elim
  |cons d' l'=>exact⟨hl.1,ih hl.2⟩
theorem zCp{ih:Ex}(hex:yQ P ih)(aD:yO P ih){nt:Nat}{f:Operand}{params:Array Tmp}{assign body:Code}{aA aB:WY}{b:Frame}{fr af:WR}{a:Act}{e:WP}{h':WA}
  (CC:yK P nt assign=some aA) (CD:yK P nt body=some aB) (fH:∀ p∈params.toList,p<nt) (a8:Zq P f=true) (hr:Wg P B σ h w) (hF:W5 P σ nt fr a b)
  {d:Nat} {pd:Pl} (hd:σ d=some pd) {mark dX:List Deferred} (hm:BS P σ mark dX)
  {w0:World} {l:Nat} (hl:l=w.heap.size) (fJ:(Instr.enterLoop b.fn a.tmps params assign body b.roundOf).run P w0=.ok (l,dX) (w.alloc (.loop {state:= .ready,pending:=none,fn:=b.fn,tmps:=a.tmps,params,assign,body,defers:=pd.b})))
  (hx:zA0 ih (ev fr.tm f) params.toList aA aB fr d mark h=some (e,af,h')):
  ∃ σ' w' a',W0 P B σ h w σ' h' w'/\W5 P σ' nt af a' b/\af.round=fr.round/\∀ (k:List Item) (cs:List Frame),zBM b cs->Arr P (lone (At b a (.code (.rangeFunc f params assign body)::k)) cs w0) b k cs e a' w':=by
 subst hl;unfold zA0 at hx;have ab:=yR σ h.n ⟨w.heap.size,0,0⟩;have hle:=zBx hr ⟨w.heap.size,0,0⟩;have dY:=World.alloc_heap_new w (.loop {state:= .ready,pending:=none,fn:=b.fn,tmps:=a.tmps,params,assign,body,defers:=pd.b});have qJ:(w.alloc (.loop {state:= .ready,pending:=none,fn:=b.fn,tmps:=a.tmps,params,assign,body,defers:=pd.b})).heap=w.heap.push (.loop {state:= .ready,pending:=none,fn:=b.fn,tmps:=a.tmps,params,assign,body,defers:=pd.b}):=rfl;have qK:(w.alloc (.loop {state:= .ready,pending:=none,fn:=b.fn,tmps:=a.tmps,params,assign,body,defers:=pd.b})).os=w.os/\(w.alloc (.loop {state:= .ready,pending:=none,fn:=b.fn,tmps:=a.tmps,params,assign,body,defers:=pd.b})).tape=w.tape/\(w.alloc (.loop {state:= .ready,pending:=none,fn:=b.fn,tmps:=a.tmps,params,assign,body,defers:=pd.b})).output=w.output:=⟨rfl,rfl,rfl⟩;generalize w.alloc (.loop {state:= .ready,pending:=none,fn:=b.fn,tmps:=a.tmps,params,assign,body,defers:=pd.b})=W1 at fJ dY qJ qK;have fu:W0 P B σ h w (Zu σ h.n ⟨w.heap.size,0,0⟩) (h.push (.loop {state:= .ready,pending:=none,fn:=0,tm:=fr.tm,params:=params.toList,assign:=aA,body:=aB,defers:=d}))
   W1:=
  Wg.push hr qJ qK
   ⟨_,dY,⟨rfl,trivial,fun k=>(hF.tm k).mono hle,rfl,⟨nt,hF.size,fH,CC,CD⟩,⟨pd,hle _ _ hd,rfl⟩⟩⟩
 split at hx
 ·cases hx
 ·rename_i v0 h2 so;obtain⟨nx,cF,σ2,w2,cv,r1,r2,r3,r4,r5⟩:=zDg hex aD fu.rel (zAb fu.rel (fun k=>(hF.tm k).mono hle) a8) (WW.cons (WI.yield ab) (WW.nil _)) so;have r1:((do let d <-Deferred.ofValue (a.eval f) #[.func (.yield w.heap.size) #[] #[]];invoke d.target d.args):Sem Next).run P W1=.ok nx W1:=r1;split at hx
  ·rename_i r df;obtain⟨cQ,r',m1,m2,m3⟩:=zAk r3.rel df;have cU:=r3.le _ _ ab;rw[cU]at m1;cases m1;have J6:r.state≠ .busy:=by
    intro hb;rw[hb]at hx;cases hx
   have bN:=run_endLoop (P:=P) m2 (by rw[m3.state];exact J6);have Eh:=zFN (r2:={r with state:= .exhausted}) (vE:={r' with state:= .exhausted}) r3.rel df cU ⟨rfl,m3.pending,m3.tm,m3.params,m3.code,m3.defers⟩;have lQ:=(fu.trans r3).trans Eh;have vJ:W5 P σ2 nt {fr with dfs:=mark++fr.dfs} {a with defers:=dX++a.defers} b:=
    ⟨hF.size,fun k=>(hF.tm k).mono lQ.le,(hm.append hF.dfs).mono lQ.le,hF.round.mono lQ.le⟩
   have steps:∀ (k:List Item) (cs:List Frame),zBM b cs->Steps P (lone (At b a (.code (.rangeFunc f params assign body)::k)) cs w0)
     (lone (At b {a with defers:=dX++a.defers} ((r'.pending.map Item.code).toList++k)) cs (w2.putObj w.heap.size (.loop {r' with state:= .exhausted}))):=fun k cs aY=>by
    have q:=r5 (At b {a with defers:=dX++a.defers} (.inRangeFunc w.heap.size::k)) cs;have bF:(At b {a with defers:=dX++a.defers} (.inRangeFunc w.heap.size::k)).finish cv=At b {a with defers:=dX++a.defers} (.endRangeFunc w.heap.size::k):=rfl;rw[bF]at q;exact Steps.trans (.one (zJe fJ r1 r2)) (.trans q (.one (zH9 bN)))
   have hp:=m3.pending;have fS:(match r.pending with
    |none=>some (WP.normal,({fr with dfs:=mark++fr.dfs}:WR),h2.set h.n (.loop {r with state:= .exhausted}))
    |some .ret=>some (.ret,{fr with dfs:=mark++fr.dfs},h2.set h.n (.loop {r with state:= .exhausted}))
    |some (.exit id)=>some (.exit id,{fr with dfs:=mark++fr.dfs},h2.set h.n (.loop {r with state:= .exhausted}))
    |some (.goto g)=>some (.goto g,{fr with dfs:=mark++fr.dfs},h2.set h.n (.loop {r with state:= .exhausted}))
    |some _=>none)=some (e,af,h'):=by
    cases hs:r.state<;>rw[hs]at hx<;>first|exact hx|exact absurd hs J6
   clear hx;have lQ:W0 P B σ h w σ2 _ (w2.putObj w.heap.size (.loop {r' with state:= .exhausted})):=lQ;generalize w2.putObj w.heap.size (.loop {r' with state:= .exhausted})=W3 at lQ steps;generalize h2.set h.n (.loop {r with state:= .exhausted})=H3 at lQ fS;rcases hq:r.pending with _|c
   ·rw[hq]at fS hp;simp only[QA,QD]at fS;obtain⟨rfl,rfl,rfl⟩:=fS;cases cE:r'.pending with
    |some c=>rw[cE]at hp;exact hp.elim
    |none=>
     rw[cE]at steps;exact⟨σ2,_,_,lQ,vJ,rfl,fun k cs aY=>steps k cs aY⟩
   ·rw[hq]at fS hp;cases cE:r'.pending with
    |none=>rw[cE]at hp;cases c<;>exact hp.elim
    |some c'=>
     rw[cE]at steps hp;cases c with
     |ret=>
      cases c' with
      |ret=>
       simp only[QA,QD]at fS;obtain⟨rfl,rfl,rfl⟩:=fS;exact⟨σ2,_,_,lQ,vJ,rfl,fun k cs aY=>⟨k,steps k cs aY⟩⟩
      |_=>exact hp.elim
     |exit i=>
      cases c' with
      |exit j=>
       simp only[QA,QD]at fS;obtain⟨rfl,rfl,rfl⟩:=fS;have hp:i=j:=hp;subst hp;exact⟨σ2,_,_,lQ,vJ,rfl,fun k cs aY=>⟨k,rfl,steps k cs aY⟩⟩
      |_=>exact hp.elim
     |goto i=>
      cases c' with
      |goto j=>
       simp only[QA,QD]at fS;obtain⟨rfl,rfl,rfl⟩:=fS;have hp:i=j:=hp;subst hp;exact⟨σ2,_,_,lQ,vJ,rfl,fun k cs aY=>⟨k,rfl,steps k cs aY⟩⟩
      |_=>exact hp.elim
     |_=>exact absurd fS (by simp)
  ·cases hx
theorem zGr{ih:Ex}(hex:yQ P ih)(aD:yO P ih){nt:Nat}{f:Operand}{params:Array Tmp}{assign body:Code}{aA aB:WY}{b:Frame}{fr af:WR}{a:Act}{e:WP}{h':WA}
  (CC:yK P nt assign=some aA) (CD:yK P nt body=some aB) (fH:∀ p∈params.toList,p<nt) (a8:Zq P f=true) (hr:Wg P B σ h w) (hF:W5 P σ nt fr a b)
  (hx:zCU ih (ev fr.tm f) params.toList aA aB fr h=some (e,af,h')):zFQ P B σ h w nt (.rangeFunc f params assign body) fr a b e af h':=by
 unfold zCU at hx;have fO:=hF.round;split at hx
 ·rename_i hn;rw[hn]at fO;have nF:b.roundOf=none:=fO;have hle:=zBx hr ⟨w.heap.size,0,0⟩;have ab:=yR σ h.n ⟨w.heap.size,0,0⟩;have J7:W0 P B σ h w (Zu σ h.n ⟨w.heap.size,0,0⟩) (h.push (.deferred (some []))) (w.alloc (.deferred (some []))):=
   Wg.push hr (O:= .deferred (some [])) rfl ⟨rfl,rfl,rfl⟩ ⟨rfl,World.alloc_heap_new w _⟩
  have fJ:=run_enterLoop_outer (P:=P) (w:=w) b.fn a.tmps params assign body;rw[<-nF]at fJ;have hm:BS P (Zu σ h.n ⟨w.heap.size,0,0⟩) [{target:= .collected h.n,args:=#[]}] [{target:= .collected w.heap.size,args:=#[]}]:=⟨⟨_,ab,rfl⟩,trivial⟩;obtain⟨σ',w',a',e1,e2,e3,e4⟩:=zCp hex aD CC CD fH a8 J7.rel (hF.mono hle) ab hm (by simp) fJ hx;exact⟨σ',w',a',J7.trans e1,e2,e3,e4⟩
 ·rename_i l hn;rw[hn]at fO;obtain⟨pl,p1,p2⟩:=fO;split at hx
  ·rename_i r hl;obtain⟨Cv,r',k1,k2,k3⟩:=zAk hr hl;rw[p1]at k1;cases k1;obtain⟨pd,d1,d2⟩:=k3.defers;have fJ:=run_enterLoop_inner (P:=P) k2 b.fn a.tmps params assign body;rw[<-p2,d2]at fJ;exact zCp hex aD CC CD fH a8 hr hF d1 (mark:=[]) (dX:=[]) trivial rfl fJ hx
  ·cases hx
end
def zGN(P:Program)(ih:Ex):Prop:=∀ (nt id:Nat) (ops:Array Oper) (as:List WF) (l:List (WF×List Nat)),Yf P nt ops ops.toList=some as->zGH ops as=some (.regionC l)->
 ∀ (B:Nat) (σ:Nat->Option Pl) (h:WA) (w:World) (fr af:WR) (a:Act) (b:Frame) (h':WA),Wg P B σ h w->W5 P σ nt fr a b->Yo P ih l fr h=some (af,h')->
  ∃ σ' w' a',W0 P B σ h w σ' h' w'/\W5 P σ' nt af a' b/\af.round=fr.round/\
   ∀ (k:List Item) (cs:List Frame),zBM b cs->Steps P (lone (At b a (.code (.region id ops true)::k)) cs w) (lone (At b a' k) cs w')
section
variable {P:Program}{B:Nat}{σ:Nat->Option Pl}{h:WA}{w:World}
theorem zI3{ops:Array Oper}{as:List WF}{c:WY}(hc:zGH ops as=some c):∃ l,c=.regionC l:=by
 unfold zGH at hc;simp only[GI]at hc;split at hc
 ·cases hc;exact⟨_,rfl⟩
 ·cases hc
theorem zH5{ih:Ex}(hex:yQ P ih)(aD:yO P ih)(CF:zGN P ih):yQ P ⟨zv P ih,ih.call⟩:=by
 intro nt c ac hc fr h e af h' hx B σ w hr a b hF;have hc:yK P nt c=some ac:=hc;have hx:zv P ih ac fr h=some (e,af,h'):=hx;have same:∀ {x:WP},(e=x/\af=fr/\h'=h)->(∀ (k:List Item) (cs:List Frame),zBM b cs->Arr P (lone (At b a (.code c::k)) cs w) b k cs x a w)->zFQ P B σ h w nt c fr a b e af h':=by
  rintro x ⟨rfl,rfl,rfl⟩ hs;exact⟨σ,w,a,.refl hr,hF,rfl,hs⟩
 cases c with
 |skip=>
  simp only[yK,QA]at hc;subst hc;simp only[zv,QA,QD]at hx;exact same ⟨hx.1.symm,hx.2.1.symm,hx.2.2.symm⟩ fun k cs aY=> .one zPX
 |label l=>
  simp only[yK,QA]at hc;subst hc;simp only[zv,QA,QD]at hx;exact same ⟨hx.1.symm,hx.2.1.symm,hx.2.2.symm⟩ fun k cs aY=> .one zML
 |exit id=>
  simp only[yK,QA]at hc;subst hc;simp only[zv,QA,QD]at hx;exact same ⟨hx.1.symm,hx.2.1.symm,hx.2.2.symm⟩ fun k cs aY=>⟨k,rfl,Steps.refl P _⟩
 |goto l=>
  simp only[yK,QA]at hc;subst hc;simp only[zv,QA,QD]at hx;exact same ⟨hx.1.symm,hx.2.1.symm,hx.2.2.symm⟩ fun k cs aY=>⟨k,rfl,Steps.refl P _⟩
 |ret=>
  simp only[yK,QA]at hc;subst hc;simp only[zv,QA,QD]at hx;exact same ⟨hx.1.symm,hx.2.1.symm,hx.2.2.symm⟩ fun k cs aY=>⟨k,Steps.refl P _⟩
 |refuse _=>simp[yK]at hc
 |region id ops draw=>
  simp only[yK]at hc;cases h1:Yf P nt ops ops.toList with
  |none=>simp[h1]at hc
  |some as=>
  simp only[h1]at hc;cases draw with
  |false=>
   simp only[QU,QA]at hc;subst hc;simp only[zv,QQ,QD]at hx;obtain⟨⟨bB,qI⟩,iu,rfl,rfl,rfl⟩:=hx;exact zHH hex aD h1 hr hF iu
  |true=>
   simp only[cond_true]at hc;obtain⟨l,rfl⟩:=zI3 hc;simp only[zv,QQ,QD]at hx;obtain⟨⟨bB,qI⟩,iu,rfl,rfl,rfl⟩:=hx;exact CF nt id ops as l h1 hc B σ h w fr _ a b _ hr hF iu
 |seq x y=>
  simp only[yK]at hc;cases h1:yK P nt x with
  |none=>simp[h1]at hc
  |some ax=>
  cases h2:yK P nt y with
  |none=>simp[h1,h2]at hc
  |some ay=>
  simp only[h1,h2,QA]at hc;subst hc;simp only[zv]at hx;cases cL:ih.exec ax fr h with
  |none=>simp[cL]at hx
  |some p=>
  obtain⟨e0,cF,h0⟩:=p;obtain⟨σ1,w1,a1,e1,F1,eU,bL⟩:=hex nt x ax h1 fr h e0 cF h0 cL B σ w hr a b hF;have leave:e0≠ .normal->e=e0/\af=cF/\h'=h0->zFQ P B σ h w nt (.seq x y) fr a b e af h':=by
   rintro aq ⟨rfl,rfl,rfl⟩;refine⟨σ1,w1,a1,e1,F1,eU,fun k cs aY=>VW (.one zNz) ?_⟩;have:=bL (.code y::k) cs aY;cases e with
   |normal=>exact absurd rfl aq
   |ret=>exact this
   |exit id=>obtain⟨k1,q1,q2⟩:=this;exact⟨k1,q1,q2⟩
   |goto l=>obtain⟨k1,q1,q2⟩:=this;exact⟨k1,q1,q2⟩
  cases e0 with
  |normal=>
   simp only[cL]at hx;obtain⟨σ2,w2,a2,e2,F2,kE,bC⟩:=hex nt y ay h2 cF h0 e af h' hx B σ1 w1 e1.rel a1 b F1;exact⟨σ2,w2,a2,e1.trans e2,F2,kE.trans eU,fun k cs aY=>VW (Steps.trans (.one zNz) (bL (.code y::k) cs aY)) (bC k cs aY)⟩
  |ret=>simp only[cL,QA,QD]at hx;exact leave (by simp) ⟨hx.1.symm,hx.2.1.symm,hx.2.2.symm⟩
  |exit id=>simp only[cL,QA,QD]at hx;exact leave (by simp) ⟨hx.1.symm,hx.2.1.symm,hx.2.2.symm⟩
  |goto l=>simp only[cL,QA,QD]at hx;exact leave (by simp) ⟨hx.1.symm,hx.2.1.symm,hx.2.2.symm⟩
 |cond t x y=>
  simp only[yK]at hc;cases h0:Zq P t with
  |false=>simp[h0]at hc
  |true=>
  cases h1:yK P nt x with
  |none=>simp[h0,h1]at hc
  |some ax=>
  cases h2:yK P nt y with
  |none=>simp[h0,h1,h2]at hc
  |some ay=>
  simp only[h0,h1,h2,QA]at hc;subst hc;simp only[zv]at hx;have ht:=zAb hr hF.tm h0;cases hv:ev fr.tm t with
  |bool tb=>
   rw[hv]at hx ht;have ha:a.eval t=.bool tb:=by
    generalize a.eval t=q at ht;cases ht;rfl
   cases tb with
   |true=>
    obtain⟨σ1,w1,a1,e1,F1,eU,bL⟩:=hex nt x ax h1 fr h e af h' hx B σ w hr a b hF;exact⟨σ1,w1,a1,e1,F1,eU,fun k cs aY=>VW (.one (by have:=zKJ (P:=P) (b:=b) (k:=k) (cs:=cs) (w:=w) (x:=x) (y:=y) ha;exact this)) (bL k cs aY)⟩
   |false=>
    obtain⟨σ1,w1,a1,e1,F1,eU,bL⟩:=hex nt y ay h2 fr h e af h' hx B σ w hr a b hF;exact⟨σ1,w1,a1,e1,F1,eU,fun k cs aY=>VW (.one (by have:=zKJ (P:=P) (b:=b) (k:=k) (cs:=cs) (w:=w) (x:=x) (y:=y) ha;exact this)) (bL k cs aY)⟩
  |_=>simp[hv]at hx
 |block id x=>
  simp only[yK,QQ]at hc;obtain⟨ax,h1,rfl⟩:=hc;simp only[zv]at hx;cases cL:ih.exec ax fr h with
  |none=>simp[cL]at hx
  |some p=>
  obtain⟨e0,cF,h0⟩:=p;obtain⟨σ1,w1,a1,e1,F1,eU,bL⟩:=hex nt x ax h1 fr h e0 cF h0 cL B σ w hr a b hF;rw[cL]at hx;have leave:((e0=.normal/\e=.normal\/e0=.ret/\e=.ret\/∃ l,e0=.goto l/\e=.goto l)\/∃ js,e0=.exit js/\((js=id/\e=.normal)\/(js≠id/\e=.exit js)))->af=cF/\h'=h0->
    zFQ P B σ h w nt (.block id x) fr a b e af h':=by
   rintro hh ⟨rfl,rfl⟩;refine⟨σ1,w1,a1,e1,F1,eU,fun k cs aY=>VW (.one zM0) ?_⟩;have:=bL (.inBlock id::k) cs aY;rcases hh with(⟨rfl,rfl⟩|⟨rfl,rfl⟩|⟨l,rfl,rfl⟩)|⟨js,rfl,⟨rfl,rfl⟩|⟨aq,rfl⟩⟩
   ·exact Steps.trans this (.one zIw)
   ·exact this
   ·obtain⟨k1,q1,q2⟩:=this;exact⟨k1,q1,q2⟩
   ·obtain⟨k1,q1,q2⟩:=this;exact Steps.trans q2 (.one (zPU (by rw[q1];simp[exitTo])))
   ·obtain⟨k1,q1,q2⟩:=this;exact⟨k1,by rw[q1];simp[exitTo,Ne.symm aq],q2⟩
  cases e0 with
  |normal=>simp only[QA,QD]at hx;exact leave (.inl (.inl ⟨rfl,hx.1.symm⟩)) ⟨hx.2.1.symm,hx.2.2.symm⟩
  |ret=>simp only[QA,QD]at hx;exact leave (.inl (.inr (.inl ⟨rfl,hx.1.symm⟩))) ⟨hx.2.1.symm,hx.2.2.symm⟩
  |goto l=>simp only[QA,QD]at hx;exact leave (.inl (.inr (.inr ⟨l,rfl,hx.1.symm⟩))) ⟨hx.2.1.symm,hx.2.2.symm⟩
  |exit js=>
   simp only at hx;by_cases hid:js=id
   ·rw[QF hid]at hx;simp only[QA,QD]at hx;exact leave (.inr ⟨js,rfl,.inl ⟨hid,hx.1.symm⟩⟩) ⟨hx.2.1.symm,hx.2.2.symm⟩
   ·rw[QC hid]at hx;simp only[QA,QD]at hx;exact leave (.inr ⟨js,rfl,.inr ⟨hid,hx.1.symm⟩⟩) ⟨hx.2.1.symm,hx.2.2.symm⟩
 |loop x=>
  simp only[yK,QQ]at hc;obtain⟨ax,h1,rfl⟩:=hc;simp only[zv]at hx;cases cL:ih.exec ax fr h with
  |none=>simp[cL]at hx
  |some p=>
  obtain⟨e0,cF,h0⟩:=p;obtain⟨σ1,w1,a1,e1,F1,eU,bL⟩:=hex nt x ax h1 fr h e0 cF h0 cL B σ w hr a b hF;rw[cL]at hx;have leave:e0≠ .normal->e=e0/\af=cF/\h'=h0->zFQ P B σ h w nt (.loop x) fr a b e af h':=by
   rintro aq ⟨rfl,rfl,rfl⟩;refine⟨σ1,w1,a1,e1,F1,eU,fun k cs aY=>VW (.one zG7) ?_⟩;have:=bL (.inLoop x::k) cs aY;cases e with
   |normal=>exact absurd rfl aq
   |ret=>exact this
   |exit id=>obtain⟨k1,q1,q2⟩:=this;exact⟨k1,q1,q2⟩
   |goto l=>obtain⟨k1,q1,q2⟩:=this;exact⟨k1,q1,q2⟩
  cases e0 with
  |normal=>
   simp only at hx;obtain⟨σ2,w2,a2,e2,F2,kE,bC⟩:=hex nt (.loop x) (.loop ax) (by simp[zEJ,yK,h1]) cF h0 e af h' hx B σ1 w1 e1.rel a1 b F1;refine⟨σ2,w2,a2,e1.trans e2,F2,kE.trans eU,fun k cs aY=>VW (Steps.trans (.one zG7) (.trans (bL (.inLoop x::k) cs aY) (.one zKv))) ?_⟩;have q:=bC k cs aY;have hs:step P (lone (At b a1 (.code (.loop x)::k)) cs w1)=.next (lone (At b a1 (.code x:: .inLoop x::k)) cs w1):=zG7;have aq:∀ (t:List Item) (a2:Act) (w2:World),t≠ .code (.loop x)::k->lone (At b a1 (.code (.loop x)::k)) cs w1≠lone (At b a2 t) cs w2:=by
    intro t a2 w2 hn he;apply hn;have h3:=congrArg (fun m:Machine=>m.gs.toList.map fun g=>g.frame.todo) he;simpa [lone,At]using h3.symm
   cases e with
   |normal=>exact Vf q (aq _ _ _ (fun hh=>by have:=congrArg List.length hh;simp at this)) hs
   |ret=>obtain⟨k1,q⟩:=q;exact⟨k1,Vf q (aq _ _ _ (by simp)) hs⟩
   |exit id=>obtain⟨k1,q1,q⟩:=q;exact⟨k1,q1,Vf q (aq _ _ _ (by simp)) hs⟩
   |goto l=>obtain⟨k1,q1,q⟩:=q;exact⟨k1,q1,Vf q (aq _ _ _ (by simp)) hs⟩
  |ret=>simp only[QA,QD]at hx;exact leave (by simp) ⟨hx.1.symm,hx.2.1.symm,hx.2.2.symm⟩
  |exit id=>simp only[QA,QD]at hx;exact leave (by simp) ⟨hx.1.symm,hx.2.1.symm,hx.2.2.symm⟩
  |goto l=>simp only[QA,QD]at hx;exact leave (by simp) ⟨hx.1.symm,hx.2.1.symm,hx.2.2.symm⟩
 |scope x=>
  simp only[yK,QQ]at hc;obtain⟨ax,h1,rfl⟩:=hc;simp only[zv]at hx;obtain⟨σ1,w1,a1,e1,F1,eU,bL⟩:=zH8 hex h1 _ h1 hr hF hx;exact⟨σ1,w1,a1,e1,F1,eU,fun k cs aY=>VW (.one zMs) (bL k cs aY)⟩
 |rangeFunc f ps x y=>
  simp only[yK]at hc;cases h0:Zq P f with
  |false=>simp[h0]at hc
  |true=>
  cases h1:yK P nt x with
  |none=>simp[h0,h1]at hc
  |some ax=>
  cases h2:yK P nt y with
  |none=>simp[h0,h1,h2]at hc
  |some ay=>
  cases h3:ps.toList.all (fun p=>Nat.ble (p+1) nt)with
  |false=>simp only[h0,h1,h2,h3,QU]at hc;cases hc
  |true=>
  simp only[h0,h1,h2,h3,cond_true,QA]at hc;subst hc;simp only[zv]at hx;exact zGr hex aD h1 h2 (fun p hp=>QS (QX.1 h3 p hp)) h0 hr hF hx
end
section
variable {P:Program}{B:Nat}{σ:Nat->Option Pl}{h:WA}{w:World}
theorem zNf:∀ {l l':List Value} (k0:Nat) {t:WG Value} {f:Nat->Value},WW σ l l'->(∀ k,WI σ (zC t k) (f k))->
  ∀ k,WI σ (zC (zFZ l k0 t) k) (if k0<=k then(l'[k-k0]?).getD (f k)else f k):=by
 intro l;induction l with
 |nil=>
  intro l' k0 t f hl ht k;have:l'=[]:=by have:=hl.1;cases l'<;>simp_all
  subst this;simp only[zFZ];split<;>simpa using ht k
 |cons v l ih=>
  intro l' k0 t f hl ht k;match l',hl with
  |[],hl=>have:=hl.1;simp at this
  |v'::l',hl=>
   have hv:=hl.2 0 v v' rfl rfl;have w7:WW σ l l':=⟨by simpa using hl.1,fun i a b h1 h2=>hl.2 (i+1) a b (by simpa using h1) (by simpa using h2)⟩;have:=ih (l':=l') (k0+1) (t:=t.set k0 v) (f:=fun k=>if k=k0 then v' else f k) w7 (fun j=>by
    rw[zb];by_cases hj:j=k0
    ·simp only[hj,Q6];exact hv
    ·simp only[hj,Gb];exact ht j) k
   simp only[zFZ];by_cases h1:k0+1<=k
   ·rw[QF h1,QC (by omega)]at this;rw[QF (by omega)];have e:k-k0=(k-(k0+1))+1:=by omega
    rw[e];simpa using this
   ·rw[QC h1]at this;by_cases h2:k=k0
    ·subst h2;simpa using this
    ·rw[QC h2]at this;rw[QC (by omega)];exact this
def zBF(tm:Array Value):ResultVar->Sem Value
 | .tmp t=>pure (tm.getD t Go.undef)
 | .cell a t=>do loadVar t (<-asAddr (tm.getD a Go.undef))
theorem zIv{t:TypeId}{agg:Bool}{n ad:Nat}{tr:WG Value}{tm:Array Value}(hg:zDZ P t=some agg)(hn:ZW P t=some n)(hr:Wg P B σ h w)(hv:WI σ (zC tr ad) (tm.getD ad Go.undef)){u:Value}
  (hx:zAQ h tr (ad,some (agg,n))=some u):
  ∃ cu,(zBF tm (.cell ad t)).run P w=.ok cu w/\WI σ u cu:=by
 simp only[zAQ]at hx;simp only[zBF];generalize tm.getD ad Go.undef=v' at hv;generalize zC tr ad=v at hx hv;split at hx
 ·rename_i _ ad;cases fq:ad.spot with
  |some s=>simp[fq]at hx
  |none=>
   simp only[fq,Qp,cond_true]at hx;cases dx:yj h ad.block with
   |none=>simp[dx]at hx
   |some cells=>
    simp only[dx,Qb]at hx;cases bX:cut cells ad.off n with
    |none=>simp[bX]at hx
    |some xs=>
     simp only[bX,Qb]at hx;obtain⟨pl,ys,c1,c2,c3,c4,c5⟩:=zBw hr dx bX;obtain⟨cv,d1,d2⟩:=zAT c2 hx;obtain⟨b,off,sp⟩:=ad;simp only at fq c1 c5;subst fq;cases hv with
     |ptr hp=>
      rw[c1]at hp;cases hp;refine⟨cv,?_,d2⟩;have:=zBh (P:=P) (w:=w) hg hn c3 c5 d1;simp[asAddr,this]
 ·cases hx
theorem zHQ(hr:Wg P B σ h w){t:WG Value}{tm:Array Value}(ht:∀ k,WI σ (zC t k) (tm.getD k Go.undef)):∀ {l:List ResultVar} {rs:List (Nat×Option (Bool×Nat))} {vs:List Value},
  YQ P l=some rs->yY h t rs=some vs->∃ fw,(l.mapM (zBF tm)).run P w=.ok fw w/\WW σ vs fw:=by
 intro l;induction l with
 |nil=>
  intro rs vs hc hx;simp only[YQ,QA]at hc;subst hc;simp only[yY,QA]at hx;subst hx;exact⟨[],by simp,WW.nil _⟩
 |cons r l ih=>
  intro rs vs hc hx;cases r with
  |tmp k=>
   simp only[YQ,QQ]at hc;obtain⟨Em,eC,rfl⟩:=hc;simp only[yY,zAQ]at hx;cases iu:yY h t Em with
   |none=>simp[iu]at hx
   |some Nf=>
    simp only[iu,QA]at hx;subst hx;obtain⟨fw,e1,e2⟩:=ih eC iu;refine⟨tm.getD k Go.undef::fw,?_,WW.cons (ht k) e2⟩;rw[List.mapM_cons];simp only[Sem.run_bind,zBF,Sem.run_pure,Result.andThen_ok,e1]
  |cell ad ty=>
   simp only[YQ]at hc;cases h1:zDZ P ty with
   |none=>simp[h1]at hc
   |some g=>
   cases h2:ZW P ty with
   |none=>simp[h1,h2]at hc
   |some n=>
   cases h3:YQ P l with
   |none=>simp[h1,h2,h3]at hc
   |some Em=>
   simp only[h1,h2,h3,QA]at hc;subst hc;simp only[yY]at hx;cases sy:zAQ h t (ad,some (g,n))with
   |none=>simp[sy]at hx
   |some v=>
   simp only[sy]at hx;cases iu:yY h t Em with
   |none=>simp[iu]at hx
   |some Nf=>
    simp only[iu,QA]at hx;subst hx;obtain⟨fw,e1,e2⟩:=ih h3 iu;obtain⟨cu,d1,d2⟩:=zIv h1 h2 hr (ht ad) sy;refine⟨cu::fw,?_,WW.cons d2 e2⟩;rw[List.mapM_cons];simp only[Sem.run_bind,d1,Sem.run_pure,Result.andThen_ok,e1]
theorem zO0{vs fw:List Value}(hl:WW σ vs fw):WI σ (one vs) (if h:fw.toArray.size=1 then fw.toArray[0]else .tuple fw.toArray):=by
 match vs,fw,hl with
 |[],[],_=>exact WI.tuple rfl (fun i x y h=>by simp at h)
 |[v],[c],hl=>exact hl.2 0 v c rfl rfl
 |a::b::l,a'::b'::l',hl=>
  have:¬(a'::b'::l').toArray.size=1:=by simp
  rw[dif_neg this];exact WI.tuple (by simpa using hl.1) (fun i x y h1 h2=>hl.2 i x y (by simpa using h1) (by simpa using h2))
 |[],_::_,hl=>have:=hl.1;simp at this
 |[_],[],hl=>have:=hl.1;simp at this
 |[_],_::_::_,hl=>have:=hl.1;simp at this
 |_::_::_,[],hl=>have:=hl.1;simp at this
 |_::_::_,[_],hl=>have:=hl.1;simp at this
theorem zHm{f:Func}{tm:Array Value}{fw:List Value}(hm:(f.results.toList.mapM (zBF tm)).run P w=.ok fw w):
  (results f tm).run P w=.ok (if h:fw.toArray.size=1 then fw.toArray[0]else .tuple fw.toArray) w:=by
 have hf:results f tm=(do
  let vs <-f.results.mapM (zBF tm)
  pure (if h:vs.size=1 then vs[0]else .tuple vs)):=by
  unfold results;congr 1
 have ha:(f.results.mapM (zBF tm)).run P w=.ok fw.toArray w:=by
  rw[Array.mapM_eq_mapM_toList,Sem.run_map,hm];rfl
 rw[hf];simp only[Sem.run_bind,ha,Result.andThen_ok,Sem.run_pure]
theorem zGt{ih:Ex}(aD:yO P ih):∀ {ds eS:List Deferred} {σ:Nat->Option Pl} {h:WA} {w:World} {h':WA},BS P σ ds eS->Wg P B σ h w->ZY ih ds h=some h'->
  ∃ σ' w',W0 P B σ h w σ' h' w'/\∀ (X:Frame) (cs:List Frame),X.mode=.returning->X.defers=eS->Steps P (lone X cs w) (lone {X with defers:=[]} cs w'):=by
 intro ds;induction ds with
 |nil=>
  intro eS σ h w h' hd hr hx;cases eS with
  |cons _ _=>exact hd.elim
  |nil=>
   simp only[ZY,QA]at hx;subst hx;refine⟨σ,w,.refl hr,fun X cs _ hX=> ?_⟩;have:{X with defers:=[]}=X:=by rw[<-hX]
   rw[this];exact Steps.refl P _
 |cons d ds sB=>
  intro eS σ h w h' hd hr hx;cases eS with
  |nil=>exact hd.elim
  |cons d' eS=>
  obtain⟨kF,lR⟩:=hd;obtain⟨tgt,xh⟩:=d;obtain⟨Ng,dh⟩:=d';unfold DRel at kF;simp only[ZY]at hx;split at kF
  ·
   rename_i f cap heq;simp only at heq;subst heq;obtain⟨cK,e1,e2,e3⟩:=kF;simp only at e1;subst e1;simp only at hx;cases hc:ih.call f (xh.toList++cap.toList) h with
   |none=>simp[hc]at hx
   |some p=>
   obtain⟨v0,h0⟩:=p;simp only[hc]at hx;obtain⟨k1,k2⟩:=aD _ _ _ _ _ hc;obtain⟨σ1,w1,cv,fu,_,st⟩:=k2 B σ w hr (dh++cK) (by simpa using e3.append e2) .deferred (.inr rfl);obtain⟨σ2,w2,eE,bC⟩:=sB (lR.mono fu.le) fu.rel hx;refine⟨σ2,w2,fu.trans eE,fun X cs hm hX=> ?_⟩;have hs:=step_defer (P:=P) (fr:=X) (cs:=cs) (w:=w) (d:=⟨.fn (.func f) cK,dh⟩) (ds:=eS) (fv:= .func f) (cap:=cK) (f:=f) (args:=dh++cK) (by rw[hm];simp) hX rfl (by simp[invoke,k1]);obtain⟨af,s1,s2⟩:=st ({X with defers:=eS}::cs) (.inr ⟨rfl,fun c rest e ch he=>by cases e;rw[show({X with defers:=eS}:Frame).mode=X.mode from rfl,hm]at he;cases he⟩);have s3:=zD8 (cs:=cs) s2 (c:={X with defers:=eS}) hm;exact Steps.trans (.one hs) (Steps.trans s1 (Steps.trans (.one s3) (bC {X with defers:=eS} cs hm rfl)))
  ·
   rename_i ts ty cs0 heq;simp only at heq;subst heq;obtain⟨t,kt,e,rfl,hu,e1,e3⟩:=kF;simp only at e1;subst e1;simp only at hx;split at hx
   ·rename_i g Nh;split at hx
    ·rename_i es clock hg;rw[Nh]at e3;have hlen:=e3.1;obtain⟨m',kG⟩:∃ m',dh.toList=[m']:=by
      match hq:dh.toList with
      |[m']=>exact⟨m',rfl⟩
      |[]=>rw[hq]at hlen;simp at hlen
      |_::_::_=>rw[hq]at hlen;simp at hlen
     have Eo:dh=#[m']:=by rw[<-Gw (xs:=dh),kG]
     rw[kG]at e3;have nC:=e3.2 0 _ _ rfl rfl;obtain⟨w1,r1,r2⟩:=zGA (ty:=ty) (ts:=[]) hr hu hg nC;obtain⟨σ2,w2,eE,bC⟩:=sB (lR.mono r2.le) r2.rel hx;refine⟨σ2,w2,r2.trans eE,fun X cs hm hX=> ?_⟩;refine Steps.trans (.one (m₁:=lone {X with defers:=eS} cs w1) ?_) (bC {X with defers:=eS} cs hm rfl);refine step_lone_go ?_;subst Eo;have ah:(invoke (.builtin .clear #[t] ty cs0) #[m']).run P w=.ok (.value (.tuple #[])) w1:=by
      simp only[invoke,builtin];simp[r1]
     simp[stepG,unwind,callDeferred,hm,hX,Sem.runT_eq,ah]
    ·cases hx
   ·cases hx
  ·
   rename_i g heq;simp only at heq;subst heq;obtain⟨pl,p1,e1⟩:=kF;simp only at e1;subst e1;simp only at hx;split at hx
   ·rename_i hg;obtain⟨Cv,q1,q2,q3⟩:=hr.live _ _ hg;rw[p1]at q1;cases q1;have dP:w.heap[pl.b]?=some (.deferred (some [])):=q2.2;have aL:pl.b<w.heap.size:=(hr.lt _ _ p1).2;have fu:W0 P B σ h w σ (h.set g (.deferred none)) (w.putObj pl.b (.deferred none)):=
     hr.put (O':= .deferred none) hg rfl rfl p1 ⟨by simp,World.putObj_heap_same aL,fun b aq=>World.putObj_heap_other aq⟩ ⟨rfl,rfl,rfl⟩ (World.putObj_heap_same aL)
      (fun g2 o2 cQ _ _ _ _ k=>by cases o2<;>exact k.elim)
    obtain⟨σ2,w2,eE,bC⟩:=sB lR fu.rel hx;refine⟨σ2,w2,fu.trans eE,fun X cs hm hX=> ?_⟩;refine Steps.trans (.one (m₁:=lone {X with defers:=eS} cs (w.putObj pl.b (.deferred none))) ?_) (bC {X with defers:=eS} cs hm rfl);refine step_lone_go ?_;have:=run_takeDeferred (P:=P) dP;simp[stepG,unwind,hm,hX,Sem.runT_eq,this]
   ·cases hx
  ·exact kF.elim
theorem zJL{f:FuncId}{fn:B3}(hc:zFn P f=some fn):
  ∃ gE c,P.funcs[f]?=some gE/\gE.body=some c/\YQ P gE.results.toList=some fn.results/\(gE.name == "runtime.NumGoroutine")=false/\yK P gE.ntmps c=some fn.body:=by
 unfold zFn at hc;split at hc
 ·rename_i gE hf;split at hc
  ·rename_i c rs hb lS;cases hn:(gE.name == "runtime.NumGoroutine")with
   |true=>simp[hn]at hc
   |false=>
    simp only[hn,QU]at hc;split at hc
    ·rename_i b aI;cases hc;exact⟨gE,c,hf,hb,lS,hn,aI⟩
    ·cases hc
  ·cases hc
 ·cases hc
theorem zIB{ih:Ex}(hex:yQ P ih)(aD:yO P ih){tab:FuncId->Option B3}(dQ:∀ f a,tab f=some a->zFn P f=some a):yO P ⟨ih.exec,zDy P tab ih⟩:=by
 intro f args h v h' hx;have hx:zDy P tab ih f args h=some (v,h'):=hx;unfold zDy at hx;cases ht:tab f with
 |none=>simp[ht]at hx
 |some fn=>
 simp only[ht]at hx;obtain⟨gE,c,hf,hb,lS,lU,xi⟩:=zJL (dQ f fn ht);refine⟨fun as w=> ?_,fun B σ w hr as hl kind hk=> ?_⟩
 ·have h1:gE.name≠ "runtime.NumGoroutine":=by simpa using lU
  simp[callFunc,hf,h1,hb]
 ·cases cL:ih.exec fn.body ⟨zFZ args 0 .leaf,[],none⟩ h with
  |none=>simp[cL]at hx
  |some p=>
  obtain⟨e,bB,h1⟩:=p;simp only[cL]at hx;have fJ:Frame.enter P f as kind=At {(default:Frame)with fn:=f,kind:=kind} {tmps:=as++Array.replicate (gE.ntmps-as.size) Go.undef,defers:=[]} [.code c]:=by
   simp[Frame.enter,At,hf,hb];rfl
  have hF:W5 P σ gE.ntmps ⟨zFZ args 0 .leaf,[],none⟩ {tmps:=as++Array.replicate (gE.ntmps-as.size) Go.undef,defers:=[]} {(default:Frame)with fn:=f,kind:=kind}:=by
   refine⟨by simp;omega,fun k=> ?_,trivial,rfl⟩;have:=zNf 0 (t:= .leaf) (f:=fun _=>Go.undef) hl (fun k=>by simp only[zC,WG.get];exact WI.undef σ) k;simp only[QK,Q6,Nat.sub_zero]at this;have e:(as++Array.replicate (gE.ntmps-as.size) Go.undef).getD k Go.undef=(as.toList[k]?).getD Go.undef:=by
    rw[GA,Array.getElem?_append];split
    ·simp
    ·rename_i bK;rw[Array.getElem?_replicate];have:as[k]?=none:=by simp;omega
     simp only[Array.getElem?_toList,this];split<;>rfl
   simp only;rw[e];exact this
  obtain⟨σ1,w1,a1,fu,F1,eU,bL⟩:=hex _ _ _ xi _ _ _ _ _ cL B σ w hr _ _ hF;have bN:(e=.normal\/e=.ret)/\∃ h2 vs,ZY ih bB.dfs h1=some h2/\yY h2 bB.tm fn.results=some vs/\v=one vs/\h'=h2:=by
   have tail:(match ZY ih bB.dfs h1 with
     |none=>none
     |some h=>match yY h bB.tm fn.results with
      |none=>none
      |some vs=>some (one vs,h))=some (v,h')->∃ h2 vs,ZY ih bB.dfs h1=some h2/\yY h2 bB.tm fn.results=some vs/\v=one vs/\h'=h2:=by
    intro ht;cases hd:ZY ih bB.dfs h1 with
    |none=>simp[hd]at ht
    |some h2=>
     simp only[hd]at ht;cases hv:yY h2 bB.tm fn.results with
     |none=>simp[hv]at ht
     |some vs=>
      simp only[hv,QA,QD]at ht;exact⟨h2,vs,rfl,hv,ht.1.symm,ht.2.symm⟩
   cases e with
   |normal=>exact⟨.inl rfl,tail hx⟩
   |ret=>exact⟨.inr rfl,tail hx⟩
   |exit id=>exact absurd hx (by simp)
   |goto l=>exact absurd hx (by simp)
  obtain⟨he,h2,vs,hd,hv,rfl,rfl⟩:=bN;obtain⟨σ2,w2,eE,bC⟩:=zGt aD F1.dfs fu.rel hd;obtain⟨fw,r1,r2⟩:=zHQ eE.rel (fun k=>(F1.tm k).mono eE.le) lS hv;refine⟨σ2,w2,_,fu.trans eE,zO0 r2,fun cs aY=> ?_⟩;rw[fJ];have fin:∀ todo:List Item,∃ af,Steps P (lone {At {(default:Frame)with fn:=f,kind:=kind} a1 todo with mode:= .returning} cs w1) (lone af cs w2)/\
    Bs P f kind af (if h:fw.toArray.size=1 then fw.toArray[0]else .tuple fw.toArray) w2:=fun todo=>
   ⟨_,bC {At {(default:Frame)with fn:=f,kind:=kind} a1 todo with mode:= .returning} cs rfl rfl,rfl,rfl,rfl,rfl,gE,hf,zHm r1⟩
  have:=bL [] cs aY;rcases he with rfl|rfl
  ·obtain⟨af,s1,s2⟩:=fin [];exact⟨af,Steps.trans this (Steps.trans (.one (zP7 rfl)) s1),s2⟩
  ·obtain⟨k1,this⟩:=this;obtain⟨af,s1,s2⟩:=fin (.code .ret::k1);exact⟨af,Steps.trans this (Steps.trans (.one (zQK rfl)) s1),s2⟩
def zF9(P:Program)(f:FuncId)(s:List Value->WA->Option (Value×WA)):Prop:=
 ∀ (e:WY->WR->WA->Option (WP×WR×WA)),yO P ⟨e,fun g args h=>if g=f then s args h else none⟩
theorem zIU{ih:Ex}(hex:yQ P ih)(aD:yO P ih){tab:Wy}(dQ:∀ f a,tab.code f=some a->zFn P f=some a)(aX:∀ f s,tab.stub f=some s->zF9 P f s):
  yO P ⟨ih.exec,zDF P tab ih⟩:=by
 intro f args h v h' hx;have hx:zDF P tab ih f args h=some (v,h'):=hx;unfold zDF at hx;split at hx
 ·rename_i s hs;exact aX f s hs ih.exec f args h v h' (by simp only[Q6];exact hx)
 ·exact zIB hex aD dQ f args h v h' hx
end
end Go.Am
