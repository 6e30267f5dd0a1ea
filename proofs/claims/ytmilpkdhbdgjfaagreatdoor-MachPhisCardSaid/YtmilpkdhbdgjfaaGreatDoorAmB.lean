/- A part of the machine and of its soundness; proves no statement. -/
import Derived.Test.YtmilpkdhbdgjfaaGreatDoorAmA
import Derived.Defers
import Derived.RangeFuncNested
set_option linter.all false
namespace Go.Am
open Go.RowKit
section
variable {P:Program}{B:Nat}{σ:Nat->Option Pl}{h:WF}{w:World}
theorem WY.val{s:Sem Value}{v:Value}{h':WF}(hs:∃ σ' w' cv,s.run P w=.ok cv w'/\WL σ' v cv/\Wy P B σ h w σ' h' w'):
  WY P B σ h w (do pure (.value (<-s))) v h':=by
 obtain⟨σ',w',cv,h1,h2,h3⟩:=hs;exact⟨σ',w',.inl ⟨cv,by simp[h1],h2⟩,h3⟩
theorem VZ{s:Sem Unit}{h':WF}(hs:∃ σ' w',s.run P w=.ok () w'/\Wy P B σ h w σ' h' w'):
  WY P B σ h w (do s;pure .skip) Go.undef h':=by
 obtain⟨σ',w',h1,h3⟩:=hs;exact⟨σ',w',.inr ⟨by simp[h1],rfl⟩,h3⟩
theorem zAX(hr:Wg P B σ h w){t:WI Value}{a:Act}(ht:∀ k,WL σ (zC t k) (a.tmps.getD k Go.undef)){l:List Operand}(ho:∀ x∈l,ZU P x=true):WW σ (l.map (ev t)) (l.map a.eval):=
 ⟨by simp,fun i x y hx hy=>by
  simp only[GY]at hx hy;cases hl:l[i]? with
  |none=>simp[hl]at hx
  |some z=>
   simp only[hl,QH,QA]at hx hy;subst hx hy;exact zAB hr ht (ho z (Ga hl))⟩
theorem zJn(hr:Wg P B σ h w){xs ys:List Value}(hl:WW σ xs ys)(e:TypeId):
  ∃ σ' w' cv,((do pure (.pointer (some (<-newRow e ys.toArray))):Sem Value)).run P w=.ok cv w'/\WL σ' (.pointer (some ⟨h.n,0,none⟩)) cv/\Wy P B σ h w σ' (h.push (.row xs true 0)) w':=by
 have hp:=zCR hr hl [] e 0;rw[G5]at hp;refine⟨_,_,.pointer (some ⟨w.heap.size,0,none⟩),by simp[newRow],?_,hp⟩;exact WL.ptr (off:=0) (yG σ h.n ⟨w.heap.size,0,ys.length+0⟩)
theorem zBH(hr:Wg P B σ h w){t:WI Value}{a:Act}(ht:∀ k,WL σ (zC t k) (a.tmps.getD k Go.undef)){place:Nat->Option (Nat×Nat)}:
  ∀ {l:List (Nat×Operand)} {ps:List (Nat×Nat×Operand)},(∀ x∈l,ZU P x.2=true)->Z1 place l=some ps->
   (l.map fun x=>(x.1,a.eval x.2)).length=(zr t ps).length/\
   ∀ (j i:Nat) (v:Value) (o n:Nat) (u:Value),(l.map fun x=>(x.1,a.eval x.2))[j]?=some (i,v)->(zr t ps)[j]?=some (o,n,u)->place i=some (o,n)/\WL σ u v:=by
 intro l;induction l with
 |nil=>intro ps _ hp;simp[Z1]at hp;subst hp;exact⟨rfl,fun j i v o n u h=>by simp at h⟩
 |cons x l ih=>
  intro ps ho hp;obtain⟨i0,x0⟩:=x;simp only[Z1]at hp;split at hp
  ·rename_i o0 n0 r h1 h2;cases hp;obtain⟨a1,a2⟩:=ih (fun y hy=>ho y (GC _ hy)) h2;refine⟨by simpa [zr]using a1,fun j i v o n u hj hk=> ?_⟩;cases j with
   |zero=>
    simp[zr]at hj hk;obtain⟨rfl,rfl⟩:=hj;obtain⟨rfl,rfl,rfl⟩:=hk;exact⟨h1,zAB hr ht (ho _ (Q0 ..))⟩
   |succ j=>exact a2 j i v o n u (by simpa using hj) (by simpa [zr]using hk)
  ·cases hp
theorem zHv{α β:Type}{f:α->Sem β}{g:α->β}:∀ (l:List α),(∀ x∈l,(f x).run P w=.ok (g x) w)->(l.mapM f).run P w=.ok (l.map g) w
 |[],_=>by simp
 |x::l,hf=>by
  have h1:=hf x (Q0 ..);have h2:=zHv l (fun y hy=>hf y (GC _ hy));simp[List.mapM_cons,h1,h2]
theorem zI7{fs:Array Field}(hf:fs.toList.all (fun f=>(ZA P f.type).isSome)=true):
  (fs.mapM fun f=>(do pure (f.offset,<-sizeOf f.type):Sem (Nat×Nat))).run P w=.ok (fs.map fun f=>(f.offset,(ZA P f.type).getD 0)) w:=by
 rw[Array.mapM_eq_mapM_toList,Sem.run_map,zHv (g:=fun f=>(f.offset,(ZA P f.type).getD 0)) fs.toList (fun f hm=>by
  have:=QV.1 hf f hm;obtain⟨n,hn⟩:=Option.isSome_iff_exists.1 this;obtain⟨i,hi,hs⟩:=YE hn;simp[zu hi,hn,hs])]
 simp only[Result.andThen_ok];congr 1;apply JC;simp
theorem Yt(hr:Wg P B σ h w){t:WI Value}{a:Act}(ht:∀ k,WL σ (zC t k) (a.tmps.getD k Go.undef)){x:Option Operand}(ho:∀ y,x=some y->ZU P y=true){n:Option Nat}(hx:Yv t x=some n):BV n (x.map a.eval):=by
 cases x with
 |none=>simp[Yv]at hx;subst hx;rfl
 |some x=>
  simp only[Yv]at hx;cases hn:BH (ev t x)with
  |none=>simp[hn]at hx
  |some m=>
   simp only[hn,QH,QA]at hx;subst hx;obtain⟨k,hk⟩:=Yg (zAB hr ht (ho x rfl)) hn;exact⟨k,by simp[hk]⟩
theorem zCs{t:WI Value}{x:Option Operand}{n:Option Nat}(hx:Yv t x=some n):n.isSome=x.isSome:=by
 cases x with
 |none=>simp[Yv]at hx;subst hx;rfl
 |some x=>
  simp only[Yv]at hx;cases hn:BH (ev t x)with
  |none=>simp[hn]at hx
  |some m=>simp[hn]at hx;subst hx;rfl
theorem zEZ{isMax:Bool}{r:List Value}:∀ {x x' v:Value} {r':List Value},WL σ x x'->WW σ r r'->zIR isMax x r=some v->
  ∃ cv,(r'.foldlM (if isMax then Builtin.max2 else Builtin.min2) x').run P w=.ok cv w/\WL σ v cv:=by
 induction r with
 |nil=>
  intro x x' v r' hx hl hv;have:r'=[]:=by have:=hl.1;simpa using this.symm
  subst this;simp only[zIR,QA]at hv;subst hv;exact⟨x',by simp,hx⟩
 |cons y r ih=>
  intro x x' v r' hx hl hv;match r',hl with
  |[],hl=>have:=hl.1;simp at this
  |y'::r',hl=>
   have hy:=hl.2 0 y y' rfl rfl;have hl':WW σ r r':=⟨by simpa using hl.1,fun i a b h1 h2=>hl.2 (i+1) a b (by simpa using h1) (by simpa using h2)⟩;unfold zIR at hv;split at hv
   ·rename_i heq;cases heq
   ·rename_i k n k' m r0 heq;cases heq;split at hv
    ·rename_i hk;cases hx;cases hy;obtain⟨cv,c1,c2⟩:=ih (WL.int k _) hl' hv;refine⟨cv,?_,c2⟩;rw[<-c1];cases isMax<;>simp[List.foldlM_cons,Builtin.max2,Builtin.min2]
    ·cases hv
   ·cases hv
theorem zHH(hr:Wg P B σ h w){ih:Ex}{t:WI Value}{a:Act}(ht:∀ k,WL σ (zC t k) (a.tmps.getD k Go.undef)){b:Builtin}{args:List Operand}{ts:List TypeId}{ty:TypeId}{consts:Array Bool}{op:W4}
  (hop:∀ x∈args,ZU P x=true) (hc:Yo P b args ts=some op) {v:Value} {h':WF} (ho:WN P ih t h op=some (v,h')):
  WY P B σ h w (builtin b ts.toArray ty consts (args.map a.eval).toArray) v h':=by
 have E:∀ x∈args,WL σ (ev t x) (a.eval x):=fun x hx=>zAB hr ht (hop x hx);unfold Yo at hc;split at hc
 ·
  rename_i x tt;have e1:=E x (by simp);split at hc
  ·rename_i n e hu;simp only[QA]at hc;subst hc;simp only[WN,QA,QD]at ho;obtain⟨rfl,rfl⟩:=ho;refine WY.same hr (cv:= .int .i64 n) ?_ (.int _ _);simp[Builtin.len_,run_underlying hu,goInt]
  ·rename_i e hu;split at hc
   ·rename_i n e' hu';simp only[QA]at hc;subst hc;simp only[WN,QA,QD]at ho;obtain⟨rfl,rfl⟩:=ho;refine WY.same hr (cv:= .int .i64 n) ?_ (.int _ _);simp[Builtin.len_,run_underlying hu,run_underlying hu',goInt]
   ·cases hc
  ·rename_i hu;simp only[QA]at hc;subst hc;simp only[WN]at ho;split at ho
   ·rename_i s hs;simp only[QA,QD]at ho;obtain⟨rfl,rfl⟩:=ho;rw[hs]at e1;have q1:a.eval x=.string s:=by generalize a.eval x=q at e1;cases e1;rfl
    refine WY.same hr (cv:= .int .i64 s.size) ?_ (.int _ _);simp[Builtin.len_,run_underlying hu,goInt,q1]
   ·cases ho
  ·rename_i e hu;simp only[QA]at hc;subst hc;simp only[WN]at ho;cases hl:zMf (ev t x)with
   |none=>simp[hl]at ho
   |some n=>
    simp only[hl,QH,QA,QD]at ho;obtain⟨rfl,rfl⟩:=ho;unfold zMf at hl;split at hl
    ·rename_i ad len k hs;simp only[QA]at hl;subst hl;rw[hs]at e1;have q1:∃ y cap,a.eval x=.slice y len cap:=by generalize a.eval x=q at e1;cases e1<;>exact⟨_,_,rfl⟩
     obtain⟨y,cap,q1⟩:=q1;refine WY.same hr (cv:= .int .i64 len) ?_ (.int _ _);simp[Builtin.len_,run_underlying hu,goInt,q1]
    ·cases hl
  ·rename_i kt e hu;simp only[QA]at hc;subst hc;simp only[WN]at ho;split at ho
   ·rename_i hs;simp only[QA,QD]at ho;obtain⟨rfl,rfl⟩:=ho;rw[hs]at e1;have q1:a.eval x=.map none:=by generalize a.eval x=q at e1;cases e1;rfl
    refine WY.same hr (cv:= .int .i64 0) ?_ (.int _ _);simp[Builtin.len_,run_underlying hu,goInt,q1]
   ·rename_i g hs;split at ho
    ·rename_i es clock hg;simp only[QA,QD]at ho;obtain⟨rfl,rfl⟩:=ho;rw[hs]at e1;obtain⟨pl,es',k1,k2,k3,k4⟩:=zA0 hr hg e1;refine WY.same hr (cv:= .int .i64 es.length) ?_ (.int _ _);have:es'.size=es.length:=by have:=k4.1;simpa using this.symm
     simp[Builtin.len_,run_underlying hu,goInt,k2,getObj,Sem.run,k3,this]
    ·cases ho
   ·cases ho
  ·cases hc
 ·
  rename_i s x tt u ts';have e1:=E s (by simp);have e2:=E x (by simp);cases hse:yQ P tt with
  |none=>simp[hse]at hc
  |some e=>
   have hu:P.underlying tt=some (.slice e):=by
    unfold yQ at hse;split at hse
    ·cases hse;assumption
    ·cases hse
   simp only[hse]at hc;cases hu':P.underlying u with
   |none=>
    rw[hu']at hc;cases he:ZM P e<;>simp[he]at hc
   |some d=>
    rw[hu']at hc;cases he:ZM P e with
    |none=>rw[he]at hc;cases d<;>cases hc
    |some c=>
     rw[he]at hc;cases d with
     |slice e'=>
      dsimp only at hc;cases hee:(e' == e)with
      |false=>rw[hee]at hc;cases hc
      |true=>
       rw[hee]at hc;simp only[cond_true,QA]at hc;subst hc;simp only[WN]at ho;exact WY.val (zJY hr hu hu' he e1 e2 ho)
     |_=>cases hc
 ·
  rename_i d s tt ts';have e1:=E d (by simp);have e2:=E s (by simp);cases hse:yQ P tt with
  |none=>simp[hse]at hc
  |some e=>
   have hu:P.underlying tt=some (.slice e):=by
    unfold yQ at hse;split at hse
    ·cases hse;assumption
    ·cases hse
   simp only[hse]at hc;cases he:ZM P e with
   |none=>simp[he]at hc
   |some c=>
    simp only[he,QH,QA]at hc;subst hc;simp only[WN]at ho;split at ho
    ·rename_i ad len k hd;rw[hd]at e1;split at ho
     ·rename_i ys hsrc;obtain⟨r1,r2⟩:=zMj (ty:=ty) (ts:=ts') hr hu he e1 e2 hsrc rfl;cases hm:Nat.beq (min (ys.length / c) len) 0 with
      |true=>
       simp only[hm,cond_true,QA,QD]at ho;obtain⟨rfl,rfl⟩:=ho;exact WY.same hr (r1 (QI hm)) (.int _ _)
      |false=>
       simp only[hm,QR]at ho;cases hb:(Nat.beq k c&&ad.spot.isNone)with
       |false=>simp[hb]at ho
       |true=>
        simp only[hb,cond_true]at ho;simp only[QJ]at hb;cases hst:ze h ad (ys.take (min (ys.length / c) len*c))with
        |none=>simp[hst]at ho
        |some h1=>
         simp only[hst,QH,QA,QD]at ho;obtain⟨rfl,rfl⟩:=ho;obtain⟨w',q1,q2⟩:=r2 _ (JE hm) (QI hb.1) (by simpa using hb.2) hst;exact WY.val ⟨σ,w',_,q1,.int _ _,q2⟩
     ·cases ho
    ·rename_i hd;rw[hd]at e1;have q1:a.eval d=.slice none 0 0:=by generalize a.eval d=q at e1;cases e1;rfl
     split at ho
     ·rename_i ys hsrc;simp only[QA,QD]at ho;obtain⟨rfl,rfl⟩:=ho;obtain⟨i,z,hi,hsz,hc0,_⟩:=ye he;subst hsz;obtain⟨n,zs,hl,hS⟩:=zBv hr hc0 e2 hsrc;have s1:=hS.1 w;have s2:=hS.2.2 0 (QU _) w.drawn;simp at s2;refine WY.same hr (cv:= .int .i64 0) ?_ (.int _ _);simp[Builtin.copy_,run_underlying hu,q1,s1,zu hi,s2,goInt]
     ·cases ho
    ·cases ho
 ·
  simp only[QA]at hc;subst hc;simp only[WN]at ho;split at ho
  ·rename_i x r;cases hm:zIR true (ev t x) (r.map (ev t))with
   |none=>simp[hm]at ho
   |some u=>
    simp only[hm,QH,QA,QD]at ho;obtain⟨rfl,rfl⟩:=ho;obtain⟨cv,c1,c2⟩:=zEZ (P:=P) (w:=w) (E x (by simp)) (zAX hr ht (fun y hy=>hop y (by simp[hy]))) hm;refine WY.same hr ?_ c2;simpa [Builtin.max_]using c1
  ·cases ho
 ·simp only[QA]at hc;subst hc;simp only[WN]at ho;split at ho
  ·rename_i x r;cases hm:zIR false (ev t x) (r.map (ev t))with
   |none=>simp[hm]at ho
   |some u=>
    simp only[hm,QH,QA,QD]at ho;obtain⟨rfl,rfl⟩:=ho;obtain⟨cv,c1,c2⟩:=zEZ (P:=P) (w:=w) (E x (by simp)) (zAX hr ht (fun y hy=>hop y (by simp[hy]))) hm;refine WY.same hr ?_ c2;simpa [Builtin.min_]using c1
  ·cases ho
 ·
  rename_i m k tt ts';have e1:=E m (by simp);have e2:=E k (by simp);split at hc
  ·rename_i kt e hu;split at hc
   ·rename_i d hk;simp only[QA]at hc;subst hc;simp only[WN]at ho;split at ho
    ·rename_i g kk n h1 h2;rw[h1]at e1;rw[h2]at e2;have q2:a.eval k=.int kk n:=by generalize a.eval k=q at e2;cases e2;rfl
     split at ho
     ·rename_i es clock hg;have fin:∀ h1,(∃ w',(Builtin.delete_ (tt::ts').toArray ty #[a.eval m,.int kk n]).run P w=.ok (.tuple #[]) w'/\Wy P B σ h w σ h1 w')->
        WY P B σ h w (builtin .delete (tt::ts').toArray ty consts ([m,k].map a.eval).toArray) (.tuple #[]) h1:=fun h1 ⟨w',r1,r2⟩=>by
       have:([m,k].map a.eval).toArray=#[a.eval m,.int kk n]:=by simp[q2]
       rw[this];exact WY.val ⟨σ,w',.tuple #[],r1,.tuple rfl (fun i x y h=>by simp at h),r2⟩
      split at ho
      ·rename_i i u hf;simp only[QA,QD]at ho;obtain⟨rfl,rfl⟩:=ho;exact fin _ (zEV (ty:=ty) (ts:=ts') hu hk hr hg e1 hf)
      ·rename_i hf;simp only[QA,QD]at ho;obtain⟨rfl,rfl⟩:=ho;exact fin _ (zEV (ty:=ty) (ts:=ts') hu hk hr hg e1 hf)
      ·cases ho
     ·cases ho
    ·cases ho
   ·cases hc
  ·cases hc
 ·
  rename_i m tt ts';have e1:=E m (by simp);split at hc
  ·rename_i kt e hu;simp only[QA]at hc;subst hc;simp only[WN]at ho;split at ho
   ·rename_i g h1;rw[h1]at e1;split at ho
    ·rename_i es clock hg;simp only[QA,QD]at ho;obtain⟨rfl,rfl⟩:=ho;obtain⟨w',r1,r2⟩:=zEw (ty:=ty) (ts:=ts') hr hu hg e1;exact WY.val ⟨σ,w',.tuple #[],r1,.tuple rfl (fun i x y h=>by simp at h),r2⟩
    ·cases ho
   ·cases ho
  ·rename_i e hu;split at hc
   ·rename_i n z he hz;simp only[QA]at hc;subst hc;obtain⟨q1,q2⟩:=zJJ (ty:=ty) (ts:=ts') hr hu he hz e1;simp only[WN,zBK]at ho;split at ho
    ·rename_i h1;simp only[QA,QD]at ho;obtain⟨rfl,rfl⟩:=ho;exact WY.val ⟨σ,w,.tuple #[],q1 (.inl h1),.tuple rfl (fun i x y h=>by simp at h),.refl hr⟩
    ·rename_i ad len k h1;cases hn:Nat.beq len 0 with
     |true=>
      have:=QI hn;subst this;simp only[hn,cond_true,QA,QD]at ho;obtain⟨rfl,rfl⟩:=ho;exact WY.val ⟨σ,w,.tuple #[],q1 (.inr ⟨ad,k,h1⟩),.tuple rfl (fun i x y h=>by simp at h),.refl hr⟩
     |false=>
      simp only[hn,QR]at ho;cases hk:Nat.beq k n with
      |false=>simp[hk]at ho
      |true=>
       simp only[hk,cond_true]at ho;cases hst:ze h ad (zS z len)with
       |none=>simp[hst]at ho
       |some h2=>
        simp only[hst,QH,QA,QD]at ho;obtain⟨rfl,rfl⟩:=ho;obtain⟨w',r1,r2⟩:=q2 ad len k _ h1 (JE hn) (QI hk) hst;exact WY.val ⟨σ,w',.tuple #[],r1,.tuple rfl (fun i x y h=>by simp at h),r2⟩
    ·cases ho
   ·cases hc
  ·cases hc
 ·cases hc
theorem zGo(hr:Wg P B σ h w){ih:Ex}{t:WI Value}{a:Act}(ht:∀ k,WL σ (zC t k) (a.tmps.getD k Go.undef)){b:Builtin}{args:List Operand}{ts:List TypeId}{ty:TypeId}{consts:Array Bool}{op:W4}
  (hop:∀ x∈args,ZU P x=true) (hc:Yi P b args ts=some op) {v:Value} {h':WF} (ho:WN P ih t h op=some (v,h')):
  WY P B σ h w (builtin b ts.toArray ty consts (args.map a.eval).toArray) v h':=by
 have E:∀ x∈args,WL σ (ev t x) (a.eval x):=fun x hx=>zAB hr ht (hop x hx);unfold Yi at hc;split at hc
 ·rename_i x y;have e1:=E x (by simp);have e2:=E y (by simp);simp only[QA]at hc;subst hc;simp only[WN]at ho;obtain⟨vv,hu,ho⟩:=QP.1 ho;simp only[QD]at ho;obtain⟨rfl,rfl⟩:=ho;unfold zPU at hu;split at hu
  ·rename_i k u k' u' h1 h2;rw[h1]at e1;rw[h2]at e2;split at hu
   ·rename_i hk;subst hk;simp only[QA]at hu;subst hu;have c1:=e1.closed_eq rfl;have c2:=e2.closed_eq rfl;have q:Builtin.complex_ ts.toArray ty #[.float k u,.float k u']=pure (.complex k u u'):=by
     show(if k=k then pure (.complex k u u')else stuck "complex: parts of different kinds":Sem Value)=_;rw[QG rfl]
    have q2:([x,y].map a.eval).toArray=#[.float k u,.float k u']:=by simp[c1,c2]
    rw[q2];exact WY.same (s:=Builtin.complex_ ts.toArray ty #[.float k u,.float k u']) hr (by rw[q];rfl) (.complex k u u')
   ·cases hu
  ·cases hu
 ·rename_i x;have e1:=E x (by simp);simp only[QA]at hc;subst hc;simp only[WN]at ho;obtain⟨vv,hu,ho⟩:=QP.1 ho;simp only[QD]at ho;obtain⟨rfl,rfl⟩:=ho;unfold zJK at hu;split at hu
  ·rename_i k u u' h1;rw[h1]at e1;simp only[QA]at hu;subst hu;have c1:=e1.closed_eq rfl;have q2:([x].map a.eval).toArray=#[.complex k u u']:=by simp[c1]
   rw[q2];exact WY.same (s:=Builtin.real_ ts.toArray ty #[.complex k u u']) hr rfl (.float k _)
  ·cases hu
 ·rename_i x;have e1:=E x (by simp);simp only[QA]at hc;subst hc;simp only[WN]at ho;obtain⟨vv,hu,ho⟩:=QP.1 ho;simp only[QD]at ho;obtain⟨rfl,rfl⟩:=ho;unfold zJK at hu;split at hu
  ·rename_i k u u' h1;rw[h1]at e1;simp only[QA]at hu;subst hu;have c1:=e1.closed_eq rfl;have q2:([x].map a.eval).toArray=#[.complex k u u']:=by simp[c1]
   rw[q2];exact WY.same (s:=Builtin.imag_ ts.toArray ty #[.complex k u u']) hr rfl (.float k _)
  ·cases hu
 ·simp only[QA]at hc;subst hc;cases ho
 ·exact zHH hr ht hop hc ho
theorem zBm{P:Program}(f:Operand)(args:List Operand):zJi P f args=.call f args\/∃ g x rt,f=.func g/\args=[x]/\Y4 P g "internal/reflectlite.TypeOf"=true/\zKG P=some rt/\zJi P f args=.typeOf rt x:=by
 unfold zJi;split
 ·rename_i g x;cases he:Y4 P g "internal/reflectlite.TypeOf" with
  |false=>exact .inl rfl
  |true=>
   simp only[cond_true];split
   ·rename_i rt hrt;exact .inr ⟨g,x,rt,rfl,rfl,he,hrt,rfl⟩
   ·exact .inl rfl
 ·exact .inl rfl
theorem WL.agg_inv{cs:Array Value}{q:Value}(hv:WL σ (.agg cs) q):∃ cs',q=.agg cs'/\WW σ cs.toList cs'.toList:=by
 cases hv with
 |agg ha ra=>exact⟨_,rfl,by simpa using ha,fun i x y hx hy=>ra i x y (by simpa using hx) (by simpa using hy)⟩
theorem WL.ptr_inv{a:Addr}{q:Value}(hv:WL σ (.pointer (some a)) q):∃ pl,σ a.block=some pl/\q=.pointer (some ⟨pl.b,pl.base+a.off,none⟩):=by
 cases hv with
 |ptr hp=>exact⟨_,hp,rfl⟩
theorem zOK(hr:Wg P B σ h w){ih:Ex}{t:WI Value}{a:Act}(ht:∀ k,WL σ (zC t k) (a.tmps.getD k Go.undef)){o:Oper}{op:W4}(hc:SA P o=some op)(hnc:(∀ f args,op≠ .call f args)/\∀ x n args,op≠ .invoke x n args){v:Value}{h':WF}
  (ho:WN P ih t h op=some (v,h')):WY P B σ h w (execOp a.eval o) v h':=by
 unfold SA at hc;cases hok:zBl P o.op.operands.toList with
 |false=>simp[hok]at hc
 |true=>
 simp only[hok,QS,QR]at hc;have hop:∀ x∈o.op.operands.toList,ZU P x=true:=fun x hx=>QV.1 hok x hx;clear hok;have E:∀ x∈o.op.operands.toList,WL σ (ev t x) (a.eval x):=fun x hx=>zAB hr ht (hop x hx);unfold execOp;cases hq:o.op with
 |move x=>
  simp only[hq,QA]at hc;subst hc;simp only[WN,QA,QD]at ho;obtain⟨rfl,rfl⟩:=ho;exact⟨σ,w,.inl ⟨_,rfl,E x (by simp[hq,Op.operands])⟩,Wy.refl hr⟩
 |assign x=>
  simp only[hq,QA]at hc;subst hc;simp only[WN,QA,QD]at ho;obtain⟨rfl,rfl⟩:=ho;exact⟨σ,w,.inl ⟨_,rfl,E x (by simp[hq,Op.operands])⟩,Wy.refl hr⟩
 |pick c x y=>
  simp only[hq,QA]at hc;subst hc;have e1:=E c (by simp[hq,Op.operands]);have e2:=E x (by simp[hq,Op.operands]);have e3:=E y (by simp[hq,Op.operands]);simp only[WN]at ho;split at ho
  ·rename_i b hb;simp only[QA,QD]at ho;obtain⟨rfl,rfl⟩:=ho;rw[hb]at e1;have e4:a.eval c=.bool b:=by generalize a.eval c=q at e1;cases e1;rfl
   refine⟨σ,w,.inl ⟨if b then a.eval x else a.eval y,by simp[e4,asBool],?_⟩,Wy.refl hr⟩;cases b<;>simpa
  ·cases ho
 |alloc e=>
  simp only[hq]at hc;cases hz:YV P e with
  |none=>simp[hz]at hc
  |some zs=>
   simp only[hz,QH,QA]at hc;subst hc;obtain⟨i,z,hi,hzz,rfl,hzs,hcl⟩:=yy hz;simp only[WN,QA,QD]at ho;obtain⟨rfl,rfl⟩:=ho;refine WY.val ?_;obtain⟨σ',w',cv,r1,r2,r3⟩:=zJn hr (VN σ hcl) e;refine⟨σ',w',cv,?_,r2,r3⟩;simp[newRow]at r1;simp[Instr.alloc,zeroValue,typeInfo,hi,hzz,newVar,newRow,r1]
 |box e x=>
  simp only[hq,QA]at hc;subst hc;simp only[WN,QA,QD]at ho;obtain⟨rfl,rfl⟩:=ho;refine WY.val ?_;obtain⟨σ',w',cv,r1,r2,r3⟩:=zJn hr (E x (by simp[hq,Op.operands])).cells e;refine⟨σ',w',cv,?_,r2,r3⟩;simp[newRow]at r1;simp[Instr.box,newVar,newRow,r1]
 |build ty parts=>
  simp only[hq]at hc;have hparts:∀ x∈parts.toList,ZU P x.2=true:=fun x hx=>hop x.2 (by simp[hq,Op.operands];exact⟨x.1,by simpa using hx⟩);split at hc
  ·rename_i zs fs hz hu;cases hfs:fs.toList.all (fun f=>(ZA P f.type).isSome)with
   |false=>simp[hfs]at hc
   |true=>
   simp only[hfs,QS,QR]at hc;cases hps:Z1 (zFz P fs) parts.toList with
   |none=>simp[hps]at hc
   |some ps=>
    simp only[hps,QH,QA]at hc;subst hc;obtain⟨i,z,hi,hzz,rfl,hzs,hcl⟩:=yy hz;simp only[WN]at ho;cases hf:y9 z.cells.toList (zr t ps)with
    |none=>simp[hf]at ho
    |some cells=>
     simp only[hf,QH,QA,QD]at ho;obtain⟨rfl,rfl⟩:=ho;obtain⟨q1,q2⟩:=zBH hr ht hparts hps;have hfill:=zB2 (parts.toList.map fun x=>(x.1,a.eval x.2)) (fun i=>(fs.map fun f=>(f.offset,(ZA P f.type).getD 0))[i]?) z.cells.toList z.cells.toList (zr t ps) cells (VN σ hcl) q1
      (fun j i v o n u h1 h2=>by
       obtain⟨a1,a2⟩:=q2 j i v o n u h1 h2;refine⟨?_,a2⟩;unfold zFz at a1;cases hfi:fs[i]? with
       |none=>simp[hfi]at a1
       |some f=>
        simp only[hfi]at a1;cases hts:ZA P f.type with
        |none=>simp[hts]at a1
        |some m=>simp[hts]at a1;simp[hfi,hts,a1]) hf
     obtain⟨ys,f1,f2⟩:=hfill;refine WY.same hr ?_ (Vd f2);have hfl:=zI7 (P:=P) (w:=w) hfs;simp only[Gm]at f1;have hpt:(parts.map fun x=>(x.1,a.eval x.2)).toList=parts.toList.map fun x=>(x.1,a.eval x.2):=by simp
     simp only[Instr.build,zeroValue,typeInfo,Sem.run_bind,run_program,Result.andThen_ok,hi,hzz,Sem.run_pure,run_underlying hu,hfl,hpt,f1]
  ·rename_i zs len e hz hu;cases hts:ZA P e with
   |none=>simp[hts]at hc
   |some n=>
   simp only[hts]at hc;cases hps:Z1 (fun i=>some (i*n,n)) parts.toList with
   |none=>simp[hps]at hc
   |some ps=>
    simp only[hps,QH,QA]at hc;subst hc;obtain⟨i,z,hi,hzz,rfl,hzs,hcl⟩:=yy hz;obtain⟨ie,hie,hsz⟩:=YE hts;simp only[WN]at ho;cases hf:y9 z.cells.toList (zr t ps)with
    |none=>simp[hf]at ho
    |some cells=>
     simp only[hf,QH,QA,QD]at ho;obtain⟨rfl,rfl⟩:=ho;obtain⟨q1,q2⟩:=zBH hr ht hparts hps;obtain⟨ys,f1,f2⟩:=zB2 (parts.toList.map fun x=>(x.1,a.eval x.2)) (fun i=>some (i*n,n)) z.cells.toList z.cells.toList (zr t ps) cells (VN σ hcl) q1 q2 hf;refine WY.same hr ?_ (Vd f2);simp only[Gm]at f1;have hpt:(parts.map fun x=>(x.1,a.eval x.2)).toList=parts.toList.map fun x=>(x.1,a.eval x.2):=by simp
     simp only[Instr.build,zeroValue,typeInfo,Sem.run_bind,run_program,Result.andThen_ok,hi,hzz,Sem.run_pure,run_underlying hu,zu hie,hsz,hpt,f1]
  ·cases hc
 |buildSlice ty len parts=>
  simp only[hq]at hc;have hparts:∀ x∈parts.toList,ZU P x.2=true:=fun x hx=>hop x.2 (by simp[hq,Op.operands];exact⟨x.1,by simpa using hx⟩);cases hse:yQ P ty with
  |none=>simp[hse]at hc
  |some e=>
  have hu:P.underlying ty=some (.slice e):=by
   unfold yQ at hse;split at hse
   ·cases hse;assumption
   ·cases hse
  simp only[hse]at hc;split at hc
  ·rename_i n zs he hz;cases hb:Nat.ble (len*n) 65536 with
   |false=>simp[hb]at hc
   |true=>
   simp only[hb,cond_true]at hc;cases hps:Z1 (fun i=>some (i*n,n)) parts.toList with
   |none=>simp[hps]at hc
   |some ps=>
    simp only[hps,QH,QA]at hc;subst hc;obtain⟨i,z,hi,hsz,hc0,_,_,hzz,hzc⟩:=ye he;obtain⟨i',z',hi',hzz',rfl,hzs,hcl⟩:=yy hz;rw[hi]at hi';cases hi';rw[hzz]at hzz';cases hzz';subst hsz;simp only[WN]at ho;cases hf:y9 (zS z.cells.toList len) (zr t ps)with
    |none=>simp[hf]at ho
    |some cells=>
     simp only[hf,QH,QA,mk,QD]at ho;obtain⟨rfl,rfl⟩:=ho;obtain⟨q1,q2⟩:=zBH hr ht hparts hps;have hrc:WW σ (zS z.cells.toList len) (zS z.cells.toList len):=VN σ (Y6 hcl len);obtain⟨ys,f1,f2⟩:=zB2 (parts.toList.map fun x=>(x.1,a.eval x.2)) (fun i_1=>some (i_1*i.size,i.size)) _ _ (zr t ps) cells hrc q1 q2 hf;refine WY.val ?_;have hp:=zCR hr f2 [] e 0;rw[G5]at hp;have hlen:ys.length=len*i.size:=by
      have hfl:∀ (qs:List (Nat×Nat×Value)) (xs r:List Value),y9 xs qs=some r->r.length=xs.length:=fun qs=>by
       induction qs with
       |nil=>intro xs r h;simp[y9]at h;rw[h]
       |cons q qs ihq=>
        intro xs r h;obtain⟨o1,n1,u1⟩:=q;simp only[y9]at h;cases hbb:(Nat.beq u1.cells.size n1&&Nat.ble (o1+n1) xs.length)with
        |false=>simp[hbb]at h
        |true=>
         simp only[hbb,cond_true]at h;simp only[QJ]at hbb;have b1:=QI hbb.1;have b2:=QO hbb.2;rw[ihq _ _ h];simp[zO];omega
      rw[<-f2.1,hfl _ _ _ hf,zn];simp[hzc]
     refine⟨_,_,.slice (some ⟨w.heap.size,0,none⟩) len len,?_,WL.slice (pl:=⟨w.heap.size,0,ys.length+0⟩) (yG _ _ _) hc0 (QE _) (by simp[hlen]),hp⟩;have hbig:¬(16777216<len*i.size):=by have:=QO hb;omega
     have hmade:((Array.range (len*i.size)).map (z.cells[· % z.cells.size]!))=(zS z.cells.toList len).toArray:=by
      apply JC;rw[<-zAO z.cells (by omega) len];simp[hzc]
     by_cases hl0:len*i.size=0
     ·have hl1:len=0:=by rcases Nat.mul_eq_zero.1 hl0 with h|h<;>omega
      subst hl1;have hr0:Array.range 0=#[]:=rfl;simp only[zS]at f1;simp[Instr.buildSlice,run_underlying hu,zu hi,newRow,hr0,f1]
     ·simp[Instr.buildSlice,run_underlying hu,zu hi,zeroValue,typeInfo,hi,hzz,hbig,newRow,hmade,f1];intro h0;exact absurd h0 hl0
  ·cases hc
 |load ty x=>
  simp only[hq]at hc;split at hc
  ·rename_i g n hg hn;simp only[QA]at hc;subst hc;have e1:=E x (by simp[hq,Op.operands]);simp only[WN]at ho;split at ho
   ·rename_i ad had;rw[had]at e1;cases hsp:ad.spot with
    |some s=>simp[hsp]at ho
    |none=>
     simp only[hsp,Qf,cond_true]at ho;cases hrow:zv h ad.block with
     |none=>simp[hrow]at ho
     |some cells=>
      simp only[hrow,QQ]at ho;cases hcut:cut cells ad.off n with
      |none=>simp[hcut]at ho
      |some xs=>
       simp only[hcut,QQ]at ho;cases hof:zI g xs with
       |none=>simp[hof]at ho
       |some u=>
        simp only[hof,QH,QA,QD]at ho;obtain⟨rfl,rfl⟩:=ho;obtain⟨pl,ys,c1,c2,c3,c4,c5⟩:=zBG hr hrow hcut;obtain⟨cv,d1,d2⟩:=Y1 c2 hof;obtain⟨b,off,sp⟩:=ad;simp only at hsp c1 c5;subst hsp;generalize hev:a.eval x=q at e1;cases e1 with
        |ptr hp=>
         rw[c1]at hp;cases hp;refine WY.same hr ?_ d2;have:=zA1 (P:=P) (w:=w) hg hn c3 c5 d1;simp[Instr.loadAt,Instr.sureAddr,hev,this]
   ·cases ho
  ·cases hc
 |store ty x y=>
  simp only[hq]at hc;cases hn:ZA P ty with
  |none=>simp[hn]at hc
  |some n=>
   simp only[hn,QH,QA]at hc;subst hc;have e1:=E x (by simp[hq,Op.operands]);have e2:=E y (by simp[hq,Op.operands]);simp only[WN]at ho;split at ho
   ·rename_i ad had;rw[had]at e1;cases hsz:Nat.beq (ev t y).cells.size n with
    |false=>simp[hsz]at ho
    |true=>
     simp only[hsz,cond_true]at ho;have hsz:=QI hsz;cases hst:ze h ad (ev t y).cells.toList with
     |none=>simp[hst]at ho
     |some h1=>
      simp only[hst,QH,QA,QD]at ho;obtain⟨rfl,rfl⟩:=ho;obtain⟨i,hi,hs⟩:=YE hn;generalize hev:a.eval x=q at e1;cases e1 with
      |ptr hp=>
       obtain⟨w',r1,r2⟩:=zBo hr (WL.ptr hp) e2.cells hst;refine VZ ⟨σ,w',?_,r2⟩;have hsz2:(a.eval y).cells.size=i.size:=by have:=e2.cells.1;simp at this;omega
       simp[Instr.storeAt,Instr.sureAddr,hev,storeVar,zu hi,hsz2,r1]
   ·cases ho
 |nilCheck x=>
  simp only[hq,QA]at hc;subst hc;have e1:=E x (by simp[hq,Op.operands]);generalize hev:a.eval x=q at e1;simp only[WN]at ho;obtain⟨u,hu,ho⟩:=QP.1 ho;simp only[QD]at ho;obtain⟨rfl,rfl⟩:=ho;unfold Zv at hu;split at hu
  ·rename_i ad had;rw[had]at e1;simp only[QA]at hu;subst hu;refine⟨σ,w,.inl ⟨q,?_,e1⟩,Wy.refl hr⟩;cases e1;simp[hev]
  ·rename_i f first cap had
   rw[had]at e1;simp only[QA]at hu;subst hu;refine⟨σ,w,.inl ⟨q,?_,e1⟩,Wy.refl hr⟩;cases e1;simp[hev]
  ·rename_i f first cap had
   rw[had]at e1;simp only[QA]at hu;subst hu;refine⟨σ,w,.inl ⟨q,?_,e1⟩,Wy.refl hr⟩;cases e1;simp[hev]
  ·cases hu
 |binOp bop ty x y ty2=>
  simp only[hq]at hc;have e1:=E x (by simp[hq,Op.operands]);have e2:=E y (by simp[hq,Op.operands]);have hbin:op=.bin bop x y->(∃ k,P.underlying ty=some (.int k))->WY P B σ h w (do pure (.value (<-(do eqGuard bop ty x y (a.eval x) (a.eval y);binOp bop ty (a.eval x) (a.eval y))))) v h':=fun hop _=>by
   subst hop;simp only[WN]at ho;cases hb:yC bop (ev t x) (ev t y)with
   |none=>simp[hb]at ho
   |some u=>
    simp only[hb,QH,QA,QD]at ho;obtain⟨rfl,rfl⟩:=ho;obtain⟨r1,r2⟩:=zLy (P:=P) (w:=w) e1 e2 hb ty;refine WY.same hr ?_ r2;have hg:(eqGuard bop ty x y (a.eval x) (a.eval y)).run P w=.ok () w:=by
     have:∃ k n,ev t x=.int k n:=by
      unfold yC at hb;split at hb<;>first|(cases hb;done)|(rename_i h1 _;exact⟨_,_,h1⟩)|(rename_i h1 h2;exact⟨_,_,h1⟩)
     obtain⟨k,n,hk⟩:=this;rw[hk]at e1;generalize a.eval x=q at e1;cases e1;unfold eqGuard;split<;>rfl
    simp[hg,r1]
  have hbinP:op=.binP bop ty x y->WY P B σ h w (do pure (.value (<-(do eqGuard bop ty x y (a.eval x) (a.eval y);binOp bop ty (a.eval x) (a.eval y))))) v h':=fun hop=>by
   subst hop;simp only[WN]at ho;cases hcl:(Yb (ev t x)&&Yb (ev t y))with
   |false=>simp[hcl]at ho
   |true=>
    simp only[hcl,cond_true]at ho;simp only[QJ]at hcl;split at ho
    ·rename_i u hp;cases hcu:yS u with
     |false=>simp[hcu]at ho
     |true=>
      simp only[hcu,cond_true,QA,QD]at ho;obtain⟨rfl,rfl⟩:=ho;have q1:=e1.closedD_eq hcl.1;have q2:=e2.closedD_eq hcl.2;rw[q1,q2];exact WY.same hr (zCy _ hp) (VM σ hcu)
    ·cases ho
  have hnil:∀ (d:TypeDesc) (k:Nat) (neg:Bool) (z u:Operand),P.underlying ty=some d->YO d=some k->zAD k u=true->bop=(if neg then .neq else .eql)->op=.isNil k neg z->((x=z/\y=u)\/(x=u/\y=z))->
    WY P B σ h w (do pure (.value (<-(do eqGuard bop ty x y (a.eval x) (a.eval y);binOp bop ty (a.eval x) (a.eval y))))) v h':=fun d k neg z u hd hk hu hb hop2 hxy=>by
   subst hop2;simp only[WN]at ho;cases hn:zDK k (ev t z)with
   |none=>simp[hn]at ho
   |some b=>
    simp only[hn,QH,QA,QD]at ho;obtain⟨rfl,rfl⟩:=ho;have hcst:∃ c,u=.const c:=by
     cases u with
     |const c=>exact⟨c,rfl⟩
     |_=>unfold zAD at hu;split at hu<;>simp_all
    obtain⟨c,hcc⟩:=hcst;subst hb;rcases hxy with⟨rfl,rfl⟩|⟨rfl,rfl⟩
    ·have:=(zGv (P:=P) (w:=w) hd hk e1 hn hu hcc x neg).1;subst hcc;exact WY.same hr this (.bool _)
    ·have:=(zGv (P:=P) (w:=w) hd hk e2 hn hu hcc y neg).2;subst hcc;exact WY.same hr this (.bool _)
  have hbool:∀ neg,P.underlying ty=some .bool->bop=(if neg then .neq else .eql)->op=.binB neg x y->WY P B σ h w (do pure (.value (<-(do eqGuard bop ty x y (a.eval x) (a.eval y);binOp bop ty (a.eval x) (a.eval y))))) v h':=fun neg hd hb hop2=>by
   subst hop2 hb;simp only[WN]at ho;split at ho
   ·rename_i b1 b2 h1 h2;simp only[QA,QD]at ho;obtain⟨rfl,rfl⟩:=ho;rw[h1]at e1;rw[h2]at e2;have q1:a.eval x=.bool b1:=by generalize a.eval x=q at e1;cases e1;rfl
    have q2:a.eval y=.bool b2:=by generalize a.eval y=q at e2;cases e2;rfl
    rw[q1,q2];have hE:(Op.equal ty (.bool b1) (.bool b2)).run P w=.ok (b1 == b2) w:=by
     have:∀ D,(Op.equalIn (D+1) ty (.bool b1) (.bool b2)).run P w=.ok (b1 == b2) w:=fun D=>by rw[Op.equalIn,Sem.run_bind,run_underlying hd];rfl
     exact this 9999
    refine WY.same hr ?_ (.bool _);cases neg
    ·simp[eqGuard,binOp,hE]
    ·simp[eqGuard,binOp,hE];cases b1<;>cases b2<;>rfl
   ·cases ho
  dsimp only;cases hd:P.underlying ty with
  |none=>simp[hd]at hc
  |some d=>
   simp only[hd]at hc;cases d with
   |int k=>simp only[QA]at hc;exact hbin hc.symm ⟨k,hd⟩
   |bool=>
    simp only at hc;split at hc
    ·simp only[QA]at hc;exact hbool false hd rfl hc.symm
    ·simp only[QA]at hc;exact hbool true hd rfl hc.symm
    ·cases hc
   |struct _=>simp only[QA]at hc;exact hbinP hc.symm
   |array _ _=>simp only[QA]at hc;exact hbinP hc.symm
   |string=>simp only[QA]at hc;exact hbinP hc.symm
   |float _=>simp only[QA]at hc;exact hbinP hc.symm
   |complex _=>simp only[QA]at hc;exact hbinP hc.symm
   |_=>
    simp only[YO]at hc;first
     |(cases hc;done)
     |(split at hc
       all_goals first
        |(cases hc;done)
        |(simp only[QA]at hc;first
          |exact hnil _ _ false x y hd rfl (by assumption) rfl hc.symm (.inl ⟨rfl,rfl⟩)
          |exact hnil _ _ true x y hd rfl (by assumption) rfl hc.symm (.inl ⟨rfl,rfl⟩)
          |exact hnil _ _ false y x hd rfl (by assumption) rfl hc.symm (.inr ⟨rfl,rfl⟩)
          |exact hnil _ _ true y x hd rfl (by assumption) rfl hc.symm (.inr ⟨rfl,rfl⟩)))
     |(split at hc
       all_goals first
        |(cases hc;done)
        |(simp only[QA]at hc;first
          |exact hnil _ _ false x y hd rfl (by assumption) rfl hc.symm (.inl ⟨rfl,rfl⟩)
          |exact hnil _ _ true x y hd rfl (by assumption) rfl hc.symm (.inl ⟨rfl,rfl⟩)
          |exact hnil _ _ false y x hd rfl (by assumption) rfl hc.symm (.inr ⟨rfl,rfl⟩)
          |exact hnil _ _ true y x hd rfl (by assumption) rfl hc.symm (.inr ⟨rfl,rfl⟩))
        |(simp only[Nat.beq,QR,reduceCtorEq]at hc;done)
        |(simp only[Nat.beq,cond_true,QA]at hc;exact hbinP hc.symm))
 |unOp uop ty x=>
  simp only[hq,QA]at hc;subst hc;have e1:=E x (by simp[hq,Op.operands]);simp only[WN]at ho;cases hu:unV uop (ev t x)with
  |none=>simp[hu]at ho
  |some u=>
   simp only[hu,QH,QA,QD]at ho;obtain⟨rfl,rfl⟩:=ho;obtain⟨r1,r2⟩:=zPC (P:=P) (w:=w) e1 hu;exact WY.same hr r1 r2
 |convert s d x=>
  simp only[hq]at hc;have e1:=E x (by simp[hq,Op.operands]);have hconvP:op=.convP s d x->WY P B σ h w (do pure (.value (<-convert s d (a.eval x)))) v h':=fun hop=>by
   subst hop;simp only[WN]at ho;cases hcl:yS (ev t x)with
   |false=>simp[hcl]at ho
   |true=>
    simp only[hcl,cond_true]at ho;split at ho
    ·rename_i u hp;cases hcu:yS u with
     |false=>simp[hcu]at ho
     |true=>
      simp only[hcu,cond_true,QA,QD]at ho;obtain⟨rfl,rfl⟩:=ho;rw[e1.closed_eq hcl];exact WY.same hr (zCy _ hp) (VM σ hcu)
    ·cases ho
  split at hc
  ·rename_i k1 k2 h1 h2;simp only[QA]at hc;subst hc;simp only[WN]at ho;split at ho
   ·rename_i k n hn;simp only[QA,QD]at ho;obtain⟨rfl,rfl⟩:=ho;rw[hn]at e1;generalize hev:a.eval x=q at e1;cases e1;refine WY.same hr (cv:= .int k2 (k2.wrap n)) ?_ (.int _ _);show(convert s d (a.eval x)).run P w=_;rw[hev];simp[convert,run_underlying h1,run_underlying h2,Conv.intToInt]
   ·cases ho
  all_goals first
   |(simp only[QA]at hc;exact hconvP hc.symm)
   |(cases hc;done)
   |skip
  ·rename_i e h1 h2;split at hc
   ·rename_i h3;split at hc
    ·simp only[QA]at hc;subst hc;simp only[WN]at ho;obtain⟨vv,hu,ho⟩:=QP.1 ho;simp only[QD]at ho;obtain⟨rfl,rfl⟩:=ho;unfold zFG at hu;split at hu
     ·rename_i l hl;obtain⟨b,hb,hu⟩:=QP.1 hu;subst hu;have r1:=zKR hr e1 hl hb;have hsl:∃ ad len cap,a.eval x=.slice ad len cap:=by
       generalize a.eval x=q at e1;unfold yM at hl;split at hl
       ·rename_i heq;rw[heq]at e1;cases e1;exact⟨_,_,_,rfl⟩
       ·rename_i heq;rw[heq]at e1;cases e1<;>exact⟨_,_,_,rfl⟩
       ·cases hl
      obtain⟨ad,len,cap,hsl⟩:=hsl;refine WY.same (s:=convert s d (a.eval x)) hr ?_ (.string _);rw[hsl]at r1 |-;rw[run_convert_bytes_string w s d e ad len cap h1 h3 h2];exact r1
     ·cases hu
    ·cases hc
   ·cases hc
 |makeFunc fn first cap=>
  simp only[hq,QA]at hc;subst hc;simp only[WN]at ho;split at ho
  ·simp only[QA,QD]at ho;obtain⟨rfl,rfl⟩:=ho;have l1:=zAX hr ht (l:=first.toList) (fun x hx=>hop x (by simp[hq,Op.operands];left;simpa using hx));have l2:=zAX hr ht (l:=cap.toList) (fun x hx=>hop x (by simp[hq,Op.operands];right;simpa using hx));refine WY.same hr rfl ?_;refine .func _ (by simp) (by simp) (fun i x y hx hy=>l1.2 i x y (by simpa using hx) (by simpa using hy)) (fun i x y hx hy=>l2.2 i x y (by simpa using hx) (by simpa using hy))
  ·cases ho
 |makeMap ty r=>
  simp only[hq]at hc;cases r with
  |some r=>simp at hc
  |none=>
   simp only at hc;split at hc
   ·rename_i k e hu;simp only[QA]at hc;subst hc;simp only[WN,QA,QD]at ho;obtain⟨rfl,rfl⟩:=ho;have hp:Wy P B σ h w (ZY σ h.n ⟨w.heap.size,0,0⟩) (h.push (.map [] 0)) (w.alloc (.map #[] 0)):=
     hr.push rfl ⟨rfl,rfl,rfl⟩ ⟨#[],by show(w.heap.push _)[w.heap.size]?=_;simp,BX.nil⟩
    exact WY.val ⟨_,_,.map (some w.heap.size),by simp[Instr.makeMap],WL.map (pl:=⟨w.heap.size,0,0⟩) (yG _ _ _),hp⟩
   ·cases hc
 |makeSlice ty l c=>
  simp only[hq]at hc;have e1:=E l (by simp[hq,Op.operands]);have e2:=E c (by simp[hq,Op.operands]);cases hse:yQ P ty with
  |none=>simp[hse]at hc
  |some e=>
   have hu:P.underlying ty=some (.slice e):=by
    unfold yQ at hse;split at hse
    ·cases hse;assumption
    ·cases hse
   simp only[hse]at hc;split at hc
   ·rename_i n zs he hz;simp only[QA]at hc;subst hc;simp only[WN]at ho;split at ho
    ·rename_i ln cn h1 h2;cases hb:(Nat.ble ln cn&&Nat.ble cn room)with
     |false=>simp[hb]at ho
     |true=>
      simp only[hb,cond_true,QA,QD]at ho;simp only[QJ]at hb;obtain⟨rfl,rfl⟩:=ho;obtain⟨k,hk⟩:=Yg e1 h1;obtain⟨k',hk'⟩:=Yg e2 h2;dsimp only;rw[hk,hk'];exact WY.val (zHK hr hu he hz (QO hb.1) (QO hb.2))
    ·cases ho
   ·cases hc
 |slice ty x lo hi mx=>
  simp only[hq]at hc;have e1:=E x (by simp[hq,Op.operands]);have olo:∀ y,lo=some y->ZU P y=true:=fun y hy=>hop y (by subst hy;simp[hq,Op.operands]);have ohi:∀ y,hi=some y->ZU P y=true:=fun y hy=>hop y (by subst hy;simp[hq,Op.operands]);have omx:∀ y,mx=some y->ZU P y=true:=fun y hy=>hop y (by subst hy;simp[hq,Op.operands]);cases hmx:(mx.isSome&&hi.isNone)with
  |true=>simp[hmx]at hc
  |false=>
  simp only[hmx,QR]at hc;split at hc
  ·rename_i e hu;cases he:ZM P e with
   |none=>simp[he]at hc
   |some c=>
    simp only[he,QH,QA]at hc;subst hc;simp only[WN]at ho;split at ho
    ·rename_i nlo nhi nmx h1 h2 h3;cases hs:yU c (ev t x) nlo nhi nmx with
     |none=>simp[hs]at ho
     |some u=>
      simp only[hs,QH,QA,QD]at ho;obtain⟨rfl,rfl⟩:=ho;obtain⟨cv,r1,r2⟩:=zJX (P:=P) (w:=w) hu he e1 (Yt hr ht olo h1) (Yt hr ht ohi h2) (Yt hr ht omx h3) (fun h=>by
       rw[zCs h3]at h;rw[zCs h2];cases hi<;>simp_all) hs
      exact WY.same hr r1 r2
    ·cases ho
  ·rename_i hu;cases mx with
   |some m=>simp at hc
   |none=>
   simp only[Option.isSome_none,QR,QA]at hc;subst hc;simp only[WN]at ho;split at ho
   ·rename_i s nlo nhi h1 h2 h3;cases hb:(Nat.ble (nlo.getD 0) (nhi.getD s.size)&&Nat.ble (nhi.getD s.size) s.size)with
    |false=>simp[hb]at ho
    |true=>
     simp only[hb,cond_true,QA,QD]at ho;simp only[QJ]at hb;obtain⟨rfl,rfl⟩:=ho;rw[h1]at e1;have q1:a.eval x=.string s:=by generalize a.eval x=q at e1;cases e1;rfl
     have b1:=Yt hr ht olo h2;have b2:=Yt hr ht ohi h3;have c1:=QO hb.1;have c2:=QO hb.2;dsimp only;rw[q1];refine WY.same hr ?_ (.string _);have hrun:(Instr.sliceBounds false s.size s.size (lo.map a.eval) (hi.map a.eval) none).run P w=.ok (nlo.getD 0,nhi.getD s.size,s.size) w:=by
      cases nlo with
      |none=>
       cases nhi with
       |none=>rw[b1,b2];simp[Instr.sliceBounds]
       |some e=>
        obtain⟨k,hk⟩:=b2;rw[b1,hk];simp at c2;simp[Instr.sliceBounds,Zt,c2]
      |some l=>
       obtain⟨k,hk⟩:=b1;cases nhi with
       |none=>
        rw[hk,b2];simp at c1;simp[Instr.sliceBounds,Zt,c1]
       |some e=>
        obtain⟨k2,hk2⟩:=b2;rw[hk,hk2];simp at c1 c2;simp[Instr.sliceBounds,Zt,c1,c2]
     simp[Instr.sliceAt,Instr.slice,run_underlying hu,hrun]
   ·cases ho
  ·rename_i len e hu;cases he:ZM P e with
   |none=>simp[he]at hc
   |some c=>
    simp only[he,QH,QA]at hc;subst hc;obtain⟨ie,z,hi',rfl,hc0,_⟩:=ye he;simp only[WN]at ho;split at ho
    ·rename_i ad had;split at ho
     ·rename_i nlo nhi cells h2 h3 h4;cases hb:(Nat.ble (nlo.getD 0) (nhi.getD len)&&Nat.ble (nhi.getD len) len&&ad.spot.isNone&&Nat.ble (ad.off+len*ie.size) cells.length)with
      |false=>simp[hb]at ho
      |true=>
       simp only[hb,cond_true,QA,QD]at ho;simp only[QJ]at hb;obtain⟨⟨⟨c1,c2⟩,c3⟩,c4⟩:=hb;have c1:=QO c1;have c2:=QO c2;have c4:=QO c4;obtain⟨rfl,rfl⟩:=ho;rw[had]at e1;obtain⟨pl,hp,q1⟩:=e1.ptr_inv;obtain⟨pl',k1,k2,_⟩:=zFc hr h4;rw[hp]at k1;cases k1;have b1:=Yt hr ht olo h2;have b2:=Yt hr ht ohi h3;have hrun:=ZJ (P:=P) (w:=w) (sl:=false) (len:=len) (cap:=len) (mx:=none) (mx':=none) b1 b2 rfl rfl rfl rfl (by simp) c1 (by simpa using c2) (by simp) (fun _=>c2);simp only[Ge]at hrun;dsimp only;rw[q1];have hrun2:(Instr.sliceAt ty (.pointer (some ⟨pl.b,pl.base+ad.off,none⟩)) (lo.map a.eval) (hi.map a.eval) none).run P w=
         .ok (.slice (some (if len=nlo.getD 0 then⟨pl.b,pl.base+ad.off,none⟩else⟨pl.b,pl.base+ad.off+nlo.getD 0*ie.size,none⟩)) (nhi.getD len-nlo.getD 0) (len-nlo.getD 0)) w:=by
        simp[Instr.sliceAt,Instr.sureAddr,run_underlying hu,hrun,zu hi',YL]
       refine WY.same hr hrun2 ?_;by_cases hz:len=nlo.getD 0
       ·have e3:nhi.getD len-nlo.getD 0=0:=by omega
        have e4:len-nlo.getD 0=0:=by omega
        rw[e3,e4];exact .szero _ _ _
       ·rw[QC hz];have e3:pl.base+ad.off+nlo.getD 0*ie.size=pl.base+(ad.off+nlo.getD 0*ie.size):=by omega
        rw[e3];refine .slice hp hc0 (by omega) ?_;have e4:(len-nlo.getD 0)*ie.size+nlo.getD 0*ie.size=len*ie.size:=by rw[<-Gf];congr 1;omega
        omega
     ·cases ho
    ·cases ho
  ·cases hc
 |fieldAddr ty x f=>
  simp only[hq]at hc;have e1:=E x (by simp[hq,Op.operands]);split at hc
  ·rename_i fs hu;split at hc
   ·rename_i f0 hf;split at hc
    ·rename_i n hn;simp only[QA]at hc;subst hc;simp only[WN]at ho;split at ho
     ·rename_i ad had;rw[had]at e1;cases hsp:ad.spot with
      |some s=>simp[hsp]at ho
      |none=>
       simp only[hsp,Qf,cond_true,QA,QD]at ho;obtain⟨rfl,rfl⟩:=ho;obtain⟨b,off,sp⟩:=ad;generalize hev:a.eval x=q at e1;cases e1 with
       |ptr hp=>
        dsimp only;rw[hev];refine WY.same hr (zG8 hu hf hn _ _) ?_;rw[Nat.add_assoc];exact .ptr hp
     ·cases ho
    ·cases hc
   ·cases hc
  ·cases hc
 |field ty x f=>
  simp only[hq]at hc;have e1:=E x (by simp[hq,Op.operands]);split at hc
  ·rename_i fs hu;split at hc
   ·rename_i f0 hf;split at hc
    ·rename_i g n hg hn;simp only[QA]at hc;subst hc;simp only[WN]at ho;split at ho
     ·rename_i cs hcs;rw[hcs]at e1;cases hcut:cut cs.toList f0.offset n with
      |none=>simp[hcut]at ho
      |some xs=>
       simp only[hcut,QQ]at ho;cases hof:zI g xs with
       |none=>simp[hof]at ho
       |some u=>
        simp only[hof,QH,QA,QD]at ho;obtain⟨rfl,rfl⟩:=ho;generalize hev:a.eval x=q at e1;obtain⟨cs',rfl,hll⟩:=e1.agg_inv;obtain⟨ys,c1,c2⟩:=zKD hll hcut;obtain⟨cv,d1,d2⟩:=Y1 c2 hof;dsimp only;rw[hev];exact WY.same hr (zLc hu hf hg hn c1 d1) d2
     ·cases ho
    ·cases hc
   ·cases hc
  ·cases hc
 |indexAddr ty x i=>
  simp only[hq]at hc;have e1:=E x (by simp[hq,Op.operands]);have e2:=E i (by simp[hq,Op.operands]);split at hc
  ·rename_i e hu;cases he:ZM P e with
   |none=>simp[he]at hc
   |some c=>
    simp only[he,QH,QA]at hc;subst hc;obtain⟨ie,z,hi,rfl,hc0,_⟩:=ye he;simp only[WN]at ho;split at ho
    ·rename_i ad len k n h1 h2;cases hb:(Nat.ble (n+1) len&&Nat.beq k ie.size&&ad.spot.isNone)with
     |false=>simp[hb]at ho
     |true=>
      simp only[hb,cond_true,QA,QD]at ho;simp only[QJ]at hb;obtain⟨⟨b1,b2⟩,b3⟩:=hb;have b1:=QO b1;obtain⟨rfl,rfl⟩:=ho;obtain⟨kk,hk⟩:=Yg e2 h2;rw[h1]at e1;generalize hev:a.eval x=q at e1;rcases e1.slice_inv with⟨pl,cap,hp,_,hlc,hn,rfl⟩|⟨y,rfl,rfl⟩
      ·dsimp only;rw[hev,hk];refine WY.same hr (zBw hu hi _ _ _ _ _ _ (by omega)) ?_;rw[Nat.add_assoc];exact .ptr hp
      ·omega
    ·cases ho
  ·rename_i len e hu;cases he:ZM P e with
   |none=>simp[he]at hc
   |some c=>
    simp only[he,QH,QA]at hc;subst hc;obtain⟨ie,z,hi,rfl,hc0,_⟩:=ye he;simp only[WN]at ho;split at ho
    ·rename_i ad n h1 h2;cases hb:(Nat.ble (n+1) len&&ad.spot.isNone)with
     |false=>simp[hb]at ho
     |true=>
      simp only[hb,cond_true,QA,QD]at ho;simp only[QJ]at hb;have b1:=QO hb.1;obtain⟨rfl,rfl⟩:=ho;obtain⟨kk,hk⟩:=Yg e2 h2;rw[h1]at e1;obtain⟨b,off,sp⟩:=ad;generalize hev:a.eval x=q at e1;cases e1 with
      |ptr hp=>
       dsimp only;rw[hev,hk];refine WY.same hr (zB4 hu hi _ _ _ _ (by omega)) ?_;rw[Nat.add_assoc];exact .ptr hp
    ·cases ho
  ·cases hc
 |index ty x i=>
  simp only[hq]at hc;have e1:=E x (by simp[hq,Op.operands]);have e2:=E i (by simp[hq,Op.operands]);split at hc
  ·rename_i len e hu;split at hc
   ·rename_i g c hg he;simp only[QA]at hc;subst hc;simp only[WN]at ho;split at ho
    ·rename_i cs n h1 h2;cases hb:Nat.ble (n+1) len with
     |false=>simp[hb]at ho
     |true=>
      simp only[hb,cond_true]at ho;have b1:=QO hb;cases hcut:cut cs.toList (n*c) c with
      |none=>simp[hcut]at ho
      |some xs=>
       simp only[hcut,QQ]at ho;cases hof:zI g xs with
       |none=>simp[hof]at ho
       |some u=>
        simp only[hof,QH,QA,QD]at ho;obtain⟨rfl,rfl⟩:=ho;obtain⟨kk,hk⟩:=Yg e2 h2;rw[h1]at e1;generalize hev:a.eval x=q at e1;obtain⟨cs',rfl,hll⟩:=e1.agg_inv;obtain⟨ys,c1,c2⟩:=zKD hll hcut;obtain⟨cv,d1,d2⟩:=Y1 c2 hof;dsimp only;rw[hev,hk];exact WY.same hr (zDJ hu hg he (by omega) c1 d1) d2
    ·cases ho
   ·cases hc
  ·rename_i hu;simp only[QA]at hc;subst hc;simp only[WN]at ho;split at ho
   ·rename_i s n h1 h2;obtain⟨kk,hk⟩:=Yg e2 h2;rw[h1]at e1;split at ho
    ·rename_i b hb;simp only[QA,QD]at ho;obtain⟨rfl,rfl⟩:=ho;generalize hev:a.eval x=q at e1;cases e1;dsimp only;rw[hev,hk];refine WY.same hr (cv:= .int .u8 b.toNat) ?_ (.int _ _);simp[Instr.index,run_underlying hu,asIntOf,hb]
    ·cases ho
   ·cases ho
  ·cases hc
 |lookup ty m k ok=>
  simp only[hq]at hc;have e1:=E m (by simp[hq,Op.operands]);have e2:=E k (by simp[hq,Op.operands]);split at hc
  ·rename_i kt e hu;split at hc
   ·rename_i d z hk hz;cases hzc:y8 z.cells.toList with
    |false=>simp[hzc]at hc
    |true=>
    simp only[hzc,cond_true,QA]at hc;subst hc;simp only[WN]at ho;generalize hes:(match ev t m with
     | .map none=>some []
     | .map (some g)=>(match h.get g with
      |some (.map es _)=>some es
      |_=>none)
     |_=>none:Option (List MapEntry))=eso at ho
    split at ho
    ·cases ho
    rename_i es hes;split at ho
    ·rename_i kk n hkn;rw[hkn]at e2;have q2:a.eval k=.int kk n:=by generalize a.eval k=q at e2;cases e2;rfl
     have hes':(ev t m=.map none/\es=[])\/∃ g clock,ev t m=.map (some g)/\h.get g=some (.map es clock):=by
      split at hes
      ·rename_i hm;left;exact⟨hm,by simpa using hes.symm⟩
      ·rename_i g hm;split at hes
       ·rename_i es0 clock hg;simp only[QA]at hes;subst hes;exact .inr ⟨g,clock,hm,hg⟩
       ·cases hes
      ·cases hes
     dsimp only;rw[q2];split at ho
     ·rename_i i u hf;simp only[QA,QD]at ho;obtain⟨rfl,rfl⟩:=ho;obtain⟨cv,r1,r2⟩:=zED (ok:=ok) hu hk hr hz hzc e1 hes' hf rfl;exact WY.same hr r1 r2
     ·rename_i hf;simp only[QA,QD]at ho;obtain⟨rfl,rfl⟩:=ho;obtain⟨cv,r1,r2⟩:=zED (ok:=ok) hu hk hr hz hzc e1 hes' hf rfl;exact WY.same hr r1 r2
     ·cases ho
    ·cases ho
   ·cases hc
  ·cases hc
 |mapUpdate ty m k x=>
  simp only[hq]at hc;have e1:=E m (by simp[hq,Op.operands]);have e2:=E k (by simp[hq,Op.operands]);have e3:=E x (by simp[hq,Op.operands]);split at hc
  ·rename_i kt e hu;split at hc
   ·rename_i d hk;simp only[QA]at hc;subst hc;simp only[WN]at ho;split at ho
    ·rename_i g kk n h1 h2;rw[h1]at e1;rw[h2]at e2;have q2:a.eval k=.int kk n:=by generalize a.eval k=q at e2;cases e2;rfl
     split at ho
     ·rename_i es clock hg;dsimp only;rw[q2];split at ho
      ·rename_i i u hf;simp only[QA,QD]at ho;obtain⟨rfl,rfl⟩:=ho;obtain⟨w',r1,r2⟩:=zAb hu hk hr hg e1 e3 hf;exact VZ ⟨σ,w',r1,r2⟩
      ·rename_i hf;simp only[QA,QD]at ho;obtain⟨rfl,rfl⟩:=ho;obtain⟨w',r1,r2⟩:=zAb hu hk hr hg e1 e3 hf;exact VZ ⟨σ,w',r1,r2⟩
      ·cases ho
     ·cases ho
    ·cases ho
   ·cases hc
  ·cases hc
 |insert ty m k x=>
  simp only[hq]at hc;have e1:=E m (by simp[hq,Op.operands]);have e2:=E k (by simp[hq,Op.operands]);have e3:=E x (by simp[hq,Op.operands]);split at hc
  ·rename_i kt e hu;split at hc
   ·rename_i d hk;simp only[QA]at hc;subst hc;simp only[WN]at ho;split at ho
    ·rename_i g kk n h1 h2;rw[h1]at e1;rw[h2]at e2;have q2:a.eval k=.int kk n:=by generalize a.eval k=q at e2;cases e2;rfl
     split at ho
     ·rename_i es clock hg;dsimp only;rw[q2];split at ho
      ·rename_i i u hf;simp only[QA,QD]at ho;obtain⟨rfl,rfl⟩:=ho;obtain⟨w',r1,r2⟩:=zAb hu hk hr hg e1 e3 hf;exact VZ ⟨σ,w',r1,r2⟩
      ·rename_i hf;simp only[QA,QD]at ho;obtain⟨rfl,rfl⟩:=ho;obtain⟨w',r1,r2⟩:=zAb hu hk hr hg e1 e3 hf;exact VZ ⟨σ,w',r1,r2⟩
      ·cases ho
     ·cases ho
    ·cases ho
   ·cases hc
  ·cases hc
 |extract x i=>
  simp only[hq,QA]at hc;subst hc;have e1:=E x (by simp[hq,Op.operands]);simp only[WN]at ho;split at ho
  ·rename_i vs hvs;rw[hvs]at e1;split at ho
   ·rename_i u hu;simp only[QA,QD]at ho;obtain⟨rfl,rfl⟩:=ho;generalize hev:a.eval x=q at e1;cases e1 with
    |tuple ha ra=>
     rename_i vs';have hi:i<vs'.size:=by rw[<-ha];exact(Gs.1 hu).1
     have hy:vs'[i]?=some vs'[i]:=Qt _;dsimp only;rw[hev];exact WY.same hr (by simp[Instr.extract,hy]) (ra i _ _ hu hy)
   ·cases ho
  ·cases ho
 |call c=>
  simp only[hq]at hc;split at hc
  ·rename_i f hf;simp only[QA]at hc;subst hc;rcases zBm (P:=P) f c.args.toList with hcc|⟨g,x,rt,rfl,hx,he,hrt,hcc⟩
   ·exact absurd hcc (hnc.1 _ _)
   ·rw[hcc]at ho;have hargs:c.args=#[x]:=by rw[<-Gm (xs:=c.args),hx]
    have e1:=E x (by rw[hq];simp[Op.operands,Call.operands,hf,hargs]);simp only[WN]at ho;obtain⟨u,hu,ho⟩:=QP.1 ho;simp only[QD]at ho;obtain⟨rfl,rfl⟩:=ho;obtain⟨cv,r1,r2⟩:=zIh (w:=w) he hrt e1 hu;refine⟨σ,w,.inl ⟨cv,?_,r2⟩,.refl hr⟩;have hgf:a.eval (.func g)=.func (.func g) #[] #[]:=rfl;simp only[resolve,hf,hargs,Sem.run_bind,hgf,Deferred.ofValue,Sem.run_pure,Result.andThen_ok,invoke];simpa using r1
  ·rename_i b hb;have hmem:∀ x∈c.args.toList,ZU P x=true:=fun x hx=>hop x (by
    rw[hq];simp only[Op.operands,Call.operands,hb];simpa using hx)
   have:=zGo (ty:=o.type) (consts:=c.args.map fun| .const _=>true|_=>false) hr ht hmem hc ho;have e1:(c.args.toList.map a.eval).toArray=c.args.map a.eval:=by apply JC;simp
   rw[e1,Gm]at this;obtain⟨σ',w',r1,r2⟩:=this;refine⟨σ',w',?_,r2⟩;simp only[resolve,hb,Sem.run_bind,Sem.run_pure,Result.andThen_ok,invoke];exact r1
  ·simp only[QA]at hc;exact absurd hc.symm (hnc.2 _ _ _)
 |defer c=>
  simp only[hq]at hc;split at hc
  ·simp only[QA]at hc;subst hc;simp[WN]at ho
  ·split at hc
   ·split at hc
    ·simp only[QA]at hc;subst hc;simp[WN]at ho
    ·cases hc
   ·cases hc
  ·cases hc
 |makeInterface ty x=>
  simp only[hq]at hc;have e1:=E x (by simp[hq,Op.operands]);split at hc
  ·cases hc
  ·rename_i d hnd hu;simp only[QA]at hc;subst hc;simp only[WN,QA,QD]at ho;obtain⟨rfl,rfl⟩:=ho;refine WY.same (s:=Instr.makeInterface ty (a.eval x)) hr ?_ (.iface ty e1);cases d<;>first|(simp[Instr.makeInterface,run_underlying hu];done)|exact(hnd _ rfl).elim|exact(hnd _ hu).elim
  ·cases hc
 |typeAssert x xt ty ok=>
  simp only[hq,QA]at hc;subst hc;have e1:=E x (by simp[hq,Op.operands]);simp only[WN]at ho;obtain⟨u,hu,ho⟩:=QP.1 ho;simp only[QD]at ho;obtain⟨rfl,rfl⟩:=ho;obtain⟨cv,r1,r2⟩:=zIu (w:=w) (xt:=xt) e1 hu;exact WY.same (s:=Instr.typeAssert (a.eval x) xt ty ok) hr r1 r2
 |range ty x=>
  simp only[hq]at hc;have e1:=E x (by simp[hq,Op.operands]);split at hc
  ·rename_i hu;simp only[QA]at hc;subst hc;simp only[WN,zBM]at ho;split at ho
   ·rename_i s hs;rw[hs]at e1;have q1:a.eval x=.string s:=by generalize a.eval x=q at e1;cases e1;rfl
    simp only[QA,QD]at ho;obtain⟨rfl,rfl⟩:=ho;dsimp only;rw[q1];exact WY.val (zLH hr s hu)
   ·cases ho
  ·cases hc
 |next x isS=>
  cases isS with
  |false=>simp[hq]at hc
  |true=>
  simp only[hq,QA]at hc;subst hc;have e1:=E x (by simp[hq,Op.operands]);simp only[WN,zCT]at ho;split at ho
  ·rename_i ad hx;rw[hx]at e1;cases hb:(Nat.beq ad.off 0&&ad.spot.isNone)with
   |false=>simp[hb]at ho
   |true=>
    simp only[hb,cond_true]at ho;rw[QJ]at hb;split at ho
    ·rename_i s pos hg;obtain⟨n1,n2⟩:=zMr (ty:=o.type) hr e1 (QI hb.1) hg;cases hp:Nat.ble (pos+1) s.size with
     |true=>
      simp only[hp,cond_true,QA,QD]at ho;obtain⟨rfl,rfl⟩:=ho;obtain⟨w',r1,r2⟩:=n1 (QO hp);refine WY.val ⟨σ,w',_,r1,?_,r2⟩;refine .tuple rfl fun k c d hc hd=> ?_;rw[hc]at hd;cases hd;match k with
      |0=>simp at hc;subst hc;exact .bool _
      |1=>simp at hc;subst hc;exact .int _ _
      |2=>simp at hc;subst hc;exact .int _ _
      |k+3=>simp at hc
     |false=>
      simp only[hp,QR,QA,QD]at ho;obtain⟨rfl,rfl⟩:=ho;have r1:=n2 (fun hlt=>by
       have:Nat.ble (pos+1) s.size=true:=QF hlt;rw[this]at hp;cases hp)
      refine WY.val ⟨σ,w,_,r1,?_,.refl hr⟩;refine .tuple rfl fun k c d hc hd=> ?_;rw[hc]at hd;cases hd;match k with
      |0=>simp at hc;subst hc;exact .bool _
      |k+1=>simp at hc
    ·cases ho
  ·cases ho
 |_=>simp[hq]at hc
end
def At(b:Frame)(a:Act)(todo:List Item):Frame:={fn:=b.fn,tmps:=a.tmps,todo,defers:=a.defers,mode:= .run,kind:=b.kind,roundOf:=b.roundOf}
def DRel(P:Program)(σ:Nat->Option Pl)(d d':Deferred):Prop:=
 match d.target with
 | .fn (.func f) cap=>∃ cap',d'.target=.fn (.func f) cap'/\WW σ cap.toList cap'.toList/\WW σ d.args.toList d'.args.toList
 | .builtin .clear ts ty cs=>∃ t kt e,ts=#[t]/\P.underlying t=some (.map kt e)/\d'.target=.builtin .clear #[t] ty cs/\WW σ d.args.toList d'.args.toList
 | .collected g=>∃ pl,σ g=some pl/\d'.target=.collected pl.b
 |_=>False
def BR(P:Program)(σ:Nat->Option Pl):List Deferred->List Deferred->Prop
 |[],[]=>True
 |d::l,d'::l'=>DRel P σ d d'/\BR P σ l l'
 |_,_=>False
def RRel(σ:Nat->Option Pl)(r r':Option Nat):Prop:=
 match r with
 |none=>r'=none
 |some l=>∃ pl,σ l=some pl/\r'=some pl.b
structure W5(P:Program)(σ:Nat->Option Pl)(nt:Nat)(fr:WR)(a:Act)(b:Frame):Prop where
 size:nt<=a.tmps.size
 tm:∀ k,WL σ (zC fr.tm k) (a.tmps.getD k Go.undef)
 dfs:BR P σ fr.dfs a.defers
 round:RRel σ fr.round b.roundOf
def Arr(P:Program)(m:Machine)(b:Frame)(k:List Item)(cs:List Frame):WP->Act->World->Prop
 | .normal,a,w=>Steps P m (lone (At b a k) cs w)
 | .exit id,a,w=>∃ k1,exitTo id k1=exitTo id k/\Steps P m (lone (At b a (.code (.exit id)::k1)) cs w)
 | .goto l,a,w=>∃ k1,gotoIn l k1=gotoIn l k/\Steps P m (lone (At b a (.code (.goto l)::k1)) cs w)
 | .ret,a,w=>∃ k1,Steps P m (lone (At b a (.code .ret::k1)) cs w)
def zPL(kind:CallKind)(cs:List Frame):Prop:=kind=.normal\/kind=.deferred/\∀ (c:Frame) (rest:List Frame),cs=c::rest->∀ ch,c.mode≠ .panicking ch
def zAp(b:Frame)(cs:List Frame):Prop:=zPL b.kind cs
def yI(P:Program)(ex:Ex):Prop:=∀ (nt:Nat) (c:Code) (ac:WU),zDS P nt c ac->∀ (fr:WR) (h:WF) (e:WP) (fr':WR) (h':WF),ex.exec ac fr h=some (e,fr',h')->
 ∀ (B:Nat) (σ:Nat->Option Pl) (w:World),Wg P B σ h w->∀ (a:Act) (b:Frame),W5 P σ nt fr a b->
  ∃ σ' w' a',Wy P B σ h w σ' h' w'/\W5 P σ' nt fr' a' b/\fr'.round=fr.round/\∀ (k:List Item) (cs:List Frame),zAp b cs->Arr P (lone (At b a (.code c::k)) cs w) b k cs e a' w'
structure Bu(P:Program)(f:FuncId)(kind:CallKind)(fr:Frame)(cv:Value)(w:World):Prop where
 mode:fr.mode=.returning
 defers:fr.defers=[]
 kind:fr.kind=kind
 fn:fr.fn=f
 results:∃ fn,P.funcs[f]?=some fn/\(results fn fr.tmps).run P w=.ok cv w
def yA(P:Program)(ex:Ex):Prop:=∀ (f:FuncId) (args:List Value) (h:WF) (v:Value) (h':WF),ex.call f args h=some (v,h')->
 (∀ (as:Array Value) (w:World),(callFunc f as).run P w=.ok (.enter f as) w)/\
 ∀ (B:Nat) (σ:Nat->Option Pl) (w:World),Wg P B σ h w->∀ (as:Array Value),WW σ args as.toList->∀ (kind:CallKind),kind=.normal\/kind=.deferred->
  ∃ σ' w' cv,Wy P B σ h w σ' h' w'/\WL σ' v cv/\∀ cs:List Frame,zPL kind cs->∃ fr',Steps P (lone (Frame.enter P f as kind) cs w) (lone fr' cs w')/\Bu P f kind fr' cv w'
theorem DRel.mono{P:Program}{σ σ':Nat->Option Pl}(hs:Le σ σ'){d d':Deferred}(h:DRel P σ d d'):DRel P σ' d d':=by
 unfold DRel at *;split at h
 ·obtain⟨cap',h1,h2,h3⟩:=h;exact⟨cap',h1,h2.mono hs,h3.mono hs⟩
 ·obtain⟨t,kt,e,h1,h2,h3,h4⟩:=h;exact⟨t,kt,e,h1,h2,h3,h4.mono hs⟩
 ·obtain⟨pl,h1,h2⟩:=h;exact⟨pl,hs _ _ h1,h2⟩
 ·exact h.elim
theorem BR.mono{P:Program}{σ σ':Nat->Option Pl}(hs:Le σ σ'):∀ {l l':List Deferred},BR P σ l l'->BR P σ' l l'
 |[],[],_=>trivial
 |_::_,_::_,h=>⟨h.1.mono hs,h.2.mono hs⟩
theorem RRel.mono{σ σ':Nat->Option Pl}(hs:Le σ σ'){r r':Option Nat}(h:RRel σ r r'):RRel σ' r r':=by
 cases r with
 |none=>exact h
 |some l=>obtain⟨pl,h1,h2⟩:=h;exact⟨pl,hs _ _ h1,h2⟩
theorem W5.mono{P:Program}{σ σ':Nat->Option Pl}{nt:Nat}{fr:WR}{a:Act}{b:Frame}(hs:Le σ σ')(h:W5 P σ nt fr a b):W5 P σ' nt fr a b:=
 ⟨h.size,fun k=>(h.tm k).mono hs,h.dfs.mono hs,h.round.mono hs⟩
theorem zH6(tm:Array Value)(d k:Nat)(v:Value)(hd:d<tm.size):(tm.setIfInBounds d v).getD k Go.undef=if k=d then v else tm.getD k Go.undef:=by
 simp only[Qv,GV];by_cases hk:k=d
 ·subst hk;simp[hd]
 ·rw[QC (by omega),QC hk]
theorem W5.val{P:Program}{σ:Nat->Option Pl}{nt:Nat}{fr:WR}{a:Act}{b:Frame}(h:W5 P σ nt fr a b){d:Option Nat}(hd:∀ k,d=some k->k<nt){v v':Value}(hv:WL σ v v'):W5 P σ nt (val d fr v) (a.put d v') b:=by
 cases d with
 |none=>exact h
 |some d=>
  have hlt:d<a.tmps.size:=QK (hd d rfl) h.size;refine⟨by simpa [Act.put]using h.size,fun k=> ?_,h.dfs,h.round⟩;simp only[Am.val,Act.put];rw[yH,zH6 _ _ _ _ hlt];split
  ·exact hv
  ·exact h.tm k
theorem zGW(b:Frame)(a:Act)(todo:List Item):(At b a todo).eval=a.eval:=by
 funext x;cases x<;>rfl
theorem YK(b:Frame)(a:Act)(ops:Array Oper)(i:Nat)(rest:List Nat)(k:List Item)(v:Value):
  (At b a (.inRegion ops (i::rest)::k)).finish v=At b (a.put ((ops[i]?).bind (·.dst)) v) (.inRegion ops rest::k):=by
 cases h:(ops[i]?).bind (·.dst)<;>simp[Frame.finish,At,Act.put,h]
section
variable {P:Program}{b:Frame}{a:Act}{k:List Item}{cs:List Frame}{w:World}
theorem zAN{ops:Array Oper}{i:Nat}{rest:List Nat}{o:Oper}(ho:ops[i]?=some o)(hw:Region.wanted o (yielded ops a.tmps)=true)(hd:∀ c,o.op=.defer c->b.roundOf=none):
  stepG P true {frame:=At b a (.inRegion ops (i::rest)::k),callers:=cs,status:= .running,dying:=none} w=
   stepG.apply P true (At b a (.inRegion ops (i::rest)::k)) cs none (execOp a.eval o) w:=by
 have he:=zGW b a (.inRegion ops (i::rest)::k);simp only[At]at he;simp only[stepG,stepG.exec,stepG.oper,Frame.oper?,At,ho,hw,he,QH,Q1,Q9];split
 ·rename_i l c h1 h2;rw[hd c h2]at h1;cases h1
 ·rfl
theorem zIS{ops:Array Oper}{i:Nat}{rest:List Nat}(h:((ops[i]?).map (Region.wanted · (yielded ops a.tmps))).getD false=false):
  step P (lone (At b a (.inRegion ops (i::rest)::k)) cs w)=.next (lone (At b (a.put ((ops[i]?).bind (·.dst)) Go.undef) (.inRegion ops rest::k)) cs w):=by
 rw[<-YK];exact step_lone_go (by
  have h':=h;simp only[At]at *;simp[stepG,stepG.exec,h'])
theorem zBb{ops:Array Oper}{i:Nat}{rest:List Nat}{o:Oper}{v:Value}{w':World}(ho:ops[i]?=some o)(hw:Region.wanted o (yielded ops a.tmps)=true)(hd:∀ c,o.op=.defer c->b.roundOf=none)
  (hr:(execOp a.eval o).run P w=.ok (.value v) w'):step P (lone (At b a (.inRegion ops (i::rest)::k)) cs w)=.next (lone (At b (a.put o.dst v) (.inRegion ops rest::k)) cs w'):=by
 have hfin:=YK b a ops i rest k v;rw[ho]at hfin;simp only[QQ]at hfin;refine step_lone_go ?_;rw[zAN ho hw hd,<-hfin];simp[stepG.apply,hr]
theorem zLP{ops:Array Oper}{i:Nat}{rest:List Nat}{o:Oper}{w':World}(ho:ops[i]?=some o)(hw:Region.wanted o (yielded ops a.tmps)=true)(hd:∀ c,o.op=.defer c->b.roundOf=none)
  (hr:(execOp a.eval o).run P w=.ok .skip w'):step P (lone (At b a (.inRegion ops (i::rest)::k)) cs w)=.next (lone (At b (a.put o.dst Go.undef) (.inRegion ops rest::k)) cs w'):=by
 have hfin:=YK b a ops i rest k Go.undef;rw[ho]at hfin;simp only[QQ]at hfin;refine step_lone_go ?_;rw[zAN ho hw hd,<-hfin];simp[stepG.apply,hr]
theorem zC3{ops:Array Oper}{i:Nat}{rest:List Nat}{o:Oper}{d:Deferred}{w':World}(ho:ops[i]?=some o)(hw:Region.wanted o (yielded ops a.tmps)=true)(hd:∀ c,o.op=.defer c->b.roundOf=none)
  (hr:(execOp a.eval o).run P w=.ok (.defer d) w'):step P (lone (At b a (.inRegion ops (i::rest)::k)) cs w)=.next (lone (At b ({a with defers:=d::a.defers}.put o.dst Go.undef) (.inRegion ops rest::k)) cs w'):=by
 have hfin:=YK b {a with defers:=d::a.defers} ops i rest k Go.undef;rw[ho]at hfin;simp only[QQ]at hfin;refine step_lone_go ?_;rw[zAN ho hw hd,<-hfin];simp only[stepG.apply,Sem.runT_eq,hr,GStep.bare_after];rfl
theorem zDO{fr:Frame}(hc:zAp fr cs):tryRecover fr cs=none:=by
 rcases hc with hk|⟨hk,hm⟩
 ·unfold tryRecover;simp[hk]
 ·unfold tryRecover;simp only[hk];cases cs with
  |nil=>rfl
  |cons c rest=>
   have:=hm c rest rfl;simp only;split
   ·rename_i h;exact absurd h (this _)
   ·rfl
theorem zGp{ops:Array Oper}{i:Nat}{rest:List Nat}{o:Oper}{w':World}(ho:ops[i]?=some o)(hw:Region.wanted o (yielded ops a.tmps)=true)(hd:∀ c,o.op=.defer c->b.roundOf=none)
  (hr:(execOp a.eval o).run P w=.ok .recover w') (hb:b.roundOf=none) (hc:zAp b cs):step P (lone (At b a (.inRegion ops (i::rest)::k)) cs w)=.next (lone (At b (a.put o.dst .nilIface) (.inRegion ops rest::k)) cs w'):=by
 have hfin:=YK b a ops i rest k .nilIface;rw[ho]at hfin;simp only[QQ]at hfin;refine step_lone_go ?_;rw[zAN ho hw hd,<-hfin];have ht:tryRecover (At b a (.inRegion ops (i::rest)::k)) cs=none:=zDO hc;have hro:(At b a (.inRegion ops (i::rest)::k)).roundOf=none:=hb;simp[stepG.apply,hr,hro,ht]
def zBr(P:Program):Next->Option Frame
 | .enter f args=>some (Frame.enter P f args .normal)
 | .round l f tmps assign body=>some (Frame.round l f tmps assign body .normal)
 |_=>none
theorem zFA{ops:Array Oper}{i:Nat}{rest:List Nat}{o:Oper}{nx:Next}{fr0:Frame}{w':World}(ho:ops[i]?=some o)(hw:Region.wanted o (yielded ops a.tmps)=true)(hd:∀ c,o.op=.defer c->b.roundOf=none)
  (hr:(execOp a.eval o).run P w=.ok nx w') (hf:zBr P nx=some fr0):
  step P (lone (At b a (.inRegion ops (i::rest)::k)) cs w)=.next (lone fr0 (At b a (.inRegion ops (i::rest)::k)::cs) w'):=by
 refine step_lone_go ?_;rw[zAN ho hw hd];cases nx<;>simp only[zBr,QA]at hf<;>try (cases hf;done)
 all_goals
  subst hf
  simp[stepG.apply,hr,At]
end
section
variable {P:Program}{b:Frame}{a:Act}{k:List Item}{cs:List Frame}{w:World}
theorem zOi:step P (lone (At b a (.code .skip::k)) cs w)=.next (lone (At b a k) cs w):=step_lone_go (by simp[stepG,stepG.exec,At])
theorem zNz{l:Nat}:step P (lone (At b a (.code (.label l)::k)) cs w)=.next (lone (At b a k) cs w):=step_lone_go (by simp[stepG,stepG.exec,At])
theorem zIU{id:Nat}:step P (lone (At b a (.inBlock id::k)) cs w)=.next (lone (At b a k) cs w):=step_lone_go (by simp[stepG,stepG.exec,At])
theorem zIV{c:Code}:step P (lone (At b a (.inScope c::k)) cs w)=.next (lone (At b a k) cs w):=step_lone_go (by simp[stepG,stepG.exec,At])
theorem zNs{x y:Code}:step P (lone (At b a (.code (.seq x y)::k)) cs w)=.next (lone (At b a (.code x:: .code y::k)) cs w):=step_lone_go (by simp[stepG,stepG.exec,At])
theorem zJ0{c:Operand}{x y:Code}{t:Bool}(h:a.eval c=.bool t):
  step P (lone (At b a (.code (.cond c x y)::k)) cs w)=.next (lone (At b a (.code (if t then x else y)::k)) cs w):=
 step_lone_go (by
  have he:=zGW b a (.code (.cond c x y)::k);have:=congrFun he c;simp only[At]at this;simp[stepG,stepG.exec,At,this,h])
theorem zMI{id:Nat}{c:Code}:step P (lone (At b a (.code (.block id c)::k)) cs w)=.next (lone (At b a (.code c:: .inBlock id::k)) cs w):=step_lone_go (by simp[stepG,stepG.exec,At])
theorem zGK{c:Code}:step P (lone (At b a (.code (.loop c)::k)) cs w)=.next (lone (At b a (.code c:: .inLoop c::k)) cs w):=step_lone_go (by simp[stepG,stepG.exec,At])
theorem zLD{c:Code}:step P (lone (At b a (.inLoop c::k)) cs w)=.next (lone (At b a (.code c:: .inLoop c::k)) cs w):=step_lone_go (by simp[stepG,stepG.exec,At])
theorem zMP{c:Code}:step P (lone (At b a (.code (.scope c)::k)) cs w)=.next (lone (At b a (.code c:: .inScope c::k)) cs w):=step_lone_go (by simp[stepG,stepG.exec,At])
theorem zOC{id:Nat}{k':List Item}(h:exitTo id k=some k'):step P (lone (At b a (.code (.exit id)::k)) cs w)=.next (lone (At b a k') cs w):=step_lone_go (by simp[stepG,stepG.exec,At,h])
theorem zOX{l:Nat}{k':List Item}(h:gotoIn l k=some k'):step P (lone (At b a (.code (.goto l)::k)) cs w)=.next (lone (At b a k') cs w):=step_lone_go (by simp[stepG,stepG.exec,At,h])
theorem zKX{id:Nat}{ops:Array Oper}:step P (lone (At b a (.code (.region id ops false)::k)) cs w)=.next (lone (At b a (.inRegion ops (List.range ops.size)::k)) cs w):=step_lone_go (by simp[stepG,stepG.exec,At])
theorem zEj{id:Nat}{ops:Array Oper}:step P (lone (At b a (.code (.region id ops true)::k)) cs w)=
  .next (lone (At b a (.inRegion ops (Region.schedule (P.follows .mixedOrders) ops (w.tape w.drawn (.order b.fn id)))::k)) cs {w with drawn:=w.drawn+1}):=
 step_lone_go (by simp[stepG,stepG.exec,At,choose,Sem.run,Question.forced,Question.cut])
theorem zBZ{ops:Array Oper}:step P (lone (At b a (.inRegion ops []::k)) cs w)=.next (lone (At b a k) cs w):=step_lone_go (by simp[stepG,stepG.exec,At])
theorem zQL(hr:b.roundOf=none):step P (lone (At b a (.code .ret::k)) cs w)=.next (lone {At b a (.code .ret::k)with mode:= .returning} cs w):=step_lone_go (by simp[stepG,stepG.exec,At,hr])
theorem zQG(hr:b.roundOf=none):step P (lone (At b a []) cs w)=.next (lone {At b a []with mode:= .returning} cs w):=step_lone_go (by simp[stepG,stepG.exec,At,hr])
theorem zMm{l:Nat}{w':World}(hr:b.roundOf=some l)(hb:(Instr.beginRound l).run P w=.ok () w'):step P (lone (At b a (.beginRound::k)) cs w)=.next (lone (At b a k) cs w'):=by
 refine step_lone_go ?_;simp only[stepG,stepG.exec,At,hr,Option.elim];simp[stepG.apply,hb,Frame.finish]
theorem zGJ{l:Nat}{c:Frame}{w':World}{v:Value}(hr:b.roundOf=some l)(hk:b.kind=.normal)(he:(Instr.endRound l none).run P w=.ok v w'):
  step P (lone (At b a []) (c::cs) w)=.next (lone (c.finish v) cs w'):=by
 refine step_lone_go ?_;simp[stepG,stepG.exec,At,hr,Sem.runT_eq,he,doReturn,hk]
theorem zFn{l:Nat}{c:Frame}{w':World}{v:Value}(hr:b.roundOf=some l)(hk:b.kind=.normal)(he:(Instr.endRound l (some .ret)).run P w=.ok v w'):
  step P (lone (At b a (.code .ret::k)) (c::cs) w)=.next (lone (c.finish v) cs w'):=by
 refine step_lone_go ?_;simp[stepG,stepG.exec,At,hr,Sem.runT_eq,he,doReturn,hk]
theorem zEo{l id:Nat}{c:Frame}{w':World}{v:Value}(hr:b.roundOf=some l)(hk:b.kind=.normal)(hx:exitTo id k=none)(he:(Instr.endRound l (some (.exit id))).run P w=.ok v w'):
  step P (lone (At b a (.code (.exit id)::k)) (c::cs) w)=.next (lone (c.finish v) cs w'):=by
 refine step_lone_go ?_;simp[stepG,stepG.exec,At,hr,hx,Sem.runT_eq,he,doReturn,hk]
theorem zEv{l g:Nat}{c:Frame}{w':World}{v:Value}(hr:b.roundOf=some l)(hk:b.kind=.normal)(hx:gotoIn g k=none)(he:(Instr.endRound l (some (.goto g))).run P w=.ok v w'):
  step P (lone (At b a (.code (.goto g)::k)) (c::cs) w)=.next (lone (c.finish v) cs w'):=by
 refine step_lone_go ?_;simp[stepG,stepG.exec,At,hr,hx,Sem.runT_eq,he,doReturn,hk]
theorem zBU{f:FuncId}{fr c:Frame}{v:Value}(h:Bu P f .normal fr v w):step P (lone fr (c::cs) w)=.next (lone (c.finish v) cs w):=by
 obtain⟨hm,hd,hk,rfl,fn,hf,hr⟩:=h;exact step_lone_go (by simp[stepG,unwind,doReturn,hm,hd,hk,hf,hr])
theorem zDN{f:FuncId}{fr c:Frame}{v:Value}(h:Bu P f .deferred fr v w)(hc:c.mode=.returning):step P (lone fr (c::cs) w)=.next (lone c cs w):=by
 obtain⟨hm,hd,hk,rfl,fn,hf,hr⟩:=h;refine step_lone_go ?_;simp only[stepG,unwind,doReturn,hm,hd,hk,hf,Sem.runT_eq,hr,GStep.bare_after,GStep.bare_go,hc]
end
section
variable {P:Program}{B:Nat}{σ:Nat->Option Pl}{h:WF}{w:World}
theorem zAI(hr:Wg P B σ h w){l:Nat}{r:W2}(hl:h.get l=some (.loop r)):∃ pl r',σ l=some pl/\w.heap[pl.b]?=some (.loop r')/\Bt P σ r r':=by
 obtain⟨pl,h1,⟨r',h2,h3⟩,_⟩:=hr.live _ _ hl;exact⟨pl,r',h1,h2,h3⟩
theorem zDk(hr:Wg P B σ h w){l:Nat}{r r2:W2}{r2':Loop}(hl:h.get l=some (.loop r)){pl:Pl}(hp:σ l=some pl)(hrel:Bt P σ r2 r2'):
  Wy P B σ h w σ (h.set l (.loop r2)) {w with heap:=w.heap.setIfInBounds pl.b (.loop r2')}:=by
 have hlt:pl.b<w.heap.size:=(hr.lt _ _ hp).2;refine hr.put (O':= .loop r2') hl rfl rfl hp ⟨by simp,by simp[hlt],fun b hne=> ?_⟩ ⟨rfl,rfl,rfl⟩ ⟨r2',by simp[hlt],hrel⟩ (fun g2 o2 pl2 _ _ _ _ k=>by cases o2<;>exact k.elim);simp only[GV];rw[QC (by omega)]
theorem zK2:∀ {ps:List Nat} {vs vs':List Value} {t:WI Value} {tm:Array Value},(∀ p∈ps,p<tm.size)->ps.length=vs.length->WW σ vs vs'->(∀ k,WL σ (zC t k) (tm.getD k Go.undef))->
  (∀ k,WL σ (zC (zBT ps vs t) k) (((ps.zip vs').foldl (fun tm (t,a)=>tm.setIfInBounds t a) tm).getD k Go.undef))/\((ps.zip vs').foldl (fun tm (t,a)=>tm.setIfInBounds t a) tm).size=tm.size:=by
 intro ps;induction ps with
 |nil=>intro vs vs' t tm _ _ _ ht;cases vs<;>exact⟨ht,rfl⟩
 |cons p ps ih=>
  intro vs vs' t tm hp hlen hl ht;match vs,vs',hl with
  |[],_,_=>simp at hlen
  |v::vs,[],hl=>have:=hl.1;simp at this
  |v::vs,v'::vs',hl=>
   have hv:=hl.2 0 v v' rfl rfl;have hl':WW σ vs vs':=⟨by simpa using hl.1,fun i a b h1 h2=>hl.2 (i+1) a b (by simpa using h1) (by simpa using h2)⟩;have hpt:p<tm.size:=hp p (Q0 ..);obtain⟨a1,a2⟩:=ih (t:=t.set p v) (tm:=tm.setIfInBounds p v') (fun q hq=>by simpa using hp q (GC _ hq)) (by simpa using hlen) hl' (fun k=>by
    rw[yH,zH6 _ _ _ _ hpt];split
    ·exact hv
    ·exact ht k)
   exact⟨a1,by rw[List.zip_cons_cons,List.foldl_cons,a2];simp⟩
def zMu:WP->Option Code
 | .normal=>none
 | .ret=>some .ret
 | .exit id=>some (.exit id)
 | .goto g=>some (.goto g)
theorem zFu{l:Nat}{r:W2}{e:WP}{v:Value}{h':WF}(hr:Wg P B σ h w)(hl:h.get l=some (.loop r)){pl:Pl}(hp:σ l=some pl)(he:ZL l r h e=(v,h')):
  ∃ w' b,v=.bool b/\Wy P B σ h w σ h' w'/\(Instr.endRound pl.b (zMu e)).run P w=.ok (.bool b) w':=by
 obtain⟨pl0,r',k1,k2,k3⟩:=zAI hr hl;rw[hp]at k1;cases k1;have key:∀ (st:LoopState) (pn:Option WU) (st':LoopState) (pn':Option Code),st'=st->zKN pn pn'->
   Wy P B σ h w σ (h.set l (.loop {r with state:=st,pending:=pn})) (w.putObj pl.b (.loop {r' with state:=st',pending:=pn'})):=
  fun st pn st' pn' h1 h2=>zDk hr hl hp ⟨h1,h2,k3.tm,k3.params,k3.code,k3.defers⟩
 have hend:=run_endRound (P:=P) (zMu e) k2;cases e with
 |normal=>
  simp only[ZL,QD]at he;obtain⟨rfl,rfl⟩:=he;exact⟨_,true,rfl,key .ready none _ none rfl trivial,hend⟩
 |ret=>
  simp only[ZL,QD]at he;obtain⟨rfl,rfl⟩:=he;exact⟨_,false,rfl,key .done (some .ret) _ (some .ret) rfl trivial,hend⟩
 |exit id=>
  simp only[ZL,QD]at he;obtain⟨rfl,rfl⟩:=he;exact⟨_,false,rfl,key .done (some (.exit id)) _ (some (.exit id)) rfl rfl,hend⟩
 |goto g=>
  simp only[ZL,QD]at he;obtain⟨rfl,rfl⟩:=he;exact⟨_,false,rfl,key .done (some (.goto g)) _ (some (.goto g)) rfl rfl,hend⟩
theorem zHs{ih:Ex}(hex:yI P ih)(hr:Wg P B σ h w){l:Nat}{pl:Pl}(hp:σ l=some pl){r:W2}{r':Loop}(hb:w.heap[pl.b]?=some (.loop r'))(hl0:h.get l=some (.loop r))(k3:Bt P σ r r')
  {args args':List Value} (hl:WW σ args args') (hlen:args.length=r.params.length) {v:Value} {h':WF} (hc:zAd ih l r args h=some (v,h')):
  ∃ σ' w' cv,Wy P B σ h w σ' h' w'/\WL σ' v cv/\∀ (c:Frame) (cs:List Frame),
   Steps P (lone (Frame.round pl.b r'.fn ((r'.params.zip args'.toArray).foldl (fun tmps (t,a)=>tmps.setIfInBounds t a) r'.tmps) r'.assign r'.body .normal) (c::cs) w) (lone (c.finish cv) cs w'):=by
 obtain⟨nt,c1,c2,c3,c4⟩:=k3.code;have hset:=zK2 (tm:=r'.tmps) (t:=r.tm) (fun p hp'=>QK (c2 p hp') c1) hlen.symm hl k3.tm;rw[<-k3.params]at hset;have htm:((r'.params.zip args'.toArray).foldl (fun tmps (t,a)=>tmps.setIfInBounds t a) r'.tmps)=((r'.params.toList.zip args').foldl (fun tm (t,a)=>tm.setIfInBounds t a) r'.tmps):=by
  rw[<-Array.foldl_toList];simp
 rw[htm];generalize((r'.params.toList.zip args').foldl (fun tm (t,a)=>tm.setIfInBounds t a) r'.tmps)=tm at hset;unfold zAd at hc;rw[<-k3.params]at hc;split at hc
 ·rename_i fr1 h1 hex1;split at hc
  ·rename_i r1 hl1;have hst:r1.state=.ready:=by
    cases hs:r1.state<;>first|rfl|(rw[hs]at hc;cases hc)
   rw[hst]at hc;dsimp only[cond_true]at hc;split at hc
   ·rename_i e fr2 h2 hex2;split at hc
    ·rename_i r2 hdf hl2;cases hre:ZL l r2 h2 e with
     |mk v0 h0=>
     rw[hre]at hc;cases hc;let b:Frame:={(default:Frame)with fn:=r'.fn,kind:= .normal,roundOf:=some pl.b}
     have hF:W5 P σ nt ⟨zBT r'.params.toList args r.tm,[],some l⟩ {tmps:=tm,defers:=[]} b:=
      ⟨by rw[hset.2];exact c1,hset.1,trivial,⟨pl,hp,rfl⟩⟩
     obtain⟨σ1,w1,a1,ev1,hF1,hrd1,arr1⟩:=hex nt r'.assign r.assign c3 _ h _ _ _ hex1 B σ w hr _ b hF;obtain⟨pl1,r1',m1,m2,m3⟩:=zAI ev1.rel hl1;have hp1:=ev1.le _ _ hp;rw[hp1]at m1;cases m1;have hbegin:=run_beginRound (P:=P) m2 (by rw[m3.state,hst]);have ev2:=zDk (r2:={r1 with state:= .busy}) (r2':={r1' with state:= .busy}) ev1.rel hl1 hp1 ⟨rfl,m3.pending,m3.tm,m3.params,m3.code,m3.defers⟩;obtain⟨σ3,w3,a3,ev3,hF3,hrd3,arr3⟩:=hex nt r'.body r.body c4 _ _ _ _ _ hex2 B σ1 _ ev2.rel _ b hF1;have hp3:=ev3.le _ _ hp1;obtain⟨w4,bv,rfl,ev4,hend⟩:=zFu ev3.rel hl2 hp3 hre;refine⟨σ3,w4,.bool bv,((ev1.trans ev2).trans ev3).trans ev4,.bool bv,fun c cs=> ?_⟩;have s1:=arr1 [.beginRound,.code r'.body] (c::cs) (.inl rfl);have s2:=arr3 [] (c::cs) (.inl rfl);refine Steps.trans s1 (.trans (.one (zMm rfl hbegin)) ?_);cases e with
     |normal=>exact Steps.trans s2 (.one (zGJ rfl rfl hend))
     |ret=>obtain⟨k1,s2⟩:=s2;exact Steps.trans s2 (.one (zFn rfl rfl hend))
     |exit id=>obtain⟨k1,hx,s2⟩:=s2;exact Steps.trans s2 (.one (zEo rfl rfl hx hend))
     |goto g=>obtain⟨k1,hx,s2⟩:=s2;exact Steps.trans s2 (.one (zEv rfl rfl hx hend))
    ·cases hc
   ·cases hc
  ·cases hc
 ·cases hc
theorem zDH{ih:Ex}(hex:yI P ih)(hcall:yA P ih)(hr:Wg P B σ h w){f f':Value}{args args':List Value}{v:Value}{h':WF}(hf:WL σ f f')(hl:WW σ args args')
  (hc:zAK ih f args h=some (v,h')):
  ∃ nx fr0 σ' w' cv,((do let d <-Deferred.ofValue f' args'.toArray;invoke d.target d.args):Sem Next).run P w=.ok nx w/\zBr P nx=some fr0/\Wy P B σ h w σ' h' w'/\WL σ' v cv/\
   ∀ (c:Frame) (cs:List Frame),Steps P (lone fr0 (c::cs) w) (lone (c.finish cv) cs w'):=by
 unfold zAK at hc;split at hc
 ·rename_i fi first cap
  obtain⟨h1,h2⟩:=hcall _ _ _ _ _ hc;cases hf with
  |func _ ha hcp ra rc=>
   rename_i first' cap'
   have hl2:WW σ (first.toList++args++cap.toList) (first'.toList++args'++cap'.toList):=
    (WW.append ⟨by simpa using ha,fun i x y hx hy=>ra i x y (by simpa using hx) (by simpa using hy)⟩ hl).append ⟨by simpa using hcp,fun i x y hx hy=>rc i x y (by simpa using hx) (by simpa using hy)⟩
   obtain⟨σ',w',cv,e1,e2,e3⟩:=h2 B σ w hr (first'++args'.toArray++cap') (by simpa using hl2) .normal (.inl rfl);refine⟨.enter fi (first'++args'.toArray++cap'),_,σ',w',cv,?_,rfl,e1,e2,fun c cs=> ?_⟩
   ·simp[Deferred.ofValue,invoke,h1]
   ·obtain⟨fr',e4,e5⟩:=e3 (c::cs) (.inl rfl);exact e4.trans (.one (zBU e5))
 ·rename_i l first cap
  split at hc
  ·rename_i r hl0;cases hlen:Nat.beq args.length r.params.length with
   |false=>simp[hlen]at hc
   |true=>
   simp only[hlen,cond_true]at hc;have hlen:=QI hlen;cases hf with
   |yield hp=>
    rename_i pl;obtain⟨pl0,r',k1,k2,k3⟩:=zAI hr hl0;rw[hp]at k1;cases k1;obtain⟨σ',w',cv,e1,e2,e3⟩:=zHs hex hr hp k2 hl0 k3 hl hlen hc;have hsz:args'.toArray.size=r'.params.size:=by
     have:=congrArg List.length k3.params;simp only[Array.length_toList]at this;simp[<-hl.1,hlen,this]
    refine⟨.round pl.b r'.fn ((r'.params.zip args'.toArray).foldl (fun tmps (t,a)=>tmps.setIfInBounds t a) r'.tmps) r'.assign r'.body,_,σ',w',cv,?_,rfl,e1,e2,e3⟩;have:=run_yield (P:=P) k2 hsz;simp only[Gw]at hsz;simp[Deferred.ofValue,invoke,this]
  ·cases hc
 ·cases hc
end
section
variable {P:Program}{B:Nat}{σ:Nat->Option Pl}{h:WF}{w:World}
theorem zBe{nt:Nat}{ops:Array Oper}{o:Oper}{ao:WG}(hc:zCZ P nt ops o=some ao):
  (∀ d,o.dst=some d->d<nt)/\ao.dst=o.dst/\ao.op=(SA P o).getD .stuck/\
   ((o.guard=none/\ao.guard=none)\/∃ j want s,o.guard=some (j,want)/\(ops[j]?).bind (·.dst)=some s/\ao.guard=some (s,want)):=by
 have key:∀ (x:Option WG),x=(match o.guard with
   |none=>some ⟨o.dst,none,(SA P o).getD .stuck⟩
   |some (j,want)=>match(ops[j]?).bind (·.dst)with
    |some s=>some ⟨o.dst,some (s,want),(SA P o).getD .stuck⟩
    |none=>none)->x=some ao->ao.dst=o.dst/\ao.op=(SA P o).getD .stuck/\
   ((o.guard=none/\ao.guard=none)\/∃ j want s,o.guard=some (j,want)/\(ops[j]?).bind (·.dst)=some s/\ao.guard=some (s,want)):=by
  intro x hx hxa;subst hxa;cases hg:o.guard with
  |none=>
   rw[hg]at hx;cases hx;exact⟨rfl,rfl,.inl ⟨rfl,rfl⟩⟩
  |some p=>
   obtain⟨j,want⟩:=p;rw[hg]at hx;cases hs:(ops[j]?).bind (·.dst)with
   |none=>simp only[hs]at hx;cases hx
   |some s=>
    simp only[hs]at hx;cases hx;exact⟨rfl,rfl,.inr ⟨j,want,s,rfl,hs,rfl⟩⟩
 unfold zCZ at hc;cases hd:o.dst with
 |none=>
  simp only[hd,cond_true]at hc;have k:=key _ (by first|(rw[hd];done)|(rw[hd];rfl)) hc;rw[hd]at k;exact⟨(fun d e=>by cases e),k⟩
 |some d=>
  cases hl:Nat.ble (d+1) nt with
  |false=>simp[hd,hl]at hc
  |true=>
   simp only[hd,hl,cond_true]at hc;have k:=key _ (by first|(rw[hd];done)|(rw[hd];rfl)) hc;rw[hd]at k;exact⟨fun d' e=>by cases e;exact QO hl,k⟩
theorem zFP{nt:Nat}{ops:Array Oper}{o:Oper}{ao:WG}(hc:zCZ P nt ops o=some ao){t:WI Value}{a:Act}(ht:∀ k,WL σ (zC t k) (a.tmps.getD k Go.undef)):
  Region.wanted o (yielded ops a.tmps)=zW t ao.guard:=by
 obtain⟨_,_,_,hg⟩:=zBe hc;unfold Region.wanted zW;rcases hg with⟨h1,h2⟩|⟨j,want,s,h1,h2,h3⟩
 ·rw[h1,h2]
 ·rw[h1,h3];have hv:=ht s;simp only[yielded,h2,QQ];rw[Qv]at hv;generalize zC t s=x at hv;cases hx:a.tmps[s]? with
  |none=>
   rw[hx]at hv;simp only[Ge,Go.undef]at hv;cases hv;simp
  |some y=>
   rw[hx]at hv;simp only[Q1]at hv;cases hv<;>simp
def zB6:W4->Bool
 | .call .. | .dfr .. | .dfrClear .. | .invoke .. | .recover=>true
 |_=>false
theorem zPa{o:Oper}{op:W4}(hc:SA P o=some op):∀ x∈o.op.operands.toList,ZU P x=true:=by
 unfold SA at hc;cases hok:zBl P o.op.operands.toList with
 |false=>simp[hok]at hc
 |true=>exact fun x hx=>QV.1 hok x hx
theorem zD4{b:Builtin}{args:List Operand}{ts:List TypeId}{op:W4}(hc:Yo P b args ts=some op):zB6 op=false:=by
 unfold Yo at hc;simp only[Q2]at hc;repeat' split at hc
 all_goals first
  |(cases hc;done)
  |(cases hc;rfl)
  |(simp only[QP]at hc;obtain⟨_,_,rfl⟩:=hc;rfl)
theorem zDM{b:Builtin}{args:List Operand}{ts:List TypeId}{op:W4}(hc:Yi P b args ts=some op):(b=.recover/\args=[]/\op=.recover)\/zB6 op=false:=by
 unfold Yi at hc;split at hc
 ·cases hc;exact .inr rfl
 ·cases hc;exact .inr rfl
 ·cases hc;exact .inr rfl
 ·cases hc;exact .inl ⟨rfl,rfl,rfl⟩
 ·exact .inr (zD4 hc)
theorem zNw{o:Oper}{op:W4}(hc:SA P o=some op)(hk:zB6 op=true):(∃ c,o.op=.call c)\/∃ c,o.op=.defer c:=by
 unfold SA at hc;cases hok:zBl P o.op.operands.toList with
 |false=>simp[hok]at hc
 |true=>
  simp only[hok,QS,QR]at hc;clear hok;cases hq:o.op with
  |call c=>exact .inl ⟨c,rfl⟩
  |defer c=>exact .inr ⟨c,rfl⟩
  |_=>
   exfalso;try simp only[hq,Q2]at hc
   repeat' split at hc
   all_goals first
    |(cases hc;done)
    |(cases hc;cases hk;done)
    |(simp only[QP]at hc;obtain⟨_,_,rfl⟩:=hc;cases hk;done)
    |(simp_all;done)
theorem zHZ{o:Oper}{op:W4}{c:Call}(hc:SA P o=some op)(hq:o.op=.call c):(∃ f,c.callee=.value f/\op=.call f c.args.toList)\/(∃ x n,c.callee=.invoke x n/\op=.invoke x n c.args.toList)\/(c.callee=.builtin .recover/\c.args.toList=[]/\op=.recover)\/zB6 op=false:=by
 unfold SA at hc;cases hok:zBl P o.op.operands.toList with
 |false=>simp[hok]at hc
 |true=>
  simp only[hok,QS,QR]at hc;clear hok;simp only[hq]at hc;split at hc
  ·rename_i f hf;rcases zBm (P:=P) f c.args.toList with q|⟨g,x,rt,_,_,_,_,q⟩
   ·rw[q]at hc;cases hc;exact .inl ⟨f,hf,rfl⟩
   ·rw[q]at hc;cases hc;exact .inr (.inr (.inr rfl))
  ·rename_i b hb;rcases zDM hc with⟨rfl,q1,q2⟩|q
   ·exact .inr (.inr (.inl ⟨hb,q1,q2⟩))
   ·exact .inr (.inr (.inr q))
  ·rename_i x n hx;cases hc;exact .inr (.inl ⟨x,n,hx,rfl⟩)
theorem zAc{o:Oper}{op:W4}{c:Call}(hc:SA P o=some op)(hq:o.op=.defer c):
  (∃ f,c.callee=.value f/\op=.dfr f c.args.toList)\/
  (∃ m t kt e,c.callee=.builtin .clear/\c.args=#[m]/\c.argTypes=#[t]/\P.underlying t=some (.map kt e)/\op=.dfrClear t o.type (c.args.map fun| .const _=>true|_=>false) m):=by
 unfold SA at hc;cases hok:zBl P o.op.operands.toList with
 |false=>simp[hok]at hc
 |true=>
  simp only[hok,QS,QR]at hc;clear hok;simp only[hq]at hc;split at hc
  ·rename_i f hf;cases hc;exact .inl ⟨f,hf,rfl⟩
  ·rename_i hcl;split at hc
   ·rename_i m t hm ht;split at hc
    ·rename_i kt e hu;cases hc;exact .inr ⟨m,t,kt,e,hcl,by rw[<-Gm (xs:=c.args),hm],by rw[<-Gm (xs:=c.argTypes),ht],hu,rfl⟩
    ·cases hc
   ·cases hc
  ·cases hc
theorem Yz{ih:Ex}(hex:yI P ih)(hcall:yA P ih){nt:Nat}{ops:Array Oper}{i:Nat}{o:Oper}{ao:WG}(ho:ops[i]?=some o)(hc:zCZ P nt ops o=some ao)
  (hr:Wg P B σ h w) {fr fr':WR} {a:Act} {b:Frame} (hF:W5 P σ nt fr a b) {h':WF} (hx:yD P ih ao fr h=some (fr',h')):
  ∃ σ' w' a',Wy P B σ h w σ' h' w'/\W5 P σ' nt fr' a' b/\fr'.round=fr.round/\
   ∀ (rest:List Nat) (k:List Item) (cs:List Frame),zAp b cs->Steps P (lone (At b a (.inRegion ops (i::rest)::k)) cs w) (lone (At b a' (.inRegion ops rest::k)) cs w'):=by
 obtain⟨s1,s2,s3,_⟩:=zBe hc;have hw:=zFP hc hF.tm;unfold yD at hx;cases hwt:zW fr.tm ao.guard with
 |false=>
  simp only[hwt,QR,QA,QD]at hx;obtain⟨rfl,rfl⟩:=hx;refine⟨σ,w,a.put o.dst Go.undef,.refl hr,?_,?_,fun rest k cs hcm=> ?_⟩
  ·rw[s2];exact hF.val s1 (WL.undef σ)
  ·cases ao.dst<;>rfl
  ·have:=zIS (P:=P) (b:=b) (a:=a) (k:=k) (cs:=cs) (w:=w) (ops:=ops) (i:=i) (rest:=rest) (by rw[ho];simp[hw,hwt]);rw[ho]at this;exact .one this
 |true=>
  simp only[hwt,cond_true]at hx;rw[hwt]at hw;cases hv:zk P ih fr.tm fr.round h ao.op with
  |none=>simp[hv]at hx
  |some r=>
  obtain⟨v,ds,h1⟩:=r;simp only[hv,QA,QD]at hx;obtain⟨rfl,rfl⟩:=hx;have hrd:(val ao.dst {fr with dfs:=ds++fr.dfs} v).round=fr.round:=by cases ao.dst<;>rfl
  cases hcop:SA P o with
  |none=>
   rw[hcop,Ge]at s3;rw[s3]at hv;simp[zk,WN]at hv
  |some op=>
  rw[hcop,Q1]at s3;subst s3;have hok:=zPa hcop;have E:∀ x∈o.op.operands.toList,WL σ (ev fr.tm x) (a.eval x):=fun x hx=>zAB hr hF.tm (hok x hx);have fin:∀ {σ' w' cv},Wy P B σ h w σ' h1 w'->WL σ' v cv->ds=[]->
    (∀ (rest:List Nat) (k:List Item) (cs:List Frame),zAp b cs->Steps P (lone (At b a (.inRegion ops (i::rest)::k)) cs w) (lone (At b (a.put o.dst cv) (.inRegion ops rest::k)) cs w'))->
    ∃ σ' w' a',Wy P B σ h w σ' h1 w'/\W5 P σ' nt (val ao.dst {fr with dfs:=ds++fr.dfs} v) a' b/\(val ao.dst {fr with dfs:=ds++fr.dfs} v).round=fr.round/\
     ∀ (rest:List Nat) (k:List Item) (cs:List Frame),zAp b cs->Steps P (lone (At b a (.inRegion ops (i::rest)::k)) cs w) (lone (At b a' (.inRegion ops rest::k)) cs w'):=by
   intro σ' w' cv e1 e2 e3 e4;subst e3;exact⟨σ',w',a.put o.dst cv,e1,by rw[s2];exact(hF.mono e1.le).val s1 e2,hrd,e4⟩
  cases hcall':zB6 ao.op with
  |false=>
   have hnd:∀ c,o.op=.defer c->b.roundOf=none:=fun c hq=>by
    rcases zAc hcop hq with⟨f,_,e⟩|⟨m,t,kt,e',_,_,_,_,e⟩<;>rw[e]at hcall'<;>cases hcall'
   have hv':∃ v0,WN P ih fr.tm h ao.op=some (v,v0)/\h1=v0/\ds=[]:=by
    unfold zk at hv;split at hv
    ·rename_i e;rw[e]at hcall';cases hcall'
    ·rename_i e;rw[e]at hcall';cases hcall'
    ·rename_i e;rw[e]at hcall';cases hcall'
    ·cases hx:WN P ih fr.tm h ao.op with
     |none=>simp[hx]at hv
     |some p=>
      obtain⟨v0,h0⟩:=p;simp only[hx,QA,QD]at hv;obtain⟨rfl,rfl,rfl⟩:=hv;exact⟨_,rfl,rfl,rfl⟩
   obtain⟨v0,hv1,rfl,hds⟩:=hv';obtain⟨σ',w',hres,hevo⟩:=zOK hr hF.tm hcop ⟨(fun f args e=>by rw[e]at hcall';cases hcall'),(fun x n args e=>by rw[e]at hcall';cases hcall')⟩ hv1;rcases hres with⟨cv,h2,h3⟩|⟨h2,h3⟩
   ·exact fin hevo h3 hds fun rest k cs hcm=> .one (zBb ho hw hnd h2)
   ·subst h3;exact fin hevo (WL.undef _) hds fun rest k cs hcm=> .one (zLP ho hw hnd h2)
  |true=>
   rcases zNw hcop hcall' with⟨c,hq⟩|⟨c,hq⟩
   ·rcases zHZ hcop hq with⟨f,hf,he⟩|⟨x,name,hf,he⟩|⟨hf,hargs,he⟩|he
    ·have hnd:∀ c,o.op=.defer c->b.roundOf=none:=fun c' hq'=>by rw[hq]at hq';cases hq'
     rw[he]at hv;simp only[zk,WN]at hv;have hops:∀ x,x=f\/x∈c.args->x∈o.op.operands.toList:=fun x hx=>by
      rw[hq];simp only[Op.operands,Call.operands,hf];rcases hx with rfl|hx<;>simp[*]
     cases hcv:zAK ih (ev fr.tm f) (c.args.toList.map (ev fr.tm)) h with
     |none=>simp[hcv]at hv
     |some p=>
      obtain⟨v0,h0⟩:=p;simp only[hcv,QA,QD]at hv;obtain⟨rfl,rfl,rfl⟩:=hv;have hargs:WW σ (c.args.toList.map (ev fr.tm)) (c.args.toList.map a.eval):=
       zAX hr hF.tm fun x hx=>hok x (hops x (.inr (by simpa using hx)))
      obtain⟨nx,fr0,σ',w',cv,r1,r2,r3,r4,r5⟩:=zDH hex hcall hr (E f (hops f (.inl rfl))) hargs hcv;refine fin r3 r4 rfl fun rest k cs hcm=> ?_;have hrun:(execOp a.eval o).run P w=.ok nx w:=by
       have:(c.args.toList.map a.eval).toArray=c.args.map a.eval:=by rw[<-Array.toList_map,Gm]
       rw[this]at r1;simp only[execOp,hq,resolve,hf];exact r1
      have:=r5 (At b a (.inRegion ops (i::rest)::k)) cs;rw[YK,ho]at this;exact Steps.trans (.one (zFA ho hw hnd hrun r2)) this
    ·have hnd:∀ c,o.op=.defer c->b.roundOf=none:=fun c' hq'=>by rw[hq]at hq';cases hq'
     rw[he]at hv;simp only[zk]at hv;have hops:∀ y,y=x\/y∈c.args->y∈o.op.operands.toList:=fun y hy=>by
      rw[hq];simp only[Op.operands,Call.operands,hf];rcases hy with rfl|hy<;>simp[*]
     have hargs:WW σ (c.args.toList.map (ev fr.tm)) (c.args.toList.map a.eval):=
      zAX hr hF.tm fun y hy=>hok y (hops y (.inr (by simpa using hy)))
     have e1:=E x (hops x (.inl rfl));have hexe:∀ {R:Result Next},(callMethod (a.eval x) name (c.args.map a.eval)).run P w=R->(execOp a.eval o).run P w=R:=by
      intro R hR;simp only[execOp,hq,resolve,hf,Sem.run_bind,Sem.run_pure,Result.andThen_ok,invoke];have h1:((#[a.eval x]++c.args.map a.eval:Array Value)[0]?:Option Value)=some (a.eval x):=by
       rw[Array.getElem?_append_left (by simp)];rfl
      have h2:(#[a.eval x]++c.args.map a.eval:Array Value).extract 1 (#[a.eval x]++c.args.map a.eval:Array Value).size=c.args.map a.eval:=by
       apply JC;rw[Array.toList_extract];simp;exact Qo (by simp)
      rw[h1,h2];exact hR
     cases hai:WN P ih fr.tm h (.invoke x name c.args.toList)with
     |none=>simp[hai]at hv
     |some p=>
      obtain⟨v0,h0⟩:=p;simp only[hai,QA,QD]at hv;obtain⟨rfl,rfl,rfl⟩:=hv;simp only[WN]at hai;unfold Y2 at hai;split at hai
      ·rename_i ty u hx0;split at hai
       ·rename_i f hmf;obtain⟨k1,k2⟩:=hcall _ _ _ _ _ hai;rw[hx0]at e1;obtain⟨u',hu',hru⟩:∃ u',a.eval x=.iface ty u'/\WL σ u u':=by
         generalize a.eval x=q at e1;cases e1 with
         |iface _ q=>exact⟨_,rfl,q⟩
        obtain⟨σ',w',cv,r1,r2,r3⟩:=k2 B σ w hr (#[u']++c.args.map a.eval) (by simpa using WW.cons hru hargs) .normal (.inl rfl);refine fin r1 r2 rfl fun rest k cs hcm=> ?_;have hfuel:∃ n,P.types.size+Made.depth=n+1:=⟨P.types.size+Made.depth-1,by have:0<Made.depth:=(by decide);omega⟩;obtain⟨n,hn⟩:=hfuel;have hmr:=zC5 (w:=w) hmf u' n;rw[<-hn]at hmr;have hrun:(execOp a.eval o).run P w=.ok (.enter f (#[u']++c.args.map a.eval)) w:=by
         refine hexe ?_;rw[hu'];simp only[callMethod,program,Sem.run_bind,Sem.run,Result.andThen,hmr];exact k1 _ w
        obtain⟨fr',e4,e5⟩:=r3 (At b a (.inRegion ops (i::rest)::k)::cs) (.inl rfl);have hs:=zBU (cs:=cs) (c:=At b a (.inRegion ops (i::rest)::k)) e5;rw[YK,ho]at hs;exact Steps.trans (.one (zFA ho hw hnd hrun rfl)) (Steps.trans e4 (.one hs))
       ·cases hai
      ·rename_i u hnu;split at hai
       ·rename_i G rt ty hrt;generalize hcn:(name == "Comparable"&&(List.map (ev fr.tm) c.args.toList).isEmpty)=cn at hai;cases cn with
        |false=>cases hai
        |true=>
        simp only[cond_true,QP,QD]at hai;obtain⟨bv,hb,rfl,rfl⟩:=hai;simp only[QJ,beq_iff_eq]at hcn;obtain⟨rfl,hemp⟩:=hcn;have hargs0:c.args=#[]:=by simpa using hemp
        have hx':a.eval x=.iface rt (.agg #[.pointer (some ⟨G,ty,none⟩)]):=by
         clear hnu;generalize ev fr.tm x=q at e1 hrt;generalize a.eval x=y at e1;cases e1<;>simp only[zGQ,reduceCtorEq]at hrt;simp only[QA,QD]at hrt;obtain⟨rfl,rfl,rfl⟩:=hrt;rfl
        refine fin (.refl hr) (.bool bv) rfl fun rest k cs hcm=> .one (zBb ho hw hnd (hexe ?_));rw[hx'];exact zDz hb _ (by simp[hargs0])
       ·cases hai
    ·have hnd:∀ c,o.op=.defer c->b.roundOf=none:=fun c' hq'=>by rw[hq]at hq';cases hq'
     rw[he]at hv;simp only[zk]at hv;split at hv
     ·rename_i hrd0;simp only[QA,QD]at hv;obtain⟨rfl,rfl,rfl⟩:=hv;have hbr:b.roundOf=none:=by have:=hF.round;rw[hrd0]at this;exact this
      have hrun:(execOp a.eval o).run P w=.ok .recover w:=by
       simp only[execOp,hq,resolve,hf,Sem.run_bind,Sem.run_pure,Result.andThen_ok,invoke,builtin]
      exact fin (.refl hr) .nilIface rfl fun rest k cs hcm=> .one (zGp ho hw hnd hrun hbr hcm)
     ·cases hv
    ·rw[he]at hcall';cases hcall'
   ·have hdfr:∀ d ds':Deferred,True:=fun _ _=>trivial;rcases zAc hcop hq with⟨f,hf,he⟩|⟨m,t,kt,e,hf,hargs,hts,hu,he⟩
    ·rw[he]at hv;simp only[zk]at hv;split at hv
     ·rename_i fi first cap hrd0 hfv
      simp only[QA,QD]at hv;obtain⟨rfl,rfl,rfl⟩:=hv;have hbr:b.roundOf=none:=by have:=hF.round;rw[hrd0]at this;exact this
      have hops:∀ x,x=f\/x∈c.args->x∈o.op.operands.toList:=fun x hx=>by
       rw[hq];simp only[Op.operands,Call.operands,hf];rcases hx with rfl|hx<;>simp[*]
      have hargs:WW σ (c.args.toList.map (ev fr.tm)) (c.args.toList.map a.eval):=
       zAX hr hF.tm fun x hx=>hok x (hops x (.inr (by simpa using hx)))
      have hfr:=E f (hops f (.inl rfl));rw[hfv]at hfr;cases hfe:a.eval f with
      |func fn' first' cap'=>
       rw[hfe]at hfr;cases hfr with
       |func _ ha hcp ra rc=>
       have hrun:(execOp a.eval o).run P w=.ok (.defer {target:= .fn (.func fi) cap',args:=first'++c.args.map a.eval}) w:=by
        simp only[execOp,hq,resolve,hf,hfe];simp[Deferred.ofValue]
       refine⟨σ,w,_,.refl hr,?_,hrd,fun rest k cs hcm=> .one (zC3 ho hw (fun c _=>hbr) hrun)⟩;rw[s2];have hd0:DRel P σ {target:= .fn (.func fi) cap,args:=first++(c.args.toList.map (ev fr.tm)).toArray} {target:= .fn (.func fi) cap',args:=first'++c.args.map a.eval}:= ?_;exact W5.val (fr:={fr with dfs:=_::fr.dfs}) (a:={a with defers:=_::a.defers}) ⟨hF.size,hF.tm,And.intro hd0 hF.dfs,hF.round⟩ s1 (WL.undef σ);refine⟨cap',rfl,⟨by simpa using hcp,fun i x y hx hy=>rc i x y (by simpa using hx) (by simpa using hy)⟩,?_⟩;have:=WW.append (σ:=σ) (a:=first.toList) (a':=first'.toList) ⟨by simpa using ha,fun i x y hx hy=>ra i x y (by simpa using hx) (by simpa using hy)⟩ hargs;simpa using this
      |_=>rw[hfe]at hfr;cases hfr
     ·cases hv
    ·rw[he]at hv;simp only[zk]at hv;split at hv
     ·rename_i g hrd0 hmv;simp only[QA,QD]at hv;obtain⟨rfl,rfl,rfl⟩:=hv;have hbr:b.roundOf=none:=by have:=hF.round;rw[hrd0]at this;exact this
      have hmr:=E m (by rw[hq];simp[Op.operands,Call.operands,hargs,hf]);rw[hmv]at hmr;have hrun:(execOp a.eval o).run P w=.ok (.defer {target:= .builtin .clear #[t] o.type (c.args.map fun| .const _=>true|_=>false),args:=#[a.eval m]}) w:=by
       simp only[execOp,hq,resolve,hf,hts];simp[hargs];cases m<;>rfl
      refine⟨σ,w,_,.refl hr,?_,hrd,fun rest k cs hcm=> .one (zC3 ho hw (fun c _=>hbr) hrun)⟩;rw[s2];have hd0:DRel P σ {target:= .builtin .clear #[t] o.type (c.args.map fun| .const _=>true|_=>false),args:=#[.map (some g)]}
        {target:= .builtin .clear #[t] o.type (c.args.map fun| .const _=>true|_=>false),args:=#[a.eval m]}:=⟨t,kt,e,rfl,hu,rfl,WW.cons hmr (WW.nil _)⟩
      exact W5.val (fr:={fr with dfs:=_::fr.dfs}) (a:={a with defers:=_::a.defers}) ⟨hF.size,hF.tm,And.intro hd0 hF.dfs,hF.round⟩ s1 (WL.undef σ)
     ·cases hv
end
theorem Vg{P:Program}{m m1 m2:Machine}(h:Steps P m m2)(hne:m≠m2)(hs:step P m=.next m1):Steps P m1 m2:=by
 obtain⟨n,hn⟩:=h;cases n with
 |zero=>simp[runN]at hn;exact absurd hn hne
 |succ n=>exact⟨n,by simpa [runN,hs]using hn⟩
section
variable {P:Program}{B:Nat}{σ:Nat->Option Pl}{h:WF}{w:World}
theorem zGZ{ih:Ex}(hex:yI P ih)(hcall:yA P ih){nt:Nat}{ops:Array Oper}{b:Frame}:∀ (l:List Oper) (j:Nat) (as:List WG) {σ:Nat->Option Pl} {h:WF} {w:World} {fr fr':WR} {a:Act} {h':WF},
  (∀ i o,l[i]?=some o->ops[j+i]?=some o)->YI P nt ops l=some as->Wg P B σ h w->W5 P σ nt fr a b->yT P ih as fr h=some (fr',h')->
  ∃ σ' w' a',Wy P B σ h w σ' h' w'/\W5 P σ' nt fr' a' b/\fr'.round=fr.round/\
   ∀ (k:List Item) (cs:List Frame),zAp b cs->Steps P (lone (At b a (.inRegion ops (List.range' j l.length)::k)) cs w) (lone (At b a' (.inRegion ops []::k)) cs w'):=by
 intro l;induction l with
 |nil=>
  intro j as σ h w fr fr' a h' _ hc hr hF hx;simp only[YI,QA]at hc;subst hc;simp only[yT,QA,QD]at hx;obtain⟨rfl,rfl⟩:=hx;exact⟨σ,w,a,.refl hr,hF,rfl,fun k cs hcm=>Steps.refl P _⟩
 |cons o l ihl=>
  intro j as σ h w fr fr' a h' hl hc hr hF hx;simp only[YI]at hc;cases h1:zCZ P nt ops o with
  |none=>simp[h1]at hc
  |some ao=>
  cases h2:YI P nt ops l with
  |none=>simp[h1,h2]at hc
  |some as2=>
  simp only[h1,h2,QA]at hc;subst hc;simp only[yT]at hx;cases h3:yD P ih ao fr h with
  |none=>simp[h3]at hx
  |some p=>
  obtain⟨fr1,hh1⟩:=p;simp only[h3]at hx;obtain⟨σ1,w1,a1,e1,F1,rd1,st1⟩:=Yz hex hcall (i:=j) (by simpa using hl 0 o rfl) h1 hr hF h3;obtain⟨σ2,w2,a2,e2,F2,rd2,st2⟩:=ihl (j+1) as2 (fun i o' hi=>by have:=hl (i+1) o' (by simpa using hi);rw[<-this];congr 1;omega) h2 e1.rel F1 hx;refine⟨σ2,w2,a2,e1.trans e2,F2,rd2.trans rd1,fun k cs hcm=> ?_⟩;rw[JA,List.range'_succ];exact Steps.trans (st1 _ k cs hcm) (st2 k cs hcm)
theorem zFg{ih:Ex}(hex:yI P ih)(hcall:yA P ih){nt id:Nat}{ops:Array Oper}{b:Frame}{as:List WG}{fr fr':WR}{a:Act}{h':WF}
  (hc:YI P nt ops ops.toList=some as) (hr:Wg P B σ h w) (hF:W5 P σ nt fr a b) (hx:yT P ih as fr h=some (fr',h')):
  ∃ σ' w' a',Wy P B σ h w σ' h' w'/\W5 P σ' nt fr' a' b/\fr'.round=fr.round/\
   ∀ (k:List Item) (cs:List Frame),zAp b cs->Steps P (lone (At b a (.code (.region id ops false)::k)) cs w) (lone (At b a' k) cs w'):=by
 obtain⟨σ1,w1,a1,e1,F1,rd1,st1⟩:=zGZ hex hcall ops.toList 0 as (fun i o hi=>by simpa using hi) hc hr hF hx;refine⟨σ1,w1,a1,e1,F1,rd1,fun k cs hcm=> ?_⟩;refine Steps.trans (.one zKX) (.trans ?_ (.one (zBZ (ops:=ops))));have:=st1 k cs hcm;rw[<-List.range_eq_range']at this;simpa using this
theorem zBS{nt:Nat}:∀ {c:Code} {ac:WU} {l:Nat},z9 P nt c=some ac->
  (findLabel c l=none/\zx ac l=none)\/∃ r r',findLabel c l=some r/\zx ac l=some r'/\z9 P nt r=some r':=by
 intro c;induction c with
 |seq x y ihx ihy=>
  intro ac l hc;simp only[z9]at hc;cases h1:z9 P nt x with
  |none=>simp[h1]at hc
  |some ax=>
  cases h2:z9 P nt y with
  |none=>simp[h1,h2]at hc
  |some ay=>
  simp only[h1,h2,QA]at hc;subst hc;simp only[findLabel,zx];rcases ihx (l:=l) h1 with⟨a1,a2⟩|⟨r,r',a1,a2,a3⟩
  ·rw[a1,a2];exact ihy (l:=l) h2
  ·rw[a1,a2];exact .inr ⟨_,_,rfl,rfl,by simp[z9,a3,h2]⟩
 |label l'=>
  intro ac l hc;simp only[z9,QA]at hc;subst hc;simp only[findLabel,zx];by_cases e:l' == l
  ·simp only[e,Q9];exact .inr ⟨_,_,rfl,rfl,rfl⟩
  ·simp only[e];exact .inl ⟨rfl,rfl⟩
 |_=>
  intro ac l hc;refine .inl ⟨rfl,?_⟩;simp only[z9,Q2]at hc;repeat' split at hc
  all_goals first
   |(cases hc;done)
   |(cases hc;rfl)
   |(simp only[QP]at hc;obtain⟨_,_,rfl⟩:=hc;rfl)
   |(simp only[zFO,Q2]at hc;split at hc<;>cases hc;rfl)
theorem VT{m m1:Machine}{b:Frame}{k:List Item}{cs:List Frame}{e:WP}{a:Act}{w:World}(hs:Steps P m m1)(h:Arr P m1 b k cs e a w):Arr P m b k cs e a w:=by
 cases e with
 |normal=>exact Steps.trans hs h
 |ret=>obtain⟨k1,h⟩:=h;exact⟨k1,Steps.trans hs h⟩
 |exit id=>obtain⟨k1,h1,h2⟩:=h;exact⟨k1,h1,Steps.trans hs h2⟩
 |goto l=>obtain⟨k1,h1,h2⟩:=h;exact⟨k1,h1,Steps.trans hs h2⟩
def zDt(P:Program)(B:Nat)(σ:Nat->Option Pl)(h:WF)(w:World)(nt:Nat)(c:Code)(fr:WR)(a:Act)(b:Frame)(e:WP)(fr':WR)(h':WF):Prop:=
 ∃ σ' w' a',Wy P B σ h w σ' h' w'/\W5 P σ' nt fr' a' b/\fr'.round=fr.round/\∀ (k:List Item) (cs:List Frame),zAp b cs->Arr P (lone (At b a (.code c::k)) cs w) b k cs e a' w'
theorem zHp{ih:Ex}(hex:yI P ih){nt:Nat}{c0:Code}{ac0:WU}(hc0:z9 P nt c0=some ac0){b:Frame}:∀ (n:Nat) {c:Code} {ac:WU} {σ:Nat->Option Pl} {h:WF} {w:World} {fr fr':WR} {a:Act} {e:WP} {h':WF},
  z9 P nt c=some ac->Wg P B σ h w->W5 P σ nt fr a b->Zk ih n ac0 ac fr h=some (e,fr',h')->
  ∃ σ' w' a',Wy P B σ h w σ' h' w'/\W5 P σ' nt fr' a' b/\fr'.round=fr.round/\∀ (k:List Item) (cs:List Frame),zAp b cs->Arr P (lone (At b a (.code c:: .inScope c0::k)) cs w) b k cs e a' w':=by
 intro n;induction n with
 |zero=>intro c ac σ h w fr fr' a e h' _ _ _ hx;simp[Zk]at hx
 |succ n ihn=>
  intro c ac σ h w fr fr' a e h' hc hr hF hx;simp only[Zk]at hx;have leave:∀ {e0 fr0 h0},ih.exec ac fr h=some (e0,fr0,h0)->(∀ l,e0=.goto l->zx ac0 l=none)->
    ∃ σ' w' a',Wy P B σ h w σ' h0 w'/\W5 P σ' nt fr0 a' b/\fr0.round=fr.round/\∀ (k:List Item) (cs:List Frame),zAp b cs->Arr P (lone (At b a (.code c:: .inScope c0::k)) cs w) b k cs e0 a' w':=by
   intro e0 fr0 h0 hx0 hno;obtain⟨σ1,w1,a1,e1,F1,rd1,st1⟩:=hex nt c ac hc fr h e0 fr0 h0 hx0 B σ w hr a b hF;refine⟨σ1,w1,a1,e1,F1,rd1,fun k cs hcm=> ?_⟩;have:=st1 (.inScope c0::k) cs hcm;cases e0 with
   |normal=>exact Steps.trans this (.one zIV)
   |ret=>exact this
   |exit id=>obtain⟨k1,h1,h2⟩:=this;exact⟨k1,h1,h2⟩
   |goto l=>
    obtain⟨k1,h1,h2⟩:=this;have hn:findLabel c0 l=none:=by
     rcases zBS (l:=l) hc0 with⟨q,_⟩|⟨r,r',_,q,_⟩
     ·exact q
     ·rw[hno l rfl]at q;cases q
    exact⟨k1,by rw[h1];simp[gotoIn,hn],h2⟩
  cases hx0:ih.exec ac fr h with
  |none=>simp[hx0]at hx
  |some p=>
  obtain⟨e0,fr0,h0⟩:=p;rw[hx0]at hx;cases e0 with
  |goto l=>
   simp only at hx;cases hfl:zx ac0 l with
   |none=>
    simp only[hfl,QA,QD]at hx;obtain⟨rfl,rfl,rfl⟩:=hx;exact leave hx0 fun l' e=>by cases e;exact hfl
   |some rest=>
    simp only[hfl]at hx;rcases zBS (l:=l) hc0 with⟨_,q⟩|⟨r,r',q1,q2,q3⟩
    ·rw[hfl]at q;cases q
    ·rw[hfl]at q2;cases q2;obtain⟨σ1,w1,a1,e1,F1,rd1,st1⟩:=hex nt c ac hc fr h _ fr0 h0 hx0 B σ w hr a b hF;obtain⟨σ2,w2,a2,e2,F2,rd2,st2⟩:=ihn q3 e1.rel F1 hx;refine⟨σ2,w2,a2,e1.trans e2,F2,rd2.trans rd1,fun k cs hcm=> ?_⟩;obtain⟨k1,h1,h2⟩:=st1 (.inScope c0::k) cs hcm;have hg:gotoIn l k1=some (.code r:: .inScope c0::k):=by rw[h1];simp[gotoIn,q1]
     exact VT (Steps.trans h2 (.one (zOX hg))) (st2 k cs hcm)
  |normal=>
   simp only[QA,QD]at hx;obtain⟨rfl,rfl,rfl⟩:=hx;exact leave hx0 fun l e=>by cases e
  |ret=>
   simp only[QA,QD]at hx;obtain⟨rfl,rfl,rfl⟩:=hx;exact leave hx0 fun l e=>by cases e
  |exit id=>
   simp only[QA,QD]at hx;obtain⟨rfl,rfl,rfl⟩:=hx;exact leave hx0 fun l e=>by cases e
theorem zJL{f:Operand}{params:Array Tmp}{assign body:Code}{b:Frame}{a:Act}{k:List Item}{cs:List Frame}{l:Nat}{mark:List Deferred}{w' w'':World}{nx:Next}{fr0:Frame}
  (he:(Instr.enterLoop b.fn a.tmps params assign body b.roundOf).run P w=.ok (l,mark) w')
  (hr:((do let d <-Deferred.ofValue (a.eval f) #[.func (.yield l) #[] #[]];invoke d.target d.args):Sem Next).run P w'=.ok nx w'') (hf:zBr P nx=some fr0):
  step P (lone (At b a (.code (.rangeFunc f params assign body)::k)) cs w)=.next (lone fr0 (At b {a with defers:=mark++a.defers} (.inRangeFunc l::k)::cs) w''):=by
 refine step_lone_go ?_;have hev:=congrFun (zGW b {a with defers:=mark++a.defers} (.inRangeFunc l::k)) f;simp only[At]at hev;have hev':(At b {a with defers:=mark++a.defers} (.inRangeFunc l::k)).eval f=a.eval f:=hev;have hargs:(#[Operand.const (.func (.yield l) #[] #[])].map (At b {a with defers:=mark++a.defers} (.inRangeFunc l::k)).eval)=#[.func (.yield l) #[] #[]]:=by simp[Frame.eval]
 have hrun:((do let d <-resolve (At b {a with defers:=mark++a.defers} (.inRangeFunc l::k)).eval {callee:= .value f,args:=#[.const (.func (.yield l) #[] #[])],argTypes:=#[]} 0;invoke d.target d.args):Sem Next).run P w'=.ok nx w'':=by
  simp only[resolve,hev',hargs];exact hr
 simp only[stepG,stepG.exec,At,Sem.runT_eq,he,GStep.bare_after]at hrun |-;cases nx<;>simp only[zBr,QA]at hf<;>try (cases hf;done)
 all_goals
  subst hf
  simp[stepG.apply,hrun]
theorem zHA{b:Frame}{a:Act}{k:List Item}{cs:List Frame}{l:Nat}{w':World}{jump:Option Code}(he:(Instr.endLoop l).run P w=.ok jump w'):
  step P (lone (At b a (.endRangeFunc l::k)) cs w)=.next (lone (At b a ((jump.map Item.code).toList++k)) cs w'):=by
 refine step_lone_go ?_;simp[stepG,stepG.exec,At,Sem.runT_eq,he]
end
section
variable {P:Program}{B:Nat}{σ:Nat->Option Pl}{h:WF}{w:World}
theorem BR.append{l l' m m':List Deferred}(hl:BR P σ l l')(hm:BR P σ m m'):BR P σ (l++m) (l'++m'):=by
 induction l generalizing l' with
 |nil=>cases l' with
  |nil=>exact hm
  |cons _ _=>exact hl.elim
 |cons d l ih=>cases l' with
  |nil=>exact hl.elim
  |cons d' l'=>exact⟨hl.1,ih hl.2⟩
theorem zB3{ih:Ex}(hex:yI P ih)(hcall:yA P ih){nt:Nat}{f:Operand}{params:Array Tmp}{assign body:Code}{aA aB:WU}{b:Frame}{fr fr':WR}{a:Act}{e:WP}{h':WF}
  (hcA:z9 P nt assign=some aA) (hcB:z9 P nt body=some aB) (hps:∀ p∈params.toList,p<nt) (hok:ZU P f=true) (hr:Wg P B σ h w) (hF:W5 P σ nt fr a b)
  {d:Nat} {pd:Pl} (hd:σ d=some pd) {mark mark':List Deferred} (hm:BR P σ mark mark')
  {w0:World} {l:Nat} (hl:l=w.heap.size) (hent:(Instr.enterLoop b.fn a.tmps params assign body b.roundOf).run P w0=.ok (l,mark') (w.alloc (.loop {state:= .ready,pending:=none,fn:=b.fn,tmps:=a.tmps,params,assign,body,defers:=pd.b})))
  (hx:Yu ih (ev fr.tm f) params.toList aA aB fr d mark h=some (e,fr',h')):
  ∃ σ' w' a',Wy P B σ h w σ' h' w'/\W5 P σ' nt fr' a' b/\fr'.round=fr.round/\∀ (k:List Item) (cs:List Frame),zAp b cs->Arr P (lone (At b a (.code (.rangeFunc f params assign body)::k)) cs w0) b k cs e a' w':=by
 subst hl;unfold Yu at hx;have hsame:=yG σ h.n ⟨w.heap.size,0,0⟩;have hle:=zBO hr ⟨w.heap.size,0,0⟩;have hcell:=World.alloc_heap_new w (.loop {state:= .ready,pending:=none,fn:=b.fn,tmps:=a.tmps,params,assign,body,defers:=pd.b});have hheap:(w.alloc (.loop {state:= .ready,pending:=none,fn:=b.fn,tmps:=a.tmps,params,assign,body,defers:=pd.b})).heap=w.heap.push (.loop {state:= .ready,pending:=none,fn:=b.fn,tmps:=a.tmps,params,assign,body,defers:=pd.b}):=rfl;have hrest:(w.alloc (.loop {state:= .ready,pending:=none,fn:=b.fn,tmps:=a.tmps,params,assign,body,defers:=pd.b})).os=w.os/\(w.alloc (.loop {state:= .ready,pending:=none,fn:=b.fn,tmps:=a.tmps,params,assign,body,defers:=pd.b})).tape=w.tape/\(w.alloc (.loop {state:= .ready,pending:=none,fn:=b.fn,tmps:=a.tmps,params,assign,body,defers:=pd.b})).output=w.output:=⟨rfl,rfl,rfl⟩;generalize w.alloc (.loop {state:= .ready,pending:=none,fn:=b.fn,tmps:=a.tmps,params,assign,body,defers:=pd.b})=W1 at hent hcell hheap hrest;have ev1:Wy P B σ h w (ZY σ h.n ⟨w.heap.size,0,0⟩) (h.push (.loop {state:= .ready,pending:=none,fn:=0,tm:=fr.tm,params:=params.toList,assign:=aA,body:=aB,defers:=d}))
   W1:=
  Wg.push hr hheap hrest
   ⟨_,hcell,⟨rfl,trivial,fun k=>(hF.tm k).mono hle,rfl,⟨nt,hF.size,hps,hcA,hcB⟩,⟨pd,hle _ _ hd,rfl⟩⟩⟩
 split at hx
 ·cases hx
 ·rename_i v0 h2 hcv;obtain⟨nx,fr0,σ2,w2,cv,r1,r2,r3,r4,r5⟩:=zDH hex hcall ev1.rel (zAB ev1.rel (fun k=>(hF.tm k).mono hle) hok) (WW.cons (WL.yield hsame) (WW.nil _)) hcv;have r1:((do let d <-Deferred.ofValue (a.eval f) #[.func (.yield w.heap.size) #[] #[]];invoke d.target d.args):Sem Next).run P W1=.ok nx W1:=r1;split at hx
  ·rename_i r hl2;obtain⟨pl2,r',m1,m2,m3⟩:=zAI r3.rel hl2;have hp2:=r3.le _ _ hsame;rw[hp2]at m1;cases m1;have hnb:r.state≠ .busy:=by
    intro hb;rw[hb]at hx;cases hx
   have hend:=run_endLoop (P:=P) m2 (by rw[m3.state];exact hnb);have ev4:=zDk (r2:={r with state:= .exhausted}) (r2':={r' with state:= .exhausted}) r3.rel hl2 hp2 ⟨rfl,m3.pending,m3.tm,m3.params,m3.code,m3.defers⟩;have evs:=(ev1.trans r3).trans ev4;have hF':W5 P σ2 nt {fr with dfs:=mark++fr.dfs} {a with defers:=mark'++a.defers} b:=
    ⟨hF.size,fun k=>(hF.tm k).mono evs.le,(hm.append hF.dfs).mono evs.le,hF.round.mono evs.le⟩
   have steps:∀ (k:List Item) (cs:List Frame),zAp b cs->Steps P (lone (At b a (.code (.rangeFunc f params assign body)::k)) cs w0)
     (lone (At b {a with defers:=mark'++a.defers} ((r'.pending.map Item.code).toList++k)) cs (w2.putObj w.heap.size (.loop {r' with state:= .exhausted}))):=fun k cs hcm=>by
    have q:=r5 (At b {a with defers:=mark'++a.defers} (.inRangeFunc w.heap.size::k)) cs;have hfin:(At b {a with defers:=mark'++a.defers} (.inRangeFunc w.heap.size::k)).finish cv=At b {a with defers:=mark'++a.defers} (.endRangeFunc w.heap.size::k):=rfl;rw[hfin]at q;exact Steps.trans (.one (zJL hent r1 r2)) (.trans q (.one (zHA hend)))
   have hp:=m3.pending;have hx':(match r.pending with
    |none=>some (WP.normal,({fr with dfs:=mark++fr.dfs}:WR),h2.set h.n (.loop {r with state:= .exhausted}))
    |some .ret=>some (.ret,{fr with dfs:=mark++fr.dfs},h2.set h.n (.loop {r with state:= .exhausted}))
    |some (.exit id)=>some (.exit id,{fr with dfs:=mark++fr.dfs},h2.set h.n (.loop {r with state:= .exhausted}))
    |some (.goto g)=>some (.goto g,{fr with dfs:=mark++fr.dfs},h2.set h.n (.loop {r with state:= .exhausted}))
    |some _=>none)=some (e,fr',h'):=by
    cases hs:r.state<;>rw[hs]at hx<;>first|exact hx|exact absurd hs hnb
   clear hx;have evs:Wy P B σ h w σ2 _ (w2.putObj w.heap.size (.loop {r' with state:= .exhausted})):=evs;generalize w2.putObj w.heap.size (.loop {r' with state:= .exhausted})=W3 at evs steps;generalize h2.set h.n (.loop {r with state:= .exhausted})=H3 at evs hx';rcases hq:r.pending with _|c
   ·rw[hq]at hx' hp;simp only[QA,QD]at hx';obtain⟨rfl,rfl,rfl⟩:=hx';cases hq':r'.pending with
    |some c=>rw[hq']at hp;exact hp.elim
    |none=>
     rw[hq']at steps;exact⟨σ2,_,_,evs,hF',rfl,fun k cs hcm=>steps k cs hcm⟩
   ·rw[hq]at hx' hp;cases hq':r'.pending with
    |none=>rw[hq']at hp;cases c<;>exact hp.elim
    |some c'=>
     rw[hq']at steps hp;cases c with
     |ret=>
      cases c' with
      |ret=>
       simp only[QA,QD]at hx';obtain⟨rfl,rfl,rfl⟩:=hx';exact⟨σ2,_,_,evs,hF',rfl,fun k cs hcm=>⟨k,steps k cs hcm⟩⟩
      |_=>exact hp.elim
     |exit i=>
      cases c' with
      |exit j=>
       simp only[QA,QD]at hx';obtain⟨rfl,rfl,rfl⟩:=hx';have hp:i=j:=hp;subst hp;exact⟨σ2,_,_,evs,hF',rfl,fun k cs hcm=>⟨k,rfl,steps k cs hcm⟩⟩
      |_=>exact hp.elim
     |goto i=>
      cases c' with
      |goto j=>
       simp only[QA,QD]at hx';obtain⟨rfl,rfl,rfl⟩:=hx';have hp:i=j:=hp;subst hp;exact⟨σ2,_,_,evs,hF',rfl,fun k cs hcm=>⟨k,rfl,steps k cs hcm⟩⟩
      |_=>exact hp.elim
     |_=>exact absurd hx' (by simp)
  ·cases hx
theorem zF5{ih:Ex}(hex:yI P ih)(hcall:yA P ih){nt:Nat}{f:Operand}{params:Array Tmp}{assign body:Code}{aA aB:WU}{b:Frame}{fr fr':WR}{a:Act}{e:WP}{h':WF}
  (hcA:z9 P nt assign=some aA) (hcB:z9 P nt body=some aB) (hps:∀ p∈params.toList,p<nt) (hok:ZU P f=true) (hr:Wg P B σ h w) (hF:W5 P σ nt fr a b)
  (hx:zAe ih (ev fr.tm f) params.toList aA aB fr h=some (e,fr',h')):zDt P B σ h w nt (.rangeFunc f params assign body) fr a b e fr' h':=by
 unfold zAe at hx;have hrd:=hF.round;split at hx
 ·rename_i hn;rw[hn]at hrd;have hbr:b.roundOf=none:=hrd;have hle:=zBO hr ⟨w.heap.size,0,0⟩;have hsame:=yG σ h.n ⟨w.heap.size,0,0⟩;have ev0:Wy P B σ h w (ZY σ h.n ⟨w.heap.size,0,0⟩) (h.push (.deferred (some []))) (w.alloc (.deferred (some []))):=
   Wg.push hr (O:= .deferred (some [])) rfl ⟨rfl,rfl,rfl⟩ ⟨rfl,World.alloc_heap_new w _⟩
  have hent:=run_enterLoop_outer (P:=P) (w:=w) b.fn a.tmps params assign body;rw[<-hbr]at hent;have hm:BR P (ZY σ h.n ⟨w.heap.size,0,0⟩) [{target:= .collected h.n,args:=#[]}] [{target:= .collected w.heap.size,args:=#[]}]:=⟨⟨_,hsame,rfl⟩,trivial⟩;obtain⟨σ',w',a',e1,e2,e3,e4⟩:=zB3 hex hcall hcA hcB hps hok ev0.rel (hF.mono hle) hsame hm (by simp) hent hx;exact⟨σ',w',a',ev0.trans e1,e2,e3,e4⟩
 ·rename_i l hn;rw[hn]at hrd;obtain⟨pl,p1,p2⟩:=hrd;split at hx
  ·rename_i r hl;obtain⟨pl0,r',k1,k2,k3⟩:=zAI hr hl;rw[p1]at k1;cases k1;obtain⟨pd,d1,d2⟩:=k3.defers;have hent:=run_enterLoop_inner (P:=P) k2 b.fn a.tmps params assign body;rw[<-p2,d2]at hent;exact zB3 hex hcall hcA hcB hps hok hr hF d1 (mark:=[]) (mark':=[]) trivial rfl hent hx
  ·cases hx
end
def zFN(P:Program)(ih:Ex):Prop:=∀ (nt id:Nat) (ops:Array Oper) (as:List WG) (l:List (WG×List Nat)),YI P nt ops ops.toList=some as->zFO ops as=some (.regionC l)->
 ∀ (B:Nat) (σ:Nat->Option Pl) (h:WF) (w:World) (fr fr':WR) (a:Act) (b:Frame) (h':WF),Wg P B σ h w->W5 P σ nt fr a b->YN P ih l fr h=some (fr',h')->
  ∃ σ' w' a',Wy P B σ h w σ' h' w'/\W5 P σ' nt fr' a' b/\fr'.round=fr.round/\
   ∀ (k:List Item) (cs:List Frame),zAp b cs->Steps P (lone (At b a (.code (.region id ops true)::k)) cs w) (lone (At b a' k) cs w')
section
variable {P:Program}{B:Nat}{σ:Nat->Option Pl}{h:WF}{w:World}
theorem zJF{ops:Array Oper}{as:List WG}{c:WU}(hc:zFO ops as=some c):∃ l,c=.regionC l:=by
 unfold zFO at hc;simp only[Q2]at hc;split at hc
 ·cases hc;exact⟨_,rfl⟩
 ·cases hc
theorem zHe{ih:Ex}(hex:yI P ih)(hcall:yA P ih)(hdr:zFN P ih):yI P ⟨zh P ih,ih.call⟩:=by
 intro nt c ac hc fr h e fr' h' hx B σ w hr a b hF;have hc:z9 P nt c=some ac:=hc;have hx:zh P ih ac fr h=some (e,fr',h'):=hx;have same:∀ {x:WP},(e=x/\fr'=fr/\h'=h)->(∀ (k:List Item) (cs:List Frame),zAp b cs->Arr P (lone (At b a (.code c::k)) cs w) b k cs x a w)->zDt P B σ h w nt c fr a b e fr' h':=by
  rintro x ⟨rfl,rfl,rfl⟩ hs;exact⟨σ,w,a,.refl hr,hF,rfl,hs⟩
 cases c with
 |skip=>
  simp only[z9,QA]at hc;subst hc;simp only[zh,QA,QD]at hx;exact same ⟨hx.1.symm,hx.2.1.symm,hx.2.2.symm⟩ fun k cs hcm=> .one zOi
 |label l=>
  simp only[z9,QA]at hc;subst hc;simp only[zh,QA,QD]at hx;exact same ⟨hx.1.symm,hx.2.1.symm,hx.2.2.symm⟩ fun k cs hcm=> .one zNz
 |exit id=>
  simp only[z9,QA]at hc;subst hc;simp only[zh,QA,QD]at hx;exact same ⟨hx.1.symm,hx.2.1.symm,hx.2.2.symm⟩ fun k cs hcm=>⟨k,rfl,Steps.refl P _⟩
 |goto l=>
  simp only[z9,QA]at hc;subst hc;simp only[zh,QA,QD]at hx;exact same ⟨hx.1.symm,hx.2.1.symm,hx.2.2.symm⟩ fun k cs hcm=>⟨k,rfl,Steps.refl P _⟩
 |ret=>
  simp only[z9,QA]at hc;subst hc;simp only[zh,QA,QD]at hx;exact same ⟨hx.1.symm,hx.2.1.symm,hx.2.2.symm⟩ fun k cs hcm=>⟨k,Steps.refl P _⟩
 |refuse _=>simp[z9]at hc
 |region id ops draw=>
  simp only[z9]at hc;cases h1:YI P nt ops ops.toList with
  |none=>simp[h1]at hc
  |some as=>
  simp only[h1]at hc;cases draw with
  |false=>
   simp only[QR,QA]at hc;subst hc;simp only[zh,QP,QD]at hx;obtain⟨⟨fr1,hh1⟩,hx2,rfl,rfl,rfl⟩:=hx;exact zFg hex hcall h1 hr hF hx2
  |true=>
   simp only[cond_true]at hc;obtain⟨l,rfl⟩:=zJF hc;simp only[zh,QP,QD]at hx;obtain⟨⟨fr1,hh1⟩,hx2,rfl,rfl,rfl⟩:=hx;exact hdr nt id ops as l h1 hc B σ h w fr _ a b _ hr hF hx2
 |seq x y=>
  simp only[z9]at hc;cases h1:z9 P nt x with
  |none=>simp[h1]at hc
  |some ax=>
  cases h2:z9 P nt y with
  |none=>simp[h1,h2]at hc
  |some ay=>
  simp only[h1,h2,QA]at hc;subst hc;simp only[zh]at hx;cases hx0:ih.exec ax fr h with
  |none=>simp[hx0]at hx
  |some p=>
  obtain⟨e0,fr0,h0⟩:=p;obtain⟨σ1,w1,a1,e1,F1,rd1,st1⟩:=hex nt x ax h1 fr h e0 fr0 h0 hx0 B σ w hr a b hF;have leave:e0≠ .normal->e=e0/\fr'=fr0/\h'=h0->zDt P B σ h w nt (.seq x y) fr a b e fr' h':=by
   rintro hne ⟨rfl,rfl,rfl⟩;refine⟨σ1,w1,a1,e1,F1,rd1,fun k cs hcm=>VT (.one zNs) ?_⟩;have:=st1 (.code y::k) cs hcm;cases e with
   |normal=>exact absurd rfl hne
   |ret=>exact this
   |exit id=>obtain⟨k1,q1,q2⟩:=this;exact⟨k1,q1,q2⟩
   |goto l=>obtain⟨k1,q1,q2⟩:=this;exact⟨k1,q1,q2⟩
  cases e0 with
  |normal=>
   simp only[hx0]at hx;obtain⟨σ2,w2,a2,e2,F2,rd2,st2⟩:=hex nt y ay h2 fr0 h0 e fr' h' hx B σ1 w1 e1.rel a1 b F1;exact⟨σ2,w2,a2,e1.trans e2,F2,rd2.trans rd1,fun k cs hcm=>VT (Steps.trans (.one zNs) (st1 (.code y::k) cs hcm)) (st2 k cs hcm)⟩
  |ret=>simp only[hx0,QA,QD]at hx;exact leave (by simp) ⟨hx.1.symm,hx.2.1.symm,hx.2.2.symm⟩
  |exit id=>simp only[hx0,QA,QD]at hx;exact leave (by simp) ⟨hx.1.symm,hx.2.1.symm,hx.2.2.symm⟩
  |goto l=>simp only[hx0,QA,QD]at hx;exact leave (by simp) ⟨hx.1.symm,hx.2.1.symm,hx.2.2.symm⟩
 |cond t x y=>
  simp only[z9]at hc;cases h0:ZU P t with
  |false=>simp[h0]at hc
  |true=>
  cases h1:z9 P nt x with
  |none=>simp[h0,h1]at hc
  |some ax=>
  cases h2:z9 P nt y with
  |none=>simp[h0,h1,h2]at hc
  |some ay=>
  simp only[h0,h1,h2,QA]at hc;subst hc;simp only[zh]at hx;have ht:=zAB hr hF.tm h0;cases hv:ev fr.tm t with
  |bool tb=>
   rw[hv]at hx ht;have ha:a.eval t=.bool tb:=by
    generalize a.eval t=q at ht;cases ht;rfl
   cases tb with
   |true=>
    obtain⟨σ1,w1,a1,e1,F1,rd1,st1⟩:=hex nt x ax h1 fr h e fr' h' hx B σ w hr a b hF;exact⟨σ1,w1,a1,e1,F1,rd1,fun k cs hcm=>VT (.one (by have:=zJ0 (P:=P) (b:=b) (k:=k) (cs:=cs) (w:=w) (x:=x) (y:=y) ha;exact this)) (st1 k cs hcm)⟩
   |false=>
    obtain⟨σ1,w1,a1,e1,F1,rd1,st1⟩:=hex nt y ay h2 fr h e fr' h' hx B σ w hr a b hF;exact⟨σ1,w1,a1,e1,F1,rd1,fun k cs hcm=>VT (.one (by have:=zJ0 (P:=P) (b:=b) (k:=k) (cs:=cs) (w:=w) (x:=x) (y:=y) ha;exact this)) (st1 k cs hcm)⟩
  |_=>simp[hv]at hx
 |block id x=>
  simp only[z9,QP]at hc;obtain⟨ax,h1,rfl⟩:=hc;simp only[zh]at hx;cases hx0:ih.exec ax fr h with
  |none=>simp[hx0]at hx
  |some p=>
  obtain⟨e0,fr0,h0⟩:=p;obtain⟨σ1,w1,a1,e1,F1,rd1,st1⟩:=hex nt x ax h1 fr h e0 fr0 h0 hx0 B σ w hr a b hF;rw[hx0]at hx;have leave:((e0=.normal/\e=.normal\/e0=.ret/\e=.ret\/∃ l,e0=.goto l/\e=.goto l)\/∃ id',e0=.exit id'/\((id'=id/\e=.normal)\/(id'≠id/\e=.exit id')))->fr'=fr0/\h'=h0->
    zDt P B σ h w nt (.block id x) fr a b e fr' h':=by
   rintro hh ⟨rfl,rfl⟩;refine⟨σ1,w1,a1,e1,F1,rd1,fun k cs hcm=>VT (.one zMI) ?_⟩;have:=st1 (.inBlock id::k) cs hcm;rcases hh with(⟨rfl,rfl⟩|⟨rfl,rfl⟩|⟨l,rfl,rfl⟩)|⟨id',rfl,⟨rfl,rfl⟩|⟨hne,rfl⟩⟩
   ·exact Steps.trans this (.one zIU)
   ·exact this
   ·obtain⟨k1,q1,q2⟩:=this;exact⟨k1,q1,q2⟩
   ·obtain⟨k1,q1,q2⟩:=this;exact Steps.trans q2 (.one (zOC (by rw[q1];simp[exitTo])))
   ·obtain⟨k1,q1,q2⟩:=this;exact⟨k1,by rw[q1];simp[exitTo,Ne.symm hne],q2⟩
  cases e0 with
  |normal=>simp only[QA,QD]at hx;exact leave (.inl (.inl ⟨rfl,hx.1.symm⟩)) ⟨hx.2.1.symm,hx.2.2.symm⟩
  |ret=>simp only[QA,QD]at hx;exact leave (.inl (.inr (.inl ⟨rfl,hx.1.symm⟩))) ⟨hx.2.1.symm,hx.2.2.symm⟩
  |goto l=>simp only[QA,QD]at hx;exact leave (.inl (.inr (.inr ⟨l,rfl,hx.1.symm⟩))) ⟨hx.2.1.symm,hx.2.2.symm⟩
  |exit id'=>
   simp only at hx;by_cases hid:id'=id
   ·rw[QG hid]at hx;simp only[QA,QD]at hx;exact leave (.inr ⟨id',rfl,.inl ⟨hid,hx.1.symm⟩⟩) ⟨hx.2.1.symm,hx.2.2.symm⟩
   ·rw[QC hid]at hx;simp only[QA,QD]at hx;exact leave (.inr ⟨id',rfl,.inr ⟨hid,hx.1.symm⟩⟩) ⟨hx.2.1.symm,hx.2.2.symm⟩
 |loop x=>
  simp only[z9,QP]at hc;obtain⟨ax,h1,rfl⟩:=hc;simp only[zh]at hx;cases hx0:ih.exec ax fr h with
  |none=>simp[hx0]at hx
  |some p=>
  obtain⟨e0,fr0,h0⟩:=p;obtain⟨σ1,w1,a1,e1,F1,rd1,st1⟩:=hex nt x ax h1 fr h e0 fr0 h0 hx0 B σ w hr a b hF;rw[hx0]at hx;have leave:e0≠ .normal->e=e0/\fr'=fr0/\h'=h0->zDt P B σ h w nt (.loop x) fr a b e fr' h':=by
   rintro hne ⟨rfl,rfl,rfl⟩;refine⟨σ1,w1,a1,e1,F1,rd1,fun k cs hcm=>VT (.one zGK) ?_⟩;have:=st1 (.inLoop x::k) cs hcm;cases e with
   |normal=>exact absurd rfl hne
   |ret=>exact this
   |exit id=>obtain⟨k1,q1,q2⟩:=this;exact⟨k1,q1,q2⟩
   |goto l=>obtain⟨k1,q1,q2⟩:=this;exact⟨k1,q1,q2⟩
  cases e0 with
  |normal=>
   simp only at hx;obtain⟨σ2,w2,a2,e2,F2,rd2,st2⟩:=hex nt (.loop x) (.loop ax) (by simp[zDS,z9,h1]) fr0 h0 e fr' h' hx B σ1 w1 e1.rel a1 b F1;refine⟨σ2,w2,a2,e1.trans e2,F2,rd2.trans rd1,fun k cs hcm=>VT (Steps.trans (.one zGK) (.trans (st1 (.inLoop x::k) cs hcm) (.one zLD))) ?_⟩;have q:=st2 k cs hcm;have hs:step P (lone (At b a1 (.code (.loop x)::k)) cs w1)=.next (lone (At b a1 (.code x:: .inLoop x::k)) cs w1):=zGK;have hne:∀ (t:List Item) (a2:Act) (w2:World),t≠ .code (.loop x)::k->lone (At b a1 (.code (.loop x)::k)) cs w1≠lone (At b a2 t) cs w2:=by
    intro t a2 w2 hn he;apply hn;have h3:=congrArg (fun m:Machine=>m.gs.toList.map fun g=>g.frame.todo) he;simpa [lone,At]using h3.symm
   cases e with
   |normal=>exact Vg q (hne _ _ _ (fun hh=>by have:=congrArg List.length hh;simp at this)) hs
   |ret=>obtain⟨k1,q⟩:=q;exact⟨k1,Vg q (hne _ _ _ (by simp)) hs⟩
   |exit id=>obtain⟨k1,q1,q⟩:=q;exact⟨k1,q1,Vg q (hne _ _ _ (by simp)) hs⟩
   |goto l=>obtain⟨k1,q1,q⟩:=q;exact⟨k1,q1,Vg q (hne _ _ _ (by simp)) hs⟩
  |ret=>simp only[QA,QD]at hx;exact leave (by simp) ⟨hx.1.symm,hx.2.1.symm,hx.2.2.symm⟩
  |exit id=>simp only[QA,QD]at hx;exact leave (by simp) ⟨hx.1.symm,hx.2.1.symm,hx.2.2.symm⟩
  |goto l=>simp only[QA,QD]at hx;exact leave (by simp) ⟨hx.1.symm,hx.2.1.symm,hx.2.2.symm⟩
 |scope x=>
  simp only[z9,QP]at hc;obtain⟨ax,h1,rfl⟩:=hc;simp only[zh]at hx;obtain⟨σ1,w1,a1,e1,F1,rd1,st1⟩:=zHp hex h1 _ h1 hr hF hx;exact⟨σ1,w1,a1,e1,F1,rd1,fun k cs hcm=>VT (.one zMP) (st1 k cs hcm)⟩
 |rangeFunc f ps x y=>
  simp only[z9]at hc;cases h0:ZU P f with
  |false=>simp[h0]at hc
  |true=>
  cases h1:z9 P nt x with
  |none=>simp[h0,h1]at hc
  |some ax=>
  cases h2:z9 P nt y with
  |none=>simp[h0,h1,h2]at hc
  |some ay=>
  cases h3:ps.toList.all (fun p=>Nat.ble (p+1) nt)with
  |false=>simp only[h0,h1,h2,h3,QR]at hc;cases hc
  |true=>
  simp only[h0,h1,h2,h3,cond_true,QA]at hc;subst hc;simp only[zh]at hx;exact zF5 hex hcall h1 h2 (fun p hp=>QO (QV.1 h3 p hp)) h0 hr hF hx
end
section
variable {P:Program}{B:Nat}{σ:Nat->Option Pl}{h:WF}{w:World}
theorem zNV:∀ {l l':List Value} (k0:Nat) {t:WI Value} {f:Nat->Value},WW σ l l'->(∀ k,WL σ (zC t k) (f k))->
  ∀ k,WL σ (zC (zDL l k0 t) k) (if k0<=k then(l'[k-k0]?).getD (f k)else f k):=by
 intro l;induction l with
 |nil=>
  intro l' k0 t f hl ht k;have:l'=[]:=by have:=hl.1;cases l'<;>simp_all
  subst this;simp only[zDL];split<;>simpa using ht k
 |cons v l ih=>
  intro l' k0 t f hl ht k;match l',hl with
  |[],hl=>have:=hl.1;simp at this
  |v'::l',hl=>
   have hv:=hl.2 0 v v' rfl rfl;have hl':WW σ l l':=⟨by simpa using hl.1,fun i a b h1 h2=>hl.2 (i+1) a b (by simpa using h1) (by simpa using h2)⟩;have:=ih (l':=l') (k0+1) (t:=t.set k0 v) (f:=fun k=>if k=k0 then v' else f k) hl' (fun j=>by
    rw[yH];by_cases hj:j=k0
    ·simp only[hj,Q9];exact hv
    ·simp only[hj,G1];exact ht j) k
   simp only[zDL];by_cases h1:k0+1<=k
   ·rw[QG h1,QC (by omega)]at this;rw[QG (by omega)];have e:k-k0=(k-(k0+1))+1:=by omega
    rw[e];simpa using this
   ·rw[QC h1]at this;by_cases h2:k=k0
    ·subst h2;simpa using this
    ·rw[QC h2]at this;rw[QC (by omega)];exact this
def zAi(tm:Array Value):ResultVar->Sem Value
 | .tmp t=>pure (tm.getD t Go.undef)
 | .cell a t=>do loadVar t (<-asAddr (tm.getD a Go.undef))
theorem zIr{t:TypeId}{agg:Bool}{n ad:Nat}{tr:WI Value}{tm:Array Value}(hg:zCg P t=some agg)(hn:ZA P t=some n)(hr:Wg P B σ h w)(hv:WL σ (zC tr ad) (tm.getD ad Go.undef)){u:Value}
  (hx:YM h tr (ad,some (agg,n))=some u):
  ∃ cu,(zAi tm (.cell ad t)).run P w=.ok cu w/\WL σ u cu:=by
 simp only[YM]at hx;simp only[zAi];generalize tm.getD ad Go.undef=v' at hv;generalize zC tr ad=v at hx hv;split at hx
 ·rename_i _ ad;cases hsp:ad.spot with
  |some s=>simp[hsp]at hx
  |none=>
   simp only[hsp,Qf,cond_true]at hx;cases hrow:zv h ad.block with
   |none=>simp[hrow]at hx
   |some cells=>
    simp only[hrow,QQ]at hx;cases hcut:cut cells ad.off n with
    |none=>simp[hcut]at hx
    |some xs=>
     simp only[hcut,QQ]at hx;obtain⟨pl,ys,c1,c2,c3,c4,c5⟩:=zBG hr hrow hcut;obtain⟨cv,d1,d2⟩:=Y1 c2 hx;obtain⟨b,off,sp⟩:=ad;simp only at hsp c1 c5;subst hsp;cases hv with
     |ptr hp=>
      rw[c1]at hp;cases hp;refine⟨cv,?_,d2⟩;have:=zA1 (P:=P) (w:=w) hg hn c3 c5 d1;simp[asAddr,this]
 ·cases hx
theorem zH5(hr:Wg P B σ h w){t:WI Value}{tm:Array Value}(ht:∀ k,WL σ (zC t k) (tm.getD k Go.undef)):∀ {l:List ResultVar} {rs:List (Nat×Option (Bool×Nat))} {vs:List Value},
  Z6 P l=some rs->z0 h t rs=some vs->∃ cvs,(l.mapM (zAi tm)).run P w=.ok cvs w/\WW σ vs cvs:=by
 intro l;induction l with
 |nil=>
  intro rs vs hc hx;simp only[Z6,QA]at hc;subst hc;simp only[z0,QA]at hx;subst hx;exact⟨[],by simp,WW.nil _⟩
 |cons r l ih=>
  intro rs vs hc hx;cases r with
  |tmp k=>
   simp only[Z6,QP]at hc;obtain⟨rs2,hc2,rfl⟩:=hc;simp only[z0,YM]at hx;cases hx2:z0 h t rs2 with
   |none=>simp[hx2]at hx
   |some vs2=>
    simp only[hx2,QA]at hx;subst hx;obtain⟨cvs,e1,e2⟩:=ih hc2 hx2;refine⟨tm.getD k Go.undef::cvs,?_,WW.cons (ht k) e2⟩;rw[List.mapM_cons];simp only[Sem.run_bind,zAi,Sem.run_pure,Result.andThen_ok,e1]
  |cell ad ty=>
   simp only[Z6]at hc;cases h1:zCg P ty with
   |none=>simp[h1]at hc
   |some g=>
   cases h2:ZA P ty with
   |none=>simp[h1,h2]at hc
   |some n=>
   cases h3:Z6 P l with
   |none=>simp[h1,h2,h3]at hc
   |some rs2=>
   simp only[h1,h2,h3,QA]at hc;subst hc;simp only[z0]at hx;cases hx1:YM h t (ad,some (g,n))with
   |none=>simp[hx1]at hx
   |some v=>
   simp only[hx1]at hx;cases hx2:z0 h t rs2 with
   |none=>simp[hx2]at hx
   |some vs2=>
    simp only[hx2,QA]at hx;subst hx;obtain⟨cvs,e1,e2⟩:=ih h3 hx2;obtain⟨cu,d1,d2⟩:=zIr h1 h2 hr (ht ad) hx1;refine⟨cu::cvs,?_,WW.cons d2 e2⟩;rw[List.mapM_cons];simp only[Sem.run_bind,d1,Sem.run_pure,Result.andThen_ok,e1]
theorem zOn{vs cvs:List Value}(hl:WW σ vs cvs):WL σ (one vs) (if h:cvs.toArray.size=1 then cvs.toArray[0]else .tuple cvs.toArray):=by
 match vs,cvs,hl with
 |[],[],_=>exact WL.tuple rfl (fun i x y h=>by simp at h)
 |[v],[c],hl=>exact hl.2 0 v c rfl rfl
 |a::b::l,a'::b'::l',hl=>
  have:¬(a'::b'::l').toArray.size=1:=by simp
  rw[dif_neg this];exact WL.tuple (by simpa using hl.1) (fun i x y h1 h2=>hl.2 i x y (by simpa using h1) (by simpa using h2))
 |[],_::_,hl=>have:=hl.1;simp at this
 |[_],[],hl=>have:=hl.1;simp at this
 |[_],_::_::_,hl=>have:=hl.1;simp at this
 |_::_::_,[],hl=>have:=hl.1;simp at this
 |_::_::_,[_],hl=>have:=hl.1;simp at this
theorem zHx{f:Func}{tm:Array Value}{cvs:List Value}(hm:(f.results.toList.mapM (zAi tm)).run P w=.ok cvs w):
  (results f tm).run P w=.ok (if h:cvs.toArray.size=1 then cvs.toArray[0]else .tuple cvs.toArray) w:=by
 have hf:results f tm=(do
  let vs <-f.results.mapM (zAi tm)
  pure (if h:vs.size=1 then vs[0]else .tuple vs)):=by
  unfold results;congr 1
 have ha:(f.results.mapM (zAi tm)).run P w=.ok cvs.toArray w:=by
  rw[Array.mapM_eq_mapM_toList,Sem.run_map,hm];rfl
 rw[hf];simp only[Sem.run_bind,ha,Result.andThen_ok,Sem.run_pure]
theorem zF8{ih:Ex}(hcall:yA P ih):∀ {ds ds':List Deferred} {σ:Nat->Option Pl} {h:WF} {w:World} {h':WF},BR P σ ds ds'->Wg P B σ h w->yX ih ds h=some h'->
  ∃ σ' w',Wy P B σ h w σ' h' w'/\∀ (X:Frame) (cs:List Frame),X.mode=.returning->X.defers=ds'->Steps P (lone X cs w) (lone {X with defers:=[]} cs w'):=by
 intro ds;induction ds with
 |nil=>
  intro ds' σ h w h' hd hr hx;cases ds' with
  |cons _ _=>exact hd.elim
  |nil=>
   simp only[yX,QA]at hx;subst hx;refine⟨σ,w,.refl hr,fun X cs _ hX=> ?_⟩;have:{X with defers:=[]}=X:=by rw[<-hX]
   rw[this];exact Steps.refl P _
 |cons d ds ihd=>
  intro ds' σ h w h' hd hr hx;cases ds' with
  |nil=>exact hd.elim
  |cons d' ds'=>
  obtain⟨hd1,hd2⟩:=hd;obtain⟨tgt,dargs⟩:=d;obtain⟨tgt',dargs'⟩:=d';unfold DRel at hd1;simp only[yX]at hx;split at hd1
  ·
   rename_i f cap heq;simp only at heq;subst heq;obtain⟨cap',e1,e2,e3⟩:=hd1;simp only at e1;subst e1;simp only at hx;cases hc:ih.call f (dargs.toList++cap.toList) h with
   |none=>simp[hc]at hx
   |some p=>
   obtain⟨v0,h0⟩:=p;simp only[hc]at hx;obtain⟨k1,k2⟩:=hcall _ _ _ _ _ hc;obtain⟨σ1,w1,cv,ev1,_,st⟩:=k2 B σ w hr (dargs'++cap') (by simpa using e3.append e2) .deferred (.inr rfl);obtain⟨σ2,w2,ev2,st2⟩:=ihd (hd2.mono ev1.le) ev1.rel hx;refine⟨σ2,w2,ev1.trans ev2,fun X cs hm hX=> ?_⟩;have hs:=step_defer (P:=P) (fr:=X) (cs:=cs) (w:=w) (d:=⟨.fn (.func f) cap',dargs'⟩) (ds:=ds') (fv:= .func f) (cap:=cap') (f:=f) (args:=dargs'++cap') (by rw[hm];simp) hX rfl (by simp[invoke,k1]);obtain⟨fr',s1,s2⟩:=st ({X with defers:=ds'}::cs) (.inr ⟨rfl,fun c rest e ch he=>by cases e;rw[show({X with defers:=ds'}:Frame).mode=X.mode from rfl,hm]at he;cases he⟩);have s3:=zDN (cs:=cs) s2 (c:={X with defers:=ds'}) hm;exact Steps.trans (.one hs) (Steps.trans s1 (Steps.trans (.one s3) (st2 {X with defers:=ds'} cs hm rfl)))
  ·
   rename_i ts ty cs0 heq;simp only at heq;subst heq;obtain⟨t,kt,e,rfl,hu,e1,e3⟩:=hd1;simp only at e1;subst e1;simp only at hx;split at hx
   ·rename_i g hga;split at hx
    ·rename_i es clock hg;rw[hga]at e3;have hlen:=e3.1;obtain⟨m',hm'⟩:∃ m',dargs'.toList=[m']:=by
      match hq:dargs'.toList with
      |[m']=>exact⟨m',rfl⟩
      |[]=>rw[hq]at hlen;simp at hlen
      |_::_::_=>rw[hq]at hlen;simp at hlen
     have harr:dargs'=#[m']:=by rw[<-Gm (xs:=dargs'),hm']
     rw[hm']at e3;have hmr:=e3.2 0 _ _ rfl rfl;obtain⟨w1,r1,r2⟩:=zEw (ty:=ty) (ts:=[]) hr hu hg hmr;obtain⟨σ2,w2,ev2,st2⟩:=ihd (hd2.mono r2.le) r2.rel hx;refine⟨σ2,w2,r2.trans ev2,fun X cs hm hX=> ?_⟩;refine Steps.trans (.one (m₁:=lone {X with defers:=ds'} cs w1) ?_) (st2 {X with defers:=ds'} cs hm rfl);refine step_lone_go ?_;subst harr;have hin:(invoke (.builtin .clear #[t] ty cs0) #[m']).run P w=.ok (.value (.tuple #[])) w1:=by
      simp only[invoke,builtin];simp[r1]
     simp[stepG,unwind,callDeferred,hm,hX,Sem.runT_eq,hin]
    ·cases hx
   ·cases hx
  ·
   rename_i g heq;simp only at heq;subst heq;obtain⟨pl,p1,e1⟩:=hd1;simp only at e1;subst e1;simp only at hx;split at hx
   ·rename_i hg;obtain⟨pl0,q1,q2,q3⟩:=hr.live _ _ hg;rw[p1]at q1;cases q1;have hblk:w.heap[pl.b]?=some (.deferred (some [])):=q2.2;have hlt:pl.b<w.heap.size:=(hr.lt _ _ p1).2;have ev1:Wy P B σ h w σ (h.set g (.deferred none)) (w.putObj pl.b (.deferred none)):=
     hr.put (O':= .deferred none) hg rfl rfl p1 ⟨by simp,World.putObj_heap_same hlt,fun b hne=>World.putObj_heap_other hne⟩ ⟨rfl,rfl,rfl⟩ (World.putObj_heap_same hlt)
      (fun g2 o2 pl2 _ _ _ _ k=>by cases o2<;>exact k.elim)
    obtain⟨σ2,w2,ev2,st2⟩:=ihd hd2 ev1.rel hx;refine⟨σ2,w2,ev1.trans ev2,fun X cs hm hX=> ?_⟩;refine Steps.trans (.one (m₁:=lone {X with defers:=ds'} cs (w.putObj pl.b (.deferred none))) ?_) (st2 {X with defers:=ds'} cs hm rfl);refine step_lone_go ?_;have:=run_takeDeferred (P:=P) hblk;simp[stepG,unwind,hm,hX,Sem.runT_eq,this]
   ·cases hx
  ·exact hd1.elim
theorem zJN{f:FuncId}{fn:B8}(hc:zEd P f=some fn):
  ∃ fn' c,P.funcs[f]?=some fn'/\fn'.body=some c/\Z6 P fn'.results.toList=some fn.results/\(fn'.name == "runtime.NumGoroutine")=false/\z9 P fn'.ntmps c=some fn.body:=by
 unfold zEd at hc;split at hc
 ·rename_i fn' hf;split at hc
  ·rename_i c rs hb hrs;cases hn:(fn'.name == "runtime.NumGoroutine")with
   |true=>simp[hn]at hc
   |false=>
    simp only[hn,QR]at hc;split at hc
    ·rename_i b hb2;cases hc;exact⟨fn',c,hf,hb,hrs,hn,hb2⟩
    ·cases hc
  ·cases hc
 ·cases hc
theorem zH2{ih:Ex}(hex:yI P ih)(hcall:yA P ih){tab:FuncId->Option B8}(htab:∀ f a,tab f=some a->zEd P f=some a):yA P ⟨ih.exec,zCV P tab ih⟩:=by
 intro f args h v h' hx;have hx:zCV P tab ih f args h=some (v,h'):=hx;unfold zCV at hx;cases ht:tab f with
 |none=>simp[ht]at hx
 |some fn=>
 simp only[ht]at hx;obtain⟨fn',c,hf,hb,hrs,hname,hcode⟩:=zJN (htab f fn ht);refine⟨fun as w=> ?_,fun B σ w hr as hl kind hk=> ?_⟩
 ·have h1:fn'.name≠ "runtime.NumGoroutine":=by simpa using hname
  simp[callFunc,hf,h1,hb]
 ·cases hx0:ih.exec fn.body ⟨zDL args 0 .leaf,[],none⟩ h with
  |none=>simp[hx0]at hx
  |some p=>
  obtain⟨e,fr1,h1⟩:=p;simp only[hx0]at hx;have hent:Frame.enter P f as kind=At {(default:Frame)with fn:=f,kind:=kind} {tmps:=as++Array.replicate (fn'.ntmps-as.size) Go.undef,defers:=[]} [.code c]:=by
   simp[Frame.enter,At,hf,hb];rfl
  have hF:W5 P σ fn'.ntmps ⟨zDL args 0 .leaf,[],none⟩ {tmps:=as++Array.replicate (fn'.ntmps-as.size) Go.undef,defers:=[]} {(default:Frame)with fn:=f,kind:=kind}:=by
   refine⟨by simp;omega,fun k=> ?_,trivial,rfl⟩;have:=zNV 0 (t:= .leaf) (f:=fun _=>Go.undef) hl (fun k=>by simp only[zC,WI.get];exact WL.undef σ) k;simp only[QU,Q9,Nat.sub_zero]at this;have e:(as++Array.replicate (fn'.ntmps-as.size) Go.undef).getD k Go.undef=(as.toList[k]?).getD Go.undef:=by
    rw[Qv,Array.getElem?_append];split
    ·simp
    ·rename_i hk';rw[Array.getElem?_replicate];have:as[k]?=none:=by simp;omega
     simp only[Array.getElem?_toList,this];split<;>rfl
   simp only;rw[e];exact this
  obtain⟨σ1,w1,a1,ev1,F1,rd1,st1⟩:=hex _ _ _ hcode _ _ _ _ _ hx0 B σ w hr _ _ hF;have hend:(e=.normal\/e=.ret)/\∃ h2 vs,yX ih fr1.dfs h1=some h2/\z0 h2 fr1.tm fn.results=some vs/\v=one vs/\h'=h2:=by
   have tail:(match yX ih fr1.dfs h1 with
     |none=>none
     |some h=>match z0 h fr1.tm fn.results with
      |none=>none
      |some vs=>some (one vs,h))=some (v,h')->∃ h2 vs,yX ih fr1.dfs h1=some h2/\z0 h2 fr1.tm fn.results=some vs/\v=one vs/\h'=h2:=by
    intro ht;cases hd:yX ih fr1.dfs h1 with
    |none=>simp[hd]at ht
    |some h2=>
     simp only[hd]at ht;cases hv:z0 h2 fr1.tm fn.results with
     |none=>simp[hv]at ht
     |some vs=>
      simp only[hv,QA,QD]at ht;exact⟨h2,vs,rfl,hv,ht.1.symm,ht.2.symm⟩
   cases e with
   |normal=>exact⟨.inl rfl,tail hx⟩
   |ret=>exact⟨.inr rfl,tail hx⟩
   |exit id=>exact absurd hx (by simp)
   |goto l=>exact absurd hx (by simp)
  obtain⟨he,h2,vs,hd,hv,rfl,rfl⟩:=hend;obtain⟨σ2,w2,ev2,st2⟩:=zF8 hcall F1.dfs ev1.rel hd;obtain⟨cvs,r1,r2⟩:=zH5 ev2.rel (fun k=>(F1.tm k).mono ev2.le) hrs hv;refine⟨σ2,w2,_,ev1.trans ev2,zOn r2,fun cs hcm=> ?_⟩;rw[hent];have fin:∀ todo:List Item,∃ fr',Steps P (lone {At {(default:Frame)with fn:=f,kind:=kind} a1 todo with mode:= .returning} cs w1) (lone fr' cs w2)/\
    Bu P f kind fr' (if h:cvs.toArray.size=1 then cvs.toArray[0]else .tuple cvs.toArray) w2:=fun todo=>
   ⟨_,st2 {At {(default:Frame)with fn:=f,kind:=kind} a1 todo with mode:= .returning} cs rfl rfl,rfl,rfl,rfl,rfl,fn',hf,zHx r1⟩
  have:=st1 [] cs hcm;rcases he with rfl|rfl
  ·obtain⟨fr',s1,s2⟩:=fin [];exact⟨fr',Steps.trans this (Steps.trans (.one (zQG rfl)) s1),s2⟩
  ·obtain⟨k1,this⟩:=this;obtain⟨fr',s1,s2⟩:=fin (.code .ret::k1);exact⟨fr',Steps.trans this (Steps.trans (.one (zQL rfl)) s1),s2⟩
def zCn(P:Program)(f:FuncId)(s:List Value->WF->Option (Value×WF)):Prop:=
 ∀ (e:WU->WR->WF->Option (WP×WR×WF)),yA P ⟨e,fun g args h=>if g=f then s args h else none⟩
theorem zHw{ih:Ex}(hex:yI P ih)(hcall:yA P ih){tab:Wv}(htab:∀ f a,tab.code f=some a->zEd P f=some a)(hst:∀ f s,tab.stub f=some s->zCn P f s):
  yA P ⟨ih.exec,zAo P tab ih⟩:=by
 intro f args h v h' hx;have hx:zAo P tab ih f args h=some (v,h'):=hx;unfold zAo at hx;split at hx
 ·rename_i s hs;exact hst f s hs ih.exec f args h v h' (by simp only[Q9];exact hx)
 ·exact zH2 hex hcall htab f args h v h' hx
end
end Go.Am
