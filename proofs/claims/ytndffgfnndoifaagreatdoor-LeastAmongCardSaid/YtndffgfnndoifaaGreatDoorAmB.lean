/- A part of the machine and of its soundness; proves no statement. -/
import Derived.Test.YtndffgfnndoifaaGreatDoorAmA
import Derived.Defers
import Derived.RangeFuncNested
set_option linter.all false
namespace Go.Am
open Go.RowKit
section
variable {P:Program}{B:Nat}{σ:Nat->Option Pl}{h:WA}{w:World}
def WW.val{s:Sem Value}{v:Value}{h':WA}(hs:∃ σ' w' cv,s.run P w=.ok cv w'/\WI σ' v cv/\W2 P B σ h w σ' h' w'):
  WW P B σ h w (do pure (.value (<-s))) v h':=by
 obtain⟨σ',w',cv,h1,h2,h3⟩:=hs;exact⟨σ',w',.inl ⟨cv,by simp[h1],h2⟩,h3⟩
def Va{s:Sem Unit}{h':WA}(hs:∃ σ' w',s.run P w=.ok () w'/\W2 P B σ h w σ' h' w'):
  WW P B σ h w (do s;pure .skip) Go.undef h':=by
 obtain⟨σ',w',h1,h3⟩:=hs;exact⟨σ',w',.inr ⟨by simp[h1],rfl⟩,h3⟩
def zBc(hr:Wd P B σ h w){t:WG Value}{a:Act}(ht:∀ k,WI σ (zC t k) (a.tmps.getD k Go.undef)){l:List Operand}(ho:∀ x∈l,Zm P x=true):WQ σ (l.map (ev t)) (l.map a.eval):=
 ⟨by simp,fun i x y hx hy=>by
  simp only[GQ]at hx hy;cases hl:l[i]? with
  |none=>simp[hl]at hx
  |some z=>
   simp only[hl,QL,QA]at hx hy;subst hx hy;exact zBA hr ht (ho z (Gb hl))⟩
def zMq(hr:Wd P B σ h w){xs ys:List Value}(hl:WQ σ xs ys)(e:TypeId):
  ∃ σ' w' cv,((do pure (.pointer (some (<-newRow e ys.toArray))):Sem Value)).run P w=.ok cv w'/\WI σ' (.pointer (some ⟨h.n,0,none⟩)) cv/\W2 P B σ h w σ' (h.push (.row xs true 0)) w':=by
 have hp:=zDx hr hl [] e 0;rw[GW]at hp;refine⟨_,_,.pointer (some ⟨w.heap.size,0,none⟩),by simp[newRow],?_,hp⟩;exact WI.ptr (off:=0) (yB σ h.n ⟨w.heap.size,0,ys.length+0⟩)
def zCL(hr:Wd P B σ h w){t:WG Value}{a:Act}(ht:∀ k,WI σ (zC t k) (a.tmps.getD k Go.undef)){place:Nat->Option (Nat×Nat)}:
  ∀ {l:List (Nat×Operand)} {ps:List (Nat×Nat×Operand)},(∀ x∈l,Zm P x.2=true)->Yc place l=some ps->
   (l.map fun x=>(x.1,a.eval x.2)).length=(zr t ps).length/\
   ∀ (j i:Nat) (v:Value) (o n:Nat) (u:Value),(l.map fun x=>(x.1,a.eval x.2))[j]?=some (i,v)->(zr t ps)[j]?=some (o,n,u)->place i=some (o,n)/\WI σ u v:=by
 intro l;induction l with
 |nil=>intro ps _ hp;simp[Yc]at hp;subst hp;exact⟨rfl,fun j i v o n u h=>by simp at h⟩
 |cons x l ih=>
  intro ps ho hp;obtain⟨i0,x0⟩:=x;simp only[Yc]at hp;split at hp
  ·rename_i o0 n0 r h1 h2;cases hp;obtain⟨a1,a2⟩:=ih (fun y hy=>ho y (QW _ hy)) h2;refine⟨by simpa [zr]using a1,fun j i v o n u hj hk=> ?_⟩;cases j with
   |zero=>
    simp[zr]at hj hk;obtain⟨rfl,rfl⟩:=hj;obtain⟨rfl,rfl,rfl⟩:=hk;exact⟨h1,zBA hr ht (ho _ (QR ..))⟩
   |succ j=>exact a2 j i v o n u (by simpa using hj) (by simpa [zr]using hk)
  ·cases hp
def zJD{α β:Type}{f:α->Sem β}{g:α->β}:∀ (l:List α),(∀ x∈l,(f x).run P w=.ok (g x) w)->(l.mapM f).run P w=.ok (l.map g) w
 |[],_=>by simp
 |x::l,hf=>by
  have h1:=hf x (QR ..);have h2:=zJD l (fun y hy=>hf y (QW _ hy));simp[List.mapM_cons,h1,h2]
def zK1{fs:Array Field}(hf:fs.toList.all (fun f=>(ZK P f.type).isSome)=true):
  (fs.mapM fun f=>(do pure (f.offset,<-sizeOf f.type):Sem (Nat×Nat))).run P w=.ok (fs.map fun f=>(f.offset,(ZK P f.type).getD 0)) w:=by
 rw[Array.mapM_eq_mapM_toList,Sem.run_map,zJD (g:=fun f=>(f.offset,(ZK P f.type).getD 0)) fs.toList (fun f hm=>by
  have:=QX.1 hf f hm;obtain⟨n,hn⟩:=Option.isSome_iff_exists.1 this;obtain⟨i,hi,hs⟩:=Yu hn;simp[yE hi,hn,hs])]
 simp only[Result.andThen_ok];congr 1;apply JT;simp
def zAd(hr:Wd P B σ h w){t:WG Value}{a:Act}(ht:∀ k,WI σ (zC t k) (a.tmps.getD k Go.undef)){x:Option Operand}(ho:∀ y,x=some y->Zm P y=true){n:Option Nat}(hx:SM t x=some n):BV n (x.map a.eval):=by
 cases x with
 |none=>simp[SM]at hx;subst hx;rfl
 |some x=>
  simp only[SM]at hx;cases hn:BX (ev t x)with
  |none=>simp[hn]at hx
  |some m=>
   simp only[hn,QL,QA]at hx;subst hx;obtain⟨k,hk⟩:=zAK (zBA hr ht (ho x rfl)) hn;exact⟨k,by simp[hk]⟩
def zEh{t:WG Value}{x:Option Operand}{n:Option Nat}(hx:SM t x=some n):n.isSome=x.isSome:=by
 cases x with
 |none=>simp[SM]at hx;subst hx;rfl
 |some x=>
  simp only[SM]at hx;cases hn:BX (ev t x)with
  |none=>simp[hn]at hx
  |some m=>simp[hn]at hx;subst hx;rfl
def zFN{isMax:Bool}{r:List Value}:∀ {x x' v:Value} {r':List Value},WI σ x x'->WQ σ r r'->zLk isMax x r=some v->
  ∃ cv,(r'.foldlM (if isMax then Builtin.max2 else Builtin.min2) x').run P w=.ok cv w/\WI σ v cv:=by
 induction r with
 |nil=>
  intro x x' v r' hx hl hv;have:r'=[]:=by have:=hl.1;simpa using this.symm
  subst this;simp only[zLk,QA]at hv;subst hv;exact⟨x',by simp,hx⟩
 |cons y r ih=>
  intro x x' v r' hx hl hv;match r',hl with
  |[],hl=>have:=hl.1;simp at this
  |y'::r',hl=>
   have hy:=hl.2 0 y y' rfl rfl;have jB:WQ σ r r':=⟨by simpa using hl.1,fun i a b h1 h2=>hl.2 (i+1) a b (by simpa using h1) (by simpa using h2)⟩;unfold zLk at hv;split at hv
   ·rename_i heq;cases heq
   ·rename_i k n k' m r0 heq;cases heq;split at hv
    ·rename_i hk;cases hx;cases hy;obtain⟨cv,c1,c2⟩:=ih (WI.int k _) jB hv;refine⟨cv,?_,c2⟩;rw[<-c1];cases isMax<;>simp[List.foldlM_cons,Builtin.max2,Builtin.min2]
    ·cases hv
   ·cases hv
def zJc(hr:Wd P B σ h w){ih:Ex}{t:WG Value}{a:Act}(ht:∀ k,WI σ (zC t k) (a.tmps.getD k Go.undef)){b:Builtin}{args:List Operand}{ts:List TypeId}{ty:TypeId}{consts:Array Bool}{op:Wz}
  (cE:∀ x∈args,Zm P x=true) (hc:zAh P b args ts=some op) {v:Value} {h':WA} (ho:WK P ih t h op=some (v,h')):
  WW P B σ h w (builtin b ts.toArray ty consts (args.map a.eval).toArray) v h':=by
 have E:∀ x∈args,WI σ (ev t x) (a.eval x):=fun x hx=>zBA hr ht (cE x hx);unfold zAh at hc;split at hc
 ·
  rename_i x tt;have e1:=E x (by simp);split at hc
  ·rename_i n e hu;simp only[QA]at hc;subst hc;simp only[WK,QA,QE]at ho;obtain⟨rfl,rfl⟩:=ho;refine WW.same hr (cv:= .int .i64 n) ?_ (.int _ _);simp[Builtin.len_,run_underlying hu,goInt]
  ·rename_i e hu;split at hc
   ·rename_i n e' pw;simp only[QA]at hc;subst hc;simp only[WK,QA,QE]at ho;obtain⟨rfl,rfl⟩:=ho;refine WW.same hr (cv:= .int .i64 n) ?_ (.int _ _);simp[Builtin.len_,run_underlying hu,run_underlying pw,goInt]
   ·cases hc
  ·rename_i hu;simp only[QA]at hc;subst hc;simp only[WK]at ho;split at ho
   ·rename_i s hs;simp only[QA,QE]at ho;obtain⟨rfl,rfl⟩:=ho;rw[hs]at e1;have q1:a.eval x=.string s:=by generalize a.eval x=q at e1;cases e1;rfl
    refine WW.same hr (cv:= .int .i64 s.size) ?_ (.int _ _);simp[Builtin.len_,run_underlying hu,goInt,q1]
   ·cases ho
  ·rename_i e hu;simp only[QA]at hc;subst hc;simp only[WK]at ho;cases hl:zOw (ev t x)with
   |none=>simp[hl]at ho
   |some n=>
    simp only[hl,QL,QA,QE]at ho;obtain⟨rfl,rfl⟩:=ho;unfold zOw at hl;split at hl
    ·rename_i ad len k hs;simp only[QA]at hl;subst hl;rw[hs]at e1;have q1:∃ y cap,a.eval x=.slice y len cap:=by generalize a.eval x=q at e1;cases e1<;>exact⟨_,_,rfl⟩
     obtain⟨y,cap,q1⟩:=q1;refine WW.same hr (cv:= .int .i64 len) ?_ (.int _ _);simp[Builtin.len_,run_underlying hu,goInt,q1]
    ·cases hl
  ·rename_i kt e hu;simp only[QA]at hc;subst hc;simp only[WK]at ho;split at ho
   ·rename_i hs;simp only[QA,QE]at ho;obtain⟨rfl,rfl⟩:=ho;rw[hs]at e1;have q1:a.eval x=.map none:=by generalize a.eval x=q at e1;cases e1;rfl
    refine WW.same hr (cv:= .int .i64 0) ?_ (.int _ _);simp[Builtin.len_,run_underlying hu,goInt,q1]
   ·rename_i g hs;split at ho
    ·rename_i es clock hg;simp only[QA,QE]at ho;obtain⟨rfl,rfl⟩:=ho;rw[hs]at e1;obtain⟨pl,aF,k1,k2,k3,k4⟩:=zCD hr hg e1;refine WW.same hr (cv:= .int .i64 es.length) ?_ (.int _ _);have:aF.size=es.length:=by have:=k4.1;simpa using this.symm
     simp[Builtin.len_,run_underlying hu,goInt,k2,getObj,Sem.run,k3,this]
    ·cases ho
   ·cases ho
  ·cases hc
 ·
  rename_i s x tt u kU;have e1:=E s (by simp);have e2:=E x (by simp);cases bJ:yZ P tt with
  |none=>simp[bJ]at hc
  |some e=>
   have hu:P.underlying tt=some (.slice e):=by
    unfold yZ at bJ;split at bJ
    ·cases bJ;assumption
    ·cases bJ
   simp only[bJ]at hc;cases pw:P.underlying u with
   |none=>
    rw[pw]at hc;cases he:Zg P e<;>simp[he]at hc
   |some d=>
    rw[pw]at hc;cases he:Zg P e with
    |none=>rw[he]at hc;cases d<;>cases hc
    |some c=>
     rw[he]at hc;cases d with
     |slice e'=>
      dsimp only at hc;cases Hv:(e' == e)with
      |false=>rw[Hv]at hc;cases hc
      |true=>
       rw[Hv]at hc;simp only[cond_true,QA]at hc;subst hc;simp only[WK]at ho;exact WW.val (zKt hr hu pw he e1 e2 ho)
     |_=>cases hc
 ·
  rename_i d s tt kU;have e1:=E d (by simp);have e2:=E s (by simp);cases bJ:yZ P tt with
  |none=>simp[bJ]at hc
  |some e=>
   have hu:P.underlying tt=some (.slice e):=by
    unfold yZ at bJ;split at bJ
    ·cases bJ;assumption
    ·cases bJ
   simp only[bJ]at hc;cases he:Zg P e with
   |none=>simp[he]at hc
   |some c=>
    simp only[he,QL,QA]at hc;subst hc;simp only[WK]at ho;split at ho
    ·rename_i ad len k hd;rw[hd]at e1;split at ho
     ·rename_i ys aX;obtain⟨r1,r2⟩:=zRQ (ty:=ty) (ts:=kU) hr hu he e1 e2 aX rfl;cases hm:Nat.beq (min (ys.length / c) len) 0 with
      |true=>
       simp only[hm,cond_true,QA,QE]at ho;obtain⟨rfl,rfl⟩:=ho;exact WW.same hr (r1 (QN hm)) (.int _ _)
      |false=>
       simp only[hm,QU]at ho;cases hb:(Nat.beq k c&&ad.spot.isNone)with
       |false=>simp[hb]at ho
       |true=>
        simp only[hb,cond_true]at ho;simp only[QI]at hb;cases aL:zk h ad (ys.take (min (ys.length / c) len*c))with
        |none=>simp[aL]at ho
        |some h1=>
         simp only[aL,QL,QA,QE]at ho;obtain⟨rfl,rfl⟩:=ho;obtain⟨w',q1,q2⟩:=r2 _ (JU hm) (QN hb.1) (by simpa using hb.2) aL;exact WW.val ⟨σ,w',_,q1,.int _ _,q2⟩
     ·cases ho
    ·rename_i hd;rw[hd]at e1;have q1:a.eval d=.slice none 0 0:=by generalize a.eval d=q at e1;cases e1;rfl
     split at ho
     ·rename_i ys aX;simp only[QA,QE]at ho;obtain⟨rfl,rfl⟩:=ho;obtain⟨i,z,hi,hsz,a8,_⟩:=yp he;subst hsz;obtain⟨n,zs,hl,hS⟩:=zDY hr a8 e2 aX;have s1:=hS.1 w;have s2:=hS.2.2 0 (QQ _) w.drawn;simp at s2;refine WW.same hr (cv:= .int .i64 0) ?_ (.int _ _);simp[Builtin.copy_,run_underlying hu,q1,s1,yE hi,s2,goInt]
     ·cases ho
    ·cases ho
 ·
  simp only[QA]at hc;subst hc;simp only[WK]at ho;split at ho
  ·rename_i x r;cases hm:zLk true (ev t x) (r.map (ev t))with
   |none=>simp[hm]at ho
   |some u=>
    simp only[hm,QL,QA,QE]at ho;obtain⟨rfl,rfl⟩:=ho;obtain⟨cv,c1,c2⟩:=zFN (P:=P) (w:=w) (E x (by simp)) (zBc hr ht (fun y hy=>cE y (by simp[hy]))) hm;refine WW.same hr ?_ c2;simpa [Builtin.max_]using c1
  ·cases ho
 ·simp only[QA]at hc;subst hc;simp only[WK]at ho;split at ho
  ·rename_i x r;cases hm:zLk false (ev t x) (r.map (ev t))with
   |none=>simp[hm]at ho
   |some u=>
    simp only[hm,QL,QA,QE]at ho;obtain⟨rfl,rfl⟩:=ho;obtain⟨cv,c1,c2⟩:=zFN (P:=P) (w:=w) (E x (by simp)) (zBc hr ht (fun y hy=>cE y (by simp[hy]))) hm;refine WW.same hr ?_ c2;simpa [Builtin.min_]using c1
  ·cases ho
 ·
  rename_i m k tt kU;have e1:=E m (by simp);have e2:=E k (by simp);split at hc
  ·rename_i kt e hu;split at hc
   ·rename_i d hk;simp only[QA]at hc;subst hc;simp only[WK]at ho;split at ho
    ·rename_i g kk n h1 h2;rw[h1]at e1;rw[h2]at e2;have q2:a.eval k=.int kk n:=by generalize a.eval k=q at e2;cases e2;rfl
     split at ho
     ·rename_i es clock hg;have fin:∀ h1,(∃ w',(Builtin.delete_ (tt::kU).toArray ty #[a.eval m,.int kk n]).run P w=.ok (.tuple #[]) w'/\W2 P B σ h w σ h1 w')->
        WW P B σ h w (builtin .delete (tt::kU).toArray ty consts ([m,k].map a.eval).toArray) (.tuple #[]) h1:=fun h1 ⟨w',r1,r2⟩=>by
       have:([m,k].map a.eval).toArray=#[a.eval m,.int kk n]:=by simp[q2]
       rw[this];exact WW.val ⟨σ,w',.tuple #[],r1,.tuple rfl (fun i x y h=>by simp at h),r2⟩
      split at ho
      ·rename_i i u hf;simp only[QA,QE]at ho;obtain⟨rfl,rfl⟩:=ho;exact fin _ (zFw (ty:=ty) (ts:=kU) hu hk hr hg e1 hf)
      ·rename_i hf;simp only[QA,QE]at ho;obtain⟨rfl,rfl⟩:=ho;exact fin _ (zFw (ty:=ty) (ts:=kU) hu hk hr hg e1 hf)
      ·cases ho
     ·cases ho
    ·cases ho
   ·cases hc
  ·cases hc
 ·
  rename_i m tt kU;have e1:=E m (by simp);split at hc
  ·rename_i kt e hu;simp only[QA]at hc;subst hc;simp only[WK]at ho;split at ho
   ·rename_i g h1;rw[h1]at e1;split at ho
    ·rename_i es clock hg;simp only[QA,QE]at ho;obtain⟨rfl,rfl⟩:=ho;obtain⟨w',r1,r2⟩:=zGw (ty:=ty) (ts:=kU) hr hu hg e1;exact WW.val ⟨σ,w',.tuple #[],r1,.tuple rfl (fun i x y h=>by simp at h),r2⟩
    ·cases ho
   ·cases ho
  ·rename_i e hu;split at hc
   ·rename_i n z he hz;simp only[QA]at hc;subst hc;obtain⟨q1,q2⟩:=zKv (ty:=ty) (ts:=kU) hr hu he hz e1;simp only[WK,zCP]at ho;split at ho
    ·rename_i h1;simp only[QA,QE]at ho;obtain⟨rfl,rfl⟩:=ho;exact WW.val ⟨σ,w,.tuple #[],q1 (.inl h1),.tuple rfl (fun i x y h=>by simp at h),.refl hr⟩
    ·rename_i ad len k h1;cases hn:Nat.beq len 0 with
     |true=>
      have:=QN hn;subst this;simp only[hn,cond_true,QA,QE]at ho;obtain⟨rfl,rfl⟩:=ho;exact WW.val ⟨σ,w,.tuple #[],q1 (.inr ⟨ad,k,h1⟩),.tuple rfl (fun i x y h=>by simp at h),.refl hr⟩
     |false=>
      simp only[hn,QU]at ho;cases hk:Nat.beq k n with
      |false=>simp[hk]at ho
      |true=>
       simp only[hk,cond_true]at ho;cases aL:zk h ad (zi z len)with
       |none=>simp[aL]at ho
       |some h2=>
        simp only[aL,QL,QA,QE]at ho;obtain⟨rfl,rfl⟩:=ho;obtain⟨w',r1,r2⟩:=q2 ad len k _ h1 (JU hn) (QN hk) aL;exact WW.val ⟨σ,w',.tuple #[],r1,.tuple rfl (fun i x y h=>by simp at h),r2⟩
    ·cases ho
   ·cases hc
  ·cases hc
 ·cases hc
def zIx(hr:Wd P B σ h w){ih:Ex}{t:WG Value}{a:Act}(ht:∀ k,WI σ (zC t k) (a.tmps.getD k Go.undef)){b:Builtin}{args:List Operand}{ts:List TypeId}{ty:TypeId}{consts:Array Bool}{op:Wz}
  (cE:∀ x∈args,Zm P x=true) (hc:zAV P b args ts=some op) {v:Value} {h':WA} (ho:WK P ih t h op=some (v,h')):
  WW P B σ h w (builtin b ts.toArray ty consts (args.map a.eval).toArray) v h':=by
 have E:∀ x∈args,WI σ (ev t x) (a.eval x):=fun x hx=>zBA hr ht (cE x hx);unfold zAV at hc;split at hc
 ·rename_i x y;have e1:=E x (by simp);have e2:=E y (by simp);simp only[QA]at hc;subst hc;simp only[WK]at ho;obtain⟨vv,hu,ho⟩:=QT.1 ho;simp only[QE]at ho;obtain⟨rfl,rfl⟩:=ho;unfold zS5 at hu;split at hu
  ·rename_i k u k' u' h1 h2;rw[h1]at e1;rw[h2]at e2;split at hu
   ·rename_i hk;subst hk;simp only[QA]at hu;subst hu;have c1:=e1.closed_eq rfl;have c2:=e2.closed_eq rfl;have q:Builtin.complex_ ts.toArray ty #[.float k u,.float k u']=pure (.complex k u u'):=by
     show(if k=k then pure (.complex k u u')else stuck "complex: parts of different kinds":Sem Value)=_;rw[QJ rfl]
    have q2:([x,y].map a.eval).toArray=#[.float k u,.float k u']:=by simp[c1,c2]
    rw[q2];exact WW.same (s:=Builtin.complex_ ts.toArray ty #[.float k u,.float k u']) hr (by rw[q];rfl) (.complex k u u')
   ·cases hu
  ·cases hu
 ·rename_i x;have e1:=E x (by simp);simp only[QA]at hc;subst hc;simp only[WK]at ho;obtain⟨vv,hu,ho⟩:=QT.1 ho;simp only[QE]at ho;obtain⟨rfl,rfl⟩:=ho;unfold zK9 at hu;split at hu
  ·rename_i k u u' h1;rw[h1]at e1;simp only[QA]at hu;subst hu;have c1:=e1.closed_eq rfl;have q2:([x].map a.eval).toArray=#[.complex k u u']:=by simp[c1]
   rw[q2];exact WW.same (s:=Builtin.real_ ts.toArray ty #[.complex k u u']) hr rfl (.float k _)
  ·cases hu
 ·rename_i x;have e1:=E x (by simp);simp only[QA]at hc;subst hc;simp only[WK]at ho;obtain⟨vv,hu,ho⟩:=QT.1 ho;simp only[QE]at ho;obtain⟨rfl,rfl⟩:=ho;unfold zK9 at hu;split at hu
  ·rename_i k u u' h1;rw[h1]at e1;simp only[QA]at hu;subst hu;have c1:=e1.closed_eq rfl;have q2:([x].map a.eval).toArray=#[.complex k u u']:=by simp[c1]
   rw[q2];exact WW.same (s:=Builtin.imag_ ts.toArray ty #[.complex k u u']) hr rfl (.float k _)
  ·cases hu
 ·simp only[QA]at hc;subst hc;cases ho
 ·exact zJc hr ht cE hc ho
def zDD{P:Program}(f:Operand)(args:List Operand):zM1 P f args=.call f args\/∃ g x rt,f=.func g/\args=[x]/\zAx P g "internal/reflectlite.TypeOf"=true/\zMI P=some rt/\zM1 P f args=.typeOf rt x:=by
 unfold zM1;split
 ·rename_i g x;cases he:zAx P g "internal/reflectlite.TypeOf" with
  |false=>exact .inl rfl
  |true=>
   simp only[cond_true];split
   ·rename_i rt jc;exact .inr ⟨g,x,rt,rfl,rfl,he,jc,rfl⟩
   ·exact .inl rfl
 ·exact .inl rfl
def WI.agg_inv{cs:Array Value}{q:Value}(hv:WI σ (.agg cs) q):∃ kV,q=.agg kV/\WQ σ cs.toList kV.toList:=by
 cases hv with
 |agg ha ra=>exact⟨_,rfl,by simpa using ha,fun i x y hx hy=>ra i x y (by simpa using hx) (by simpa using hy)⟩
def WI.ptr_inv{a:Addr}{q:Value}(hv:WI σ (.pointer (some a)) q):∃ pl,σ a.block=some pl/\q=.pointer (some ⟨pl.b,pl.base+a.off,none⟩):=by
 cases hv with
 |ptr hp=>exact⟨_,hp,rfl⟩
def zSu(hr:Wd P B σ h w){ih:Ex}{t:WG Value}{a:Act}(ht:∀ k,WI σ (zC t k) (a.tmps.getD k Go.undef)){o:Oper}{op:Wz}(hc:SW P o=some op)(Hw:(∀ f args,op≠ .call f args)/\∀ x n args,op≠ .invoke x n args){v:Value}{h':WA}
  (ho:WK P ih t h op=some (v,h')):WW P B σ h w (execOp a.eval o) v h':=by
 unfold SW at hc;cases aS:zCs P o.op.operands.toList with
 |false=>simp[aS]at hc
 |true=>
 simp only[aS,Qe,QU]at hc;have cE:∀ x∈o.op.operands.toList,Zm P x=true:=fun x hx=>QX.1 aS x hx;clear aS;have E:∀ x∈o.op.operands.toList,WI σ (ev t x) (a.eval x):=fun x hx=>zBA hr ht (cE x hx);unfold execOp;cases hq:o.op with
 |move x=>
  simp only[hq,QA]at hc;subst hc;simp only[WK,QA,QE]at ho;obtain⟨rfl,rfl⟩:=ho;exact⟨σ,w,.inl ⟨_,rfl,E x (by simp[hq,Op.operands])⟩,W2.refl hr⟩
 |assign x=>
  simp only[hq,QA]at hc;subst hc;simp only[WK,QA,QE]at ho;obtain⟨rfl,rfl⟩:=ho;exact⟨σ,w,.inl ⟨_,rfl,E x (by simp[hq,Op.operands])⟩,W2.refl hr⟩
 |pick c x y=>
  simp only[hq,QA]at hc;subst hc;have e1:=E c (by simp[hq,Op.operands]);have e2:=E x (by simp[hq,Op.operands]);have e3:=E y (by simp[hq,Op.operands]);simp only[WK]at ho;split at ho
  ·rename_i b hb;simp only[QA,QE]at ho;obtain⟨rfl,rfl⟩:=ho;rw[hb]at e1;have e4:a.eval c=.bool b:=by generalize a.eval c=q at e1;cases e1;rfl
   refine⟨σ,w,.inl ⟨if b then a.eval x else a.eval y,by simp[e4,asBool],?_⟩,W2.refl hr⟩;cases b<;>simpa
  ·cases ho
 |alloc e=>
  simp only[hq]at hc;cases hz:zAD P e with
  |none=>simp[hz]at hc
  |some zs=>
   simp only[hz,QL,QA]at hc;subst hc;obtain⟨i,z,hi,dd,rfl,kO,aO⟩:=ZG hz;simp only[WK,QA,QE]at ho;obtain⟨rfl,rfl⟩:=ho;refine WW.val ?_;obtain⟨σ',w',cv,r1,r2,r3⟩:=zMq hr (VM σ aO) e;refine⟨σ',w',cv,?_,r2,r3⟩;simp[newRow]at r1;simp[Instr.alloc,zeroValue,typeInfo,hi,dd,newVar,newRow,r1]
 |box e x=>
  simp only[hq,QA]at hc;subst hc;simp only[WK,QA,QE]at ho;obtain⟨rfl,rfl⟩:=ho;refine WW.val ?_;obtain⟨σ',w',cv,r1,r2,r3⟩:=zMq hr (E x (by simp[hq,Op.operands])).cells e;refine⟨σ',w',cv,?_,r2,r3⟩;simp[newRow]at r1;simp[Instr.box,newVar,newRow,r1]
 |build ty parts=>
  simp only[hq]at hc;have dk:∀ x∈parts.toList,Zm P x.2=true:=fun x hx=>cE x.2 (by simp[hq,Op.operands];exact⟨x.1,by simpa using hx⟩);split at hc
  ·rename_i zs fs hz hu;cases dz:fs.toList.all (fun f=>(ZK P f.type).isSome)with
   |false=>simp[dz]at hc
   |true=>
   simp only[dz,Qe,QU]at hc;cases er:Yc (zIe P fs) parts.toList with
   |none=>simp[er]at hc
   |some ps=>
    simp only[er,QL,QA]at hc;subst hc;obtain⟨i,z,hi,dd,rfl,kO,aO⟩:=ZG hz;simp only[WK]at ho;cases hf:ZE z.cells.toList (zr t ps)with
    |none=>simp[hf]at ho
    |some cells=>
     simp only[hf,QL,QA,QE]at ho;obtain⟨rfl,rfl⟩:=ho;obtain⟨q1,q2⟩:=zCL hr ht dk er;have jC:=zDO (parts.toList.map fun x=>(x.1,a.eval x.2)) (fun i=>(fs.map fun f=>(f.offset,(ZK P f.type).getD 0))[i]?) z.cells.toList z.cells.toList (zr t ps) cells (VM σ aO) q1
      (fun j i v o n u h1 h2=>by
       obtain⟨a1,a2⟩:=q2 j i v o n u h1 h2;refine⟨?_,a2⟩;unfold zIe at a1;cases cI:fs[i]? with
       |none=>simp[cI]at a1
       |some f=>
        simp only[cI]at a1;cases l4:ZK P f.type with
        |none=>simp[l4]at a1
        |some m=>simp[l4]at a1;simp[cI,l4,a1]) hf
     obtain⟨ys,f1,f2⟩:=jC;refine WW.same hr ?_ (VW f2);have bF:=zK1 (P:=P) (w:=w) dz;simp only[Gy]at f1;have tV:(parts.map fun x=>(x.1,a.eval x.2)).toList=parts.toList.map fun x=>(x.1,a.eval x.2):=by simp
     simp only[Instr.build,zeroValue,typeInfo,Sem.run_bind,run_program,Result.andThen_ok,hi,dd,Sem.run_pure,run_underlying hu,bF,tV,f1]
  ·rename_i zs len e hz hu;cases l4:ZK P e with
   |none=>simp[l4]at hc
   |some n=>
   simp only[l4]at hc;cases er:Yc (fun i=>some (i*n,n)) parts.toList with
   |none=>simp[er]at hc
   |some ps=>
    simp only[er,QL,QA]at hc;subst hc;obtain⟨i,z,hi,dd,rfl,kO,aO⟩:=ZG hz;obtain⟨ie,KF,hsz⟩:=Yu l4;simp only[WK]at ho;cases hf:ZE z.cells.toList (zr t ps)with
    |none=>simp[hf]at ho
    |some cells=>
     simp only[hf,QL,QA,QE]at ho;obtain⟨rfl,rfl⟩:=ho;obtain⟨q1,q2⟩:=zCL hr ht dk er;obtain⟨ys,f1,f2⟩:=zDO (parts.toList.map fun x=>(x.1,a.eval x.2)) (fun i=>some (i*n,n)) z.cells.toList z.cells.toList (zr t ps) cells (VM σ aO) q1 q2 hf;refine WW.same hr ?_ (VW f2);simp only[Gy]at f1;have tV:(parts.map fun x=>(x.1,a.eval x.2)).toList=parts.toList.map fun x=>(x.1,a.eval x.2):=by simp
     simp only[Instr.build,zeroValue,typeInfo,Sem.run_bind,run_program,Result.andThen_ok,hi,dd,Sem.run_pure,run_underlying hu,yE KF,hsz,tV,f1]
  ·cases hc
 |buildSlice ty len parts=>
  simp only[hq]at hc;have dk:∀ x∈parts.toList,Zm P x.2=true:=fun x hx=>cE x.2 (by simp[hq,Op.operands];exact⟨x.1,by simpa using hx⟩);cases bJ:yZ P ty with
  |none=>simp[bJ]at hc
  |some e=>
  have hu:P.underlying ty=some (.slice e):=by
   unfold yZ at bJ;split at bJ
   ·cases bJ;assumption
   ·cases bJ
  simp only[bJ]at hc;split at hc
  ·rename_i n zs he hz;cases hb:Nat.ble (len*n) 65536 with
   |false=>simp[hb]at hc
   |true=>
   simp only[hb,cond_true]at hc;cases er:Yc (fun i=>some (i*n,n)) parts.toList with
   |none=>simp[er]at hc
   |some ps=>
    simp only[er,QL,QA]at hc;subst hc;obtain⟨i,z,hi,hsz,a8,_,_,dd,dj⟩:=yp he;obtain⟨i',z',af,jD,rfl,kO,aO⟩:=ZG hz;rw[hi]at af;cases af;rw[dd]at jD;cases jD;subst hsz;simp only[WK]at ho;cases hf:ZE (zi z.cells.toList len) (zr t ps)with
    |none=>simp[hf]at ho
    |some cells=>
     simp only[hf,QL,QA,mk,QE]at ho;obtain⟨rfl,rfl⟩:=ho;obtain⟨q1,q2⟩:=zCL hr ht dk er;have Cb:WQ σ (zi z.cells.toList len) (zi z.cells.toList len):=VM σ (zAr aO len);obtain⟨ys,f1,f2⟩:=zDO (parts.toList.map fun x=>(x.1,a.eval x.2)) (fun Cc=>some (Cc*i.size,i.size)) _ _ (zr t ps) cells Cb q1 q2 hf;refine WW.val ?_;have hp:=zDx hr f2 [] e 0;rw[GW]at hp;have hlen:ys.length=len*i.size:=by
      have bF:∀ (qs:List (Nat×Nat×Value)) (xs r:List Value),ZE xs qs=some r->r.length=xs.length:=fun qs=>by
       induction qs with
       |nil=>intro xs r h;simp[ZE]at h;rw[h]
       |cons q qs tW=>
        intro xs r h;obtain⟨o1,n1,u1⟩:=q;simp only[ZE]at h;cases aR:(Nat.beq u1.cells.size n1&&Nat.ble (o1+n1) xs.length)with
        |false=>simp[aR]at h
        |true=>
         simp only[aR,cond_true]at h;simp only[QI]at aR;have b1:=QN aR.1;have b2:=QP aR.2;rw[tW _ _ h];simp[zX];omega
      rw[<-f2.1,bF _ _ _ hf,yA];simp[dj]
     refine⟨_,_,.slice (some ⟨w.heap.size,0,none⟩) len len,?_,WI.slice (pl:=⟨w.heap.size,0,ys.length+0⟩) (yB _ _ _) a8 (QF _) (by simp[hlen]),hp⟩;have gF:¬(16777216<len*i.size):=by have:=QP hb;omega
     have aG:((Array.range (len*i.size)).map (z.cells[· % z.cells.size]!))=(zi z.cells.toList len).toArray:=by
      apply JT;rw[<-zBN z.cells ω len];simp[dj]
     by_cases eM:len*i.size=0
     ·have fw:len=0:=by rcases Nat.mul_eq_zero.1 eM with h|h<;>omega
      subst fw;have bE:Array.range 0=#[]:=rfl;simp only[zi]at f1;simp[Instr.buildSlice,run_underlying hu,yE hi,newRow,bE,f1]
     ·simp[Instr.buildSlice,run_underlying hu,yE hi,zeroValue,typeInfo,hi,dd,gF,newRow,aG,f1];intro h0;exact absurd h0 eM
  ·cases hc
 |load ty x=>
  simp only[hq]at hc;split at hc
  ·rename_i g n hg hn;simp only[QA]at hc;subst hc;have e1:=E x (by simp[hq,Op.operands]);simp only[WK]at ho;split at ho
   ·rename_i ad iM;rw[iM]at e1;cases dZ:ad.spot with
    |some s=>simp[dZ]at ho
    |none=>
     simp only[dZ,Q2,cond_true]at ho;cases cX:z0 h ad.block with
     |none=>simp[cX]at ho
     |some cells=>
      simp only[cX,QV]at ho;cases bI:cut cells ad.off n with
      |none=>simp[bI]at ho
      |some xs=>
       simp only[bI,QV]at ho;cases fY:zI g xs with
       |none=>simp[fY]at ho
       |some u=>
        simp only[fY,QL,QA,QE]at ho;obtain⟨rfl,rfl⟩:=ho;obtain⟨pl,ys,c1,c2,c3,c4,c5⟩:=zCR hr cX bI;obtain⟨cv,d1,d2⟩:=zAz c2 fY;obtain⟨b,off,sp⟩:=ad;simp only at dZ c1 c5;subst dZ;generalize dA:a.eval x=q at e1;cases e1 with
        |ptr hp=>
         rw[c1]at hp;cases hp;refine WW.same hr ?_ d2;have:=zCJ (P:=P) (w:=w) hg hn c3 c5 d1;simp[Instr.loadAt,Instr.sureAddr,dA,this]
   ·cases ho
  ·cases hc
 |store ty x y=>
  simp only[hq]at hc;cases hn:ZK P ty with
  |none=>simp[hn]at hc
  |some n=>
   simp only[hn,QL,QA]at hc;subst hc;have e1:=E x (by simp[hq,Op.operands]);have e2:=E y (by simp[hq,Op.operands]);simp only[WK]at ho;split at ho
   ·rename_i ad iM;rw[iM]at e1;cases hsz:Nat.beq (ev t y).cells.size n with
    |false=>simp[hsz]at ho
    |true=>
     simp only[hsz,cond_true]at ho;have hsz:=QN hsz;cases aL:zk h ad (ev t y).cells.toList with
     |none=>simp[aL]at ho
     |some h1=>
      simp only[aL,QL,QA,QE]at ho;obtain⟨rfl,rfl⟩:=ho;obtain⟨i,hi,hs⟩:=Yu hn;generalize dA:a.eval x=q at e1;cases e1 with
      |ptr hp=>
       obtain⟨w',r1,r2⟩:=zDC hr (WI.ptr hp) e2.cells aL;refine Va ⟨σ,w',?_,r2⟩;have Cd:(a.eval y).cells.size=i.size:=by have:=e2.cells.1;simp at this;omega
       simp[Instr.storeAt,Instr.sureAddr,dA,storeVar,yE hi,Cd,r1]
   ·cases ho
 |nilCheck x=>
  simp only[hq,QA]at hc;subst hc;have e1:=E x (by simp[hq,Op.operands]);generalize dA:a.eval x=q at e1;simp only[WK]at ho;obtain⟨u,hu,ho⟩:=QT.1 ho;simp only[QE]at ho;obtain⟨rfl,rfl⟩:=ho;unfold YS at hu;split at hu
  ·rename_i ad iM;rw[iM]at e1;simp only[QA]at hu;subst hu;refine⟨σ,w,.inl ⟨q,?_,e1⟩,W2.refl hr⟩;cases e1;simp[dA]
  ·rename_i f first cap iM
   rw[iM]at e1;simp only[QA]at hu;subst hu;refine⟨σ,w,.inl ⟨q,?_,e1⟩,W2.refl hr⟩;cases e1;simp[dA]
  ·rename_i f first cap iM
   rw[iM]at e1;simp only[QA]at hu;subst hu;refine⟨σ,w,.inl ⟨q,?_,e1⟩,W2.refl hr⟩;cases e1;simp[dA]
  ·cases hu
 |binOp ib ty x y So=>
  simp only[hq]at hc;have e1:=E x (by simp[hq,Op.operands]);have e2:=E y (by simp[hq,Op.operands]);have Ce:op=.bin ib x y->(∃ k,P.underlying ty=some (.int k))->WW P B σ h w (do pure (.value (<-(do eqGuard ib ty x y (a.eval x) (a.eval y);binOp ib ty (a.eval x) (a.eval y))))) v h':=fun cE _=>by
   subst cE;simp only[WK]at ho;cases hb:zj ib (ev t x) (ev t y)with
   |none=>simp[hb]at ho
   |some u=>
    simp only[hb,QL,QA,QE]at ho;obtain⟨rfl,rfl⟩:=ho;obtain⟨r1,r2⟩:=zRE (P:=P) (w:=w) e1 e2 hb ty;refine WW.same hr ?_ r2;have hg:(eqGuard ib ty x y (a.eval x) (a.eval y)).run P w=.ok () w:=by
     have:∃ k n,ev t x=.int k n:=by
      unfold zj at hb;split at hb<;>first|(cases hb;done)|(rename_i h1 _;exact⟨_,_,h1⟩)|(rename_i h1 h2;exact⟨_,_,h1⟩)
     obtain⟨k,n,hk⟩:=this;rw[hk]at e1;generalize a.eval x=q at e1;cases e1;unfold eqGuard;split<;>rfl
    simp[hg,r1]
  have eQ:op=.binP ib ty x y->WW P B σ h w (do pure (.value (<-(do eqGuard ib ty x y (a.eval x) (a.eval y);binOp ib ty (a.eval x) (a.eval y))))) v h':=fun cE=>by
   subst cE;simp only[WK]at ho;cases aO:(zAJ (ev t x)&&zAJ (ev t y))with
   |false=>simp[aO]at ho
   |true=>
    simp only[aO,cond_true]at ho;simp only[QI]at aO;split at ho
    ·rename_i u hp;cases pz:yX u with
     |false=>simp[pz]at ho
     |true=>
      simp only[pz,cond_true,QA,QE]at ho;obtain⟨rfl,rfl⟩:=ho;have q1:=e1.closedD_eq aO.1;have q2:=e2.closedD_eq aO.2;rw[q1,q2];exact WW.same hr (zEi _ hp) (VK σ pz)
    ·cases ho
  have cY:∀ (d:TypeDesc) (k:Nat) (neg:Bool) (z u:Operand),P.underlying ty=some d->Y1 d=some k->zA6 k u=true->ib=(if neg then .neq else .eql)->op=.isNil k neg z->((x=z/\y=u)\/(x=u/\y=z))->
    WW P B σ h w (do pure (.value (<-(do eqGuard ib ty x y (a.eval x) (a.eval y);binOp ib ty (a.eval x) (a.eval y))))) v h':=fun d k neg z u hd hk hu hb pA KG=>by
   subst pA;simp only[WK]at ho;cases hn:zE1 k (ev t z)with
   |none=>simp[hn]at ho
   |some b=>
    simp only[hn,QL,QA,QE]at ho;obtain⟨rfl,rfl⟩:=ho;have Cf:∃ c,u=.const c:=by
     cases u with
     |const c=>exact⟨c,rfl⟩
     |_=>unfold zA6 at hu;split at hu<;>simp_all
    obtain⟨c,fJ⟩:=Cf;subst hb;rcases KG with⟨rfl,rfl⟩|⟨rfl,rfl⟩
    ·have:=(zKV (P:=P) (w:=w) hd hk e1 hn hu fJ x neg).1;subst fJ;exact WW.same hr this (.bool _)
    ·have:=(zKV (P:=P) (w:=w) hd hk e2 hn hu fJ y neg).2;subst fJ;exact WW.same hr this (.bool _)
  have np:∀ neg,P.underlying ty=some .bool->ib=(if neg then .neq else .eql)->op=.binB neg x y->WW P B σ h w (do pure (.value (<-(do eqGuard ib ty x y (a.eval x) (a.eval y);binOp ib ty (a.eval x) (a.eval y))))) v h':=fun neg hd hb pA=>by
   subst pA hb;simp only[WK]at ho;split at ho
   ·rename_i b1 b2 h1 h2;simp only[QA,QE]at ho;obtain⟨rfl,rfl⟩:=ho;rw[h1]at e1;rw[h2]at e2;have q1:a.eval x=.bool b1:=by generalize a.eval x=q at e1;cases e1;rfl
    have q2:a.eval y=.bool b2:=by generalize a.eval y=q at e2;cases e2;rfl
    rw[q1,q2];have hE:(Op.equal ty (.bool b1) (.bool b2)).run P w=.ok (b1 == b2) w:=by
     have:∀ D,(Op.equalIn (D+1) ty (.bool b1) (.bool b2)).run P w=.ok (b1 == b2) w:=fun D=>by rw[Op.equalIn,Sem.run_bind,run_underlying hd];rfl
     exact this 9999
    refine WW.same hr ?_ (.bool _);cases neg
    ·simp[eqGuard,binOp,hE]
    ·simp[eqGuard,binOp,hE];cases b1<;>cases b2<;>rfl
   ·cases ho
  dsimp only;cases hd:P.underlying ty with
  |none=>simp[hd]at hc
  |some d=>
   simp only[hd]at hc;cases d with
   |int k=>simp only[QA]at hc;exact Ce hc.symm ⟨k,hd⟩
   |bool=>
    simp only at hc;split at hc
    ·simp only[QA]at hc;exact np false hd rfl hc.symm
    ·simp only[QA]at hc;exact np true hd rfl hc.symm
    ·cases hc
   |struct _=>simp only[QA]at hc;exact eQ hc.symm
   |array _ _=>simp only[QA]at hc;exact eQ hc.symm
   |string=>simp only[QA]at hc;exact eQ hc.symm
   |float _=>simp only[QA]at hc;exact eQ hc.symm
   |complex _=>simp only[QA]at hc;exact eQ hc.symm
   |_=>
    simp only[Y1]at hc;first
     |(cases hc;done)
     |(split at hc
       all_goals first
        |(cases hc;done)
        |(simp only[QA]at hc;first
          |exact cY _ _ false x y hd rfl (by assumption) rfl hc.symm (.inl ⟨rfl,rfl⟩)
          |exact cY _ _ true x y hd rfl (by assumption) rfl hc.symm (.inl ⟨rfl,rfl⟩)
          |exact cY _ _ false y x hd rfl (by assumption) rfl hc.symm (.inr ⟨rfl,rfl⟩)
          |exact cY _ _ true y x hd rfl (by assumption) rfl hc.symm (.inr ⟨rfl,rfl⟩)))
     |(split at hc
       all_goals first
        |(cases hc;done)
        |(simp only[QA]at hc;first
          |exact cY _ _ false x y hd rfl (by assumption) rfl hc.symm (.inl ⟨rfl,rfl⟩)
          |exact cY _ _ true x y hd rfl (by assumption) rfl hc.symm (.inl ⟨rfl,rfl⟩)
          |exact cY _ _ false y x hd rfl (by assumption) rfl hc.symm (.inr ⟨rfl,rfl⟩)
          |exact cY _ _ true y x hd rfl (by assumption) rfl hc.symm (.inr ⟨rfl,rfl⟩))
        |(simp only[Nat.beq,QU,reduceCtorEq]at hc;done)
        |(simp only[Nat.beq,cond_true,QA]at hc;exact eQ hc.symm))
 |unOp KH ty x=>
  simp only[hq,QA]at hc;subst hc;have e1:=E x (by simp[hq,Op.operands]);simp only[WK]at ho;cases hu:unV KH (ev t x)with
  |none=>simp[hu]at ho
  |some u=>
   simp only[hu,QL,QA,QE]at ho;obtain⟨rfl,rfl⟩:=ho;obtain⟨r1,r2⟩:=zSI (P:=P) (w:=w) e1 hu;exact WW.same hr r1 r2
 |convert s d x=>
  simp only[hq]at hc;have e1:=E x (by simp[hq,Op.operands]);have pB:op=.convP s d x->WW P B σ h w (do pure (.value (<-convert s d (a.eval x)))) v h':=fun cE=>by
   subst cE;simp only[WK]at ho;cases aO:yX (ev t x)with
   |false=>simp[aO]at ho
   |true=>
    simp only[aO,cond_true]at ho;split at ho
    ·rename_i u hp;cases pz:yX u with
     |false=>simp[pz]at ho
     |true=>
      simp only[pz,cond_true,QA,QE]at ho;obtain⟨rfl,rfl⟩:=ho;rw[e1.closed_eq aO];exact WW.same hr (zEi _ hp) (VK σ pz)
    ·cases ho
  split at hc
  ·rename_i k1 k2 h1 h2;simp only[QA]at hc;subst hc;simp only[WK]at ho;split at ho
   ·rename_i k n hn;simp only[QA,QE]at ho;obtain⟨rfl,rfl⟩:=ho;rw[hn]at e1;generalize dA:a.eval x=q at e1;cases e1;refine WW.same hr (cv:= .int k2 (k2.wrap n)) ?_ (.int _ _);show(convert s d (a.eval x)).run P w=_;rw[dA];simp[convert,run_underlying h1,run_underlying h2,Conv.intToInt]
   ·cases ho
  all_goals first
   |(simp only[QA]at hc;exact pB hc.symm)
   |(cases hc;done)
   |skip
  ·rename_i e h1 h2;split at hc
   ·rename_i h3;split at hc
    ·simp only[QA]at hc;subst hc;simp only[WK]at ho;obtain⟨vv,hu,ho⟩:=QT.1 ho;simp only[QE]at ho;obtain⟨rfl,rfl⟩:=ho;unfold zG9 at hu;split at hu
     ·rename_i l hl;obtain⟨b,hb,hu⟩:=QT.1 hu;subst hu;have r1:=zNd hr e1 hl hb;have bP:∃ ad len cap,a.eval x=.slice ad len cap:=by
       generalize a.eval x=q at e1;unfold yq at hl;split at hl
       ·rename_i heq;rw[heq]at e1;cases e1;exact⟨_,_,_,rfl⟩
       ·rename_i heq;rw[heq]at e1;cases e1<;>exact⟨_,_,_,rfl⟩
       ·cases hl
      obtain⟨ad,len,cap,bP⟩:=bP;refine WW.same (s:=convert s d (a.eval x)) hr ?_ (.string _);rw[bP]at r1 |-;rw[run_convert_bytes_string w s d e ad len cap h1 h3 h2];exact r1
     ·cases hu
    ·cases hc
   ·cases hc
 |makeFunc fn first cap=>
  simp only[hq,QA]at hc;subst hc;simp only[WK]at ho;split at ho
  ·simp only[QA,QE]at ho;obtain⟨rfl,rfl⟩:=ho;have l1:=zBc hr ht (l:=first.toList) (fun x hx=>cE x (by simp[hq,Op.operands];left;simpa using hx));have l2:=zBc hr ht (l:=cap.toList) (fun x hx=>cE x (by simp[hq,Op.operands];right;simpa using hx));refine WW.same hr rfl ?_;refine .func _ (by simp) (by simp) (fun i x y hx hy=>l1.2 i x y (by simpa using hx) (by simpa using hy)) (fun i x y hx hy=>l2.2 i x y (by simpa using hx) (by simpa using hy))
  ·cases ho
 |makeMap ty r=>
  simp only[hq]at hc;cases r with
  |some r=>simp at hc
  |none=>
   simp only at hc;split at hc
   ·rename_i k e hu;simp only[QA]at hc;subst hc;simp only[WK,QA,QE]at ho;obtain⟨rfl,rfl⟩:=ho;have hp:W2 P B σ h w (yu σ h.n ⟨w.heap.size,0,0⟩) (h.push (.map [] 0)) (w.alloc (.map #[] 0)):=
     hr.push rfl ⟨rfl,rfl,rfl⟩ ⟨#[],by show(w.heap.push _)[w.heap.size]?=_;simp,Bl.nil⟩
    exact WW.val ⟨_,_,.map (some w.heap.size),by simp[Instr.makeMap],WI.map (pl:=⟨w.heap.size,0,0⟩) (yB _ _ _),hp⟩
   ·cases hc
 |makeSlice ty l c=>
  simp only[hq]at hc;have e1:=E l (by simp[hq,Op.operands]);have e2:=E c (by simp[hq,Op.operands]);cases bJ:yZ P ty with
  |none=>simp[bJ]at hc
  |some e=>
   have hu:P.underlying ty=some (.slice e):=by
    unfold yZ at bJ;split at bJ
    ·cases bJ;assumption
    ·cases bJ
   simp only[bJ]at hc;split at hc
   ·rename_i n zs he hz;simp only[QA]at hc;subst hc;simp only[WK]at ho;split at ho
    ·rename_i ln cn h1 h2;cases hb:(Nat.ble ln cn&&Nat.ble cn room)with
     |false=>simp[hb]at ho
     |true=>
      simp only[hb,cond_true,QA,QE]at ho;simp only[QI]at hb;obtain⟨rfl,rfl⟩:=ho;obtain⟨k,hk⟩:=zAK e1 h1;obtain⟨k',cF⟩:=zAK e2 h2;dsimp only;rw[hk,cF];exact WW.val (zJ8 hr hu he hz (QP hb.1) (QP hb.2))
    ·cases ho
   ·cases hc
 |slice ty x lo hi mx=>
  simp only[hq]at hc;have e1:=E x (by simp[hq,Op.operands]);have Cg:∀ y,lo=some y->Zm P y=true:=fun y hy=>cE y (by subst hy;simp[hq,Op.operands]);have Ch:∀ y,hi=some y->Zm P y=true:=fun y hy=>cE y (by subst hy;simp[hq,Op.operands]);have KI:∀ y,mx=some y->Zm P y=true:=fun y hy=>cE y (by subst hy;simp[hq,Op.operands]);cases kP:(mx.isSome&&hi.isNone)with
  |true=>simp[kP]at hc
  |false=>
  simp only[kP,QU]at hc;split at hc
  ·rename_i e hu;cases he:Zg P e with
   |none=>simp[he]at hc
   |some c=>
    simp only[he,QL,QA]at hc;subst hc;simp only[WK]at ho;split at ho
    ·rename_i fx jd KJ h1 h2 h3;cases hs:Zk c (ev t x) fx jd KJ with
     |none=>simp[hs]at ho
     |some u=>
      simp only[hs,QL,QA,QE]at ho;obtain⟨rfl,rfl⟩:=ho;obtain⟨cv,r1,r2⟩:=zLb (P:=P) (w:=w) hu he e1 (zAd hr ht Cg h1) (zAd hr ht Ch h2) (zAd hr ht KI h3) (fun h=>by
       rw[zEh h3]at h;rw[zEh h2];cases hi<;>simp_all) hs
      exact WW.same hr r1 r2
    ·cases ho
  ·rename_i hu;cases mx with
   |some m=>simp at hc
   |none=>
   simp only[Option.isSome_none,QU,QA]at hc;subst hc;simp only[WK]at ho;split at ho
   ·rename_i s fx jd h1 h2 h3;cases hb:(Nat.ble (fx.getD 0) (jd.getD s.size)&&Nat.ble (jd.getD s.size) s.size)with
    |false=>simp[hb]at ho
    |true=>
     simp only[hb,cond_true,QA,QE]at ho;simp only[QI]at hb;obtain⟨rfl,rfl⟩:=ho;rw[h1]at e1;have q1:a.eval x=.string s:=by generalize a.eval x=q at e1;cases e1;rfl
     have b1:=zAd hr ht Cg h2;have b2:=zAd hr ht Ch h3;have c1:=QP hb.1;have c2:=QP hb.2;dsimp only;rw[q1];refine WW.same hr ?_ (.string _);have aM:(Instr.sliceBounds false s.size s.size (lo.map a.eval) (hi.map a.eval) none).run P w=.ok (fx.getD 0,jd.getD s.size,s.size) w:=by
      cases fx with
      |none=>
       cases jd with
       |none=>rw[b1,b2];simp[Instr.sliceBounds]
       |some e=>
        obtain⟨k,hk⟩:=b2;rw[b1,hk];simp at c2;simp[Instr.sliceBounds,YU,c2]
      |some l=>
       obtain⟨k,hk⟩:=b1;cases jd with
       |none=>
        rw[hk,b2];simp at c1;simp[Instr.sliceBounds,YU,c1]
       |some e=>
        obtain⟨k2,aU⟩:=b2;rw[hk,aU];simp at c1 c2;simp[Instr.sliceBounds,YU,c1,c2]
     simp[Instr.sliceAt,Instr.slice,run_underlying hu,aM]
   ·cases ho
  ·rename_i len e hu;cases he:Zg P e with
   |none=>simp[he]at hc
   |some c=>
    simp only[he,QL,QA]at hc;subst hc;obtain⟨ie,z,af,rfl,a8,_⟩:=yp he;simp only[WK]at ho;split at ho
    ·rename_i ad iM;split at ho
     ·rename_i fx jd cells h2 h3 h4;cases hb:(Nat.ble (fx.getD 0) (jd.getD len)&&Nat.ble (jd.getD len) len&&ad.spot.isNone&&Nat.ble (ad.off+len*ie.size) cells.length)with
      |false=>simp[hb]at ho
      |true=>
       simp only[hb,cond_true,QA,QE]at ho;simp only[QI]at hb;obtain⟨⟨⟨c1,c2⟩,c3⟩,c4⟩:=hb;have c1:=QP c1;have c2:=QP c2;have c4:=QP c4;obtain⟨rfl,rfl⟩:=ho;rw[iM]at e1;obtain⟨pl,hp,q1⟩:=e1.ptr_inv;obtain⟨bW,k1,k2,_⟩:=zHl hr h4;rw[hp]at k1;cases k1;have b1:=zAd hr ht Cg h2;have b2:=zAd hr ht Ch h3;have aM:=Zb (P:=P) (w:=w) (sl:=false) (len:=len) (cap:=len) (mx:=none) (ni:=none) b1 b2 rfl rfl rfl rfl (by simp) c1 (by simpa using c2) (by simp) (fun _=>c2);simp only[Gv]at aM;dsimp only;rw[q1];have tX:(Instr.sliceAt ty (.pointer (some ⟨pl.b,pl.base+ad.off,none⟩)) (lo.map a.eval) (hi.map a.eval) none).run P w=
         .ok (.slice (some (if len=fx.getD 0 then⟨pl.b,pl.base+ad.off,none⟩else⟨pl.b,pl.base+ad.off+fx.getD 0*ie.size,none⟩)) (jd.getD len-fx.getD 0) (len-fx.getD 0)) w:=by
        simp[Instr.sliceAt,Instr.sureAddr,run_underlying hu,aM,yE af,Y2]
       refine WW.same hr tX ?_;by_cases hz:len=fx.getD 0
       ·have e3:jd.getD len-fx.getD 0=0:=ω
        have e4:len-fx.getD 0=0:=ω
        rw[e3,e4];exact .szero _ _ _
       ·rw[QC hz];have e3:pl.base+ad.off+fx.getD 0*ie.size=pl.base+(ad.off+fx.getD 0*ie.size):=ω
        rw[e3];refine .slice hp a8 ω ?_;have e4:(len-fx.getD 0)*ie.size+fx.getD 0*ie.size=len*ie.size:=by rw[<-Gx];congr 1;omega
        omega
     ·cases ho
    ·cases ho
  ·cases hc
 |fieldAddr ty x f=>
  simp only[hq]at hc;have e1:=E x (by simp[hq,Op.operands]);split at hc
  ·rename_i fs hu;split at hc
   ·rename_i f0 hf;split at hc
    ·rename_i n hn;simp only[QA]at hc;subst hc;simp only[WK]at ho;split at ho
     ·rename_i ad iM;rw[iM]at e1;cases dZ:ad.spot with
      |some s=>simp[dZ]at ho
      |none=>
       simp only[dZ,Q2,cond_true,QA,QE]at ho;obtain⟨rfl,rfl⟩:=ho;obtain⟨b,off,sp⟩:=ad;generalize dA:a.eval x=q at e1;cases e1 with
       |ptr hp=>
        dsimp only;rw[dA];refine WW.same hr (zKM hu hf hn _ _) ?_;rw[Nat.add_assoc];exact .ptr hp
     ·cases ho
    ·cases hc
   ·cases hc
  ·cases hc
 |field ty x f=>
  simp only[hq]at hc;have e1:=E x (by simp[hq,Op.operands]);split at hc
  ·rename_i fs hu;split at hc
   ·rename_i f0 hf;split at hc
    ·rename_i g n hg hn;simp only[QA]at hc;subst hc;simp only[WK]at ho;split at ho
     ·rename_i cs b9;rw[b9]at e1;cases bI:cut cs.toList f0.offset n with
      |none=>simp[bI]at ho
      |some xs=>
       simp only[bI,QV]at ho;cases fY:zI g xs with
       |none=>simp[fY]at ho
       |some u=>
        simp only[fY,QL,QA,QE]at ho;obtain⟨rfl,rfl⟩:=ho;generalize dA:a.eval x=q at e1;obtain⟨kV,rfl,xm⟩:=e1.agg_inv;obtain⟨ys,c1,c2⟩:=zMH xm bI;obtain⟨cv,d1,d2⟩:=zAz c2 fY;dsimp only;rw[dA];exact WW.same hr (zN7 hu hf hg hn c1 d1) d2
     ·cases ho
    ·cases hc
   ·cases hc
  ·cases hc
 |indexAddr ty x i=>
  simp only[hq]at hc;have e1:=E x (by simp[hq,Op.operands]);have e2:=E i (by simp[hq,Op.operands]);split at hc
  ·rename_i e hu;cases he:Zg P e with
   |none=>simp[he]at hc
   |some c=>
    simp only[he,QL,QA]at hc;subst hc;obtain⟨ie,z,hi,rfl,a8,_⟩:=yp he;simp only[WK]at ho;split at ho
    ·rename_i ad len k n h1 h2;cases hb:(Nat.ble (n+1) len&&Nat.beq k ie.size&&ad.spot.isNone)with
     |false=>simp[hb]at ho
     |true=>
      simp only[hb,cond_true,QA,QE]at ho;simp only[QI]at hb;obtain⟨⟨b1,b2⟩,b3⟩:=hb;have b1:=QP b1;obtain⟨rfl,rfl⟩:=ho;obtain⟨kk,hk⟩:=zAK e2 h2;rw[h1]at e1;generalize dA:a.eval x=q at e1;rcases e1.slice_inv with⟨pl,cap,hp,_,fu,hn,rfl⟩|⟨y,rfl,rfl⟩
      ·dsimp only;rw[dA,hk];refine WW.same hr (zDL hu hi _ _ _ _ _ _ ω) ?_;rw[Nat.add_assoc];exact .ptr hp
      ·omega
    ·cases ho
  ·rename_i len e hu;cases he:Zg P e with
   |none=>simp[he]at hc
   |some c=>
    simp only[he,QL,QA]at hc;subst hc;obtain⟨ie,z,hi,rfl,a8,_⟩:=yp he;simp only[WK]at ho;split at ho
    ·rename_i ad n h1 h2;cases hb:(Nat.ble (n+1) len&&ad.spot.isNone)with
     |false=>simp[hb]at ho
     |true=>
      simp only[hb,cond_true,QA,QE]at ho;simp only[QI]at hb;have b1:=QP hb.1;obtain⟨rfl,rfl⟩:=ho;obtain⟨kk,hk⟩:=zAK e2 h2;rw[h1]at e1;obtain⟨b,off,sp⟩:=ad;generalize dA:a.eval x=q at e1;cases e1 with
      |ptr hp=>
       dsimp only;rw[dA,hk];refine WW.same hr (zD2 hu hi _ _ _ _ ω) ?_;rw[Nat.add_assoc];exact .ptr hp
    ·cases ho
  ·cases hc
 |index ty x i=>
  simp only[hq]at hc;have e1:=E x (by simp[hq,Op.operands]);have e2:=E i (by simp[hq,Op.operands]);split at hc
  ·rename_i len e hu;split at hc
   ·rename_i g c hg he;simp only[QA]at hc;subst hc;simp only[WK]at ho;split at ho
    ·rename_i cs n h1 h2;cases hb:Nat.ble (n+1) len with
     |false=>simp[hb]at ho
     |true=>
      simp only[hb,cond_true]at ho;have b1:=QP hb;cases bI:cut cs.toList (n*c) c with
      |none=>simp[bI]at ho
      |some xs=>
       simp only[bI,QV]at ho;cases fY:zI g xs with
       |none=>simp[fY]at ho
       |some u=>
        simp only[fY,QL,QA,QE]at ho;obtain⟨rfl,rfl⟩:=ho;obtain⟨kk,hk⟩:=zAK e2 h2;rw[h1]at e1;generalize dA:a.eval x=q at e1;obtain⟨kV,rfl,xm⟩:=e1.agg_inv;obtain⟨ys,c1,c2⟩:=zMH xm bI;obtain⟨cv,d1,d2⟩:=zAz c2 fY;dsimp only;rw[dA,hk];exact WW.same hr (zEx hu hg he ω c1 d1) d2
    ·cases ho
   ·cases hc
  ·rename_i hu;simp only[QA]at hc;subst hc;simp only[WK]at ho;split at ho
   ·rename_i s n h1 h2;obtain⟨kk,hk⟩:=zAK e2 h2;rw[h1]at e1;split at ho
    ·rename_i b hb;simp only[QA,QE]at ho;obtain⟨rfl,rfl⟩:=ho;generalize dA:a.eval x=q at e1;cases e1;dsimp only;rw[dA,hk];refine WW.same hr (cv:= .int .u8 b.toNat) ?_ (.int _ _);simp[Instr.index,run_underlying hu,asIntOf,hb]
    ·cases ho
   ·cases ho
  ·cases hc
 |lookup ty m k ok=>
  simp only[hq]at hc;have e1:=E m (by simp[hq,Op.operands]);have e2:=E k (by simp[hq,Op.operands]);split at hc
  ·rename_i kt e hu;split at hc
   ·rename_i d z hk hz;cases dj:yk z.cells.toList with
    |false=>simp[dj]at hc
    |true=>
    simp only[dj,cond_true,QA]at hc;subst hc;simp only[WK]at ho;generalize jb:(match ev t m with
     | .map none=>some []
     | .map (some g)=>(match h.get g with
      |some (.map es _)=>some es
      |_=>none)
     |_=>none:Option (List MapEntry))=eso at ho
    split at ho
    ·cases ho
    rename_i es jb;split at ho
    ·rename_i kk n Ci;rw[Ci]at e2;have q2:a.eval k=.int kk n:=by generalize a.eval k=q at e2;cases e2;rfl
     have tY:(ev t m=.map none/\es=[])\/∃ g clock,ev t m=.map (some g)/\h.get g=some (.map es clock):=by
      split at jb
      ·rename_i hm;left;exact⟨hm,by simpa using jb.symm⟩
      ·rename_i g hm;split at jb
       ·rename_i Sp clock hg;simp only[QA]at jb;subst jb;exact .inr ⟨g,clock,hm,hg⟩
       ·cases jb
      ·cases jb
     dsimp only;rw[q2];split at ho
     ·rename_i i u hf;simp only[QA,QE]at ho;obtain⟨rfl,rfl⟩:=ho;obtain⟨cv,r1,r2⟩:=zFX (ok:=ok) hu hk hr hz dj e1 tY hf rfl;exact WW.same hr r1 r2
     ·rename_i hf;simp only[QA,QE]at ho;obtain⟨rfl,rfl⟩:=ho;obtain⟨cv,r1,r2⟩:=zFX (ok:=ok) hu hk hr hz dj e1 tY hf rfl;exact WW.same hr r1 r2
     ·cases ho
    ·cases ho
   ·cases hc
  ·cases hc
 |mapUpdate ty m k x=>
  simp only[hq]at hc;have e1:=E m (by simp[hq,Op.operands]);have e2:=E k (by simp[hq,Op.operands]);have e3:=E x (by simp[hq,Op.operands]);split at hc
  ·rename_i kt e hu;split at hc
   ·rename_i d hk;simp only[QA]at hc;subst hc;simp only[WK]at ho;split at ho
    ·rename_i g kk n h1 h2;rw[h1]at e1;rw[h2]at e2;have q2:a.eval k=.int kk n:=by generalize a.eval k=q at e2;cases e2;rfl
     split at ho
     ·rename_i es clock hg;dsimp only;rw[q2];split at ho
      ·rename_i i u hf;simp only[QA,QE]at ho;obtain⟨rfl,rfl⟩:=ho;obtain⟨w',r1,r2⟩:=zBX hu hk hr hg e1 e3 hf;exact Va ⟨σ,w',r1,r2⟩
      ·rename_i hf;simp only[QA,QE]at ho;obtain⟨rfl,rfl⟩:=ho;obtain⟨w',r1,r2⟩:=zBX hu hk hr hg e1 e3 hf;exact Va ⟨σ,w',r1,r2⟩
      ·cases ho
     ·cases ho
    ·cases ho
   ·cases hc
  ·cases hc
 |insert ty m k x=>
  simp only[hq]at hc;have e1:=E m (by simp[hq,Op.operands]);have e2:=E k (by simp[hq,Op.operands]);have e3:=E x (by simp[hq,Op.operands]);split at hc
  ·rename_i kt e hu;split at hc
   ·rename_i d hk;simp only[QA]at hc;subst hc;simp only[WK]at ho;split at ho
    ·rename_i g kk n h1 h2;rw[h1]at e1;rw[h2]at e2;have q2:a.eval k=.int kk n:=by generalize a.eval k=q at e2;cases e2;rfl
     split at ho
     ·rename_i es clock hg;dsimp only;rw[q2];split at ho
      ·rename_i i u hf;simp only[QA,QE]at ho;obtain⟨rfl,rfl⟩:=ho;obtain⟨w',r1,r2⟩:=zBX hu hk hr hg e1 e3 hf;exact Va ⟨σ,w',r1,r2⟩
      ·rename_i hf;simp only[QA,QE]at ho;obtain⟨rfl,rfl⟩:=ho;obtain⟨w',r1,r2⟩:=zBX hu hk hr hg e1 e3 hf;exact Va ⟨σ,w',r1,r2⟩
      ·cases ho
     ·cases ho
    ·cases ho
   ·cases hc
  ·cases hc
 |extract x i=>
  simp only[hq,QA]at hc;subst hc;have e1:=E x (by simp[hq,Op.operands]);simp only[WK]at ho;split at ho
  ·rename_i vs xn;rw[xn]at e1;split at ho
   ·rename_i u hu;simp only[QA,QE]at ho;obtain⟨rfl,rfl⟩:=ho;generalize dA:a.eval x=q at e1;cases e1 with
    |tuple ha ra=>
     rename_i gI;have hi:i<gI.size:=by rw[<-ha];exact(JA.1 hu).1
     have hy:gI[i]?=some gI[i]:=Q6 _;dsimp only;rw[dA];exact WW.same hr (by simp[Instr.extract,hy]) (ra i _ _ hu hy)
   ·cases ho
  ·cases ho
 |call c=>
  simp only[hq]at hc;split at hc
  ·rename_i f hf;simp only[QA]at hc;subst hc;rcases zDD (P:=P) f c.args.toList with fJ|⟨g,x,rt,rfl,hx,he,jc,fJ⟩
   ·exact absurd fJ (Hw.1 _ _)
   ·rw[fJ]at ho;have hargs:c.args=#[x]:=by rw[<-Gy (xs:=c.args),hx]
    have e1:=E x (by rw[hq];simp[Op.operands,Call.operands,hf,hargs]);simp only[WK]at ho;obtain⟨u,hu,ho⟩:=QT.1 ho;simp only[QE]at ho;obtain⟨rfl,rfl⟩:=ho;obtain⟨cv,r1,r2⟩:=zLq (w:=w) he jc e1 hu;refine⟨σ,w,.inl ⟨cv,?_,r2⟩,.refl hr⟩;have tZ:a.eval (.func g)=.func (.func g) #[] #[]:=rfl;simp only[resolve,hf,hargs,Sem.run_bind,tZ,Deferred.ofValue,Sem.run_pure,Result.andThen_ok,invoke];simpa using r1
  ·rename_i b hb;have az:∀ x∈c.args.toList,Zm P x=true:=fun x hx=>cE x (by
    rw[hq];simp only[Op.operands,Call.operands,hb];simpa using hx)
   have:=zIx (ty:=o.type) (consts:=c.args.map fun| .const _=>true|_=>false) hr ht az hc ho;have e1:(c.args.toList.map a.eval).toArray=c.args.map a.eval:=by apply JT;simp
   rw[e1,Gy]at this;obtain⟨σ',w',r1,r2⟩:=this;refine⟨σ',w',?_,r2⟩;simp only[resolve,hb,Sem.run_bind,Sem.run_pure,Result.andThen_ok,invoke];exact r1
  ·simp only[QA]at hc;exact absurd hc.symm (Hw.2 _ _ _)
 |defer c=>
  simp only[hq]at hc;split at hc
  ·simp only[QA]at hc;subst hc;simp[WK]at ho
  ·split at hc
   ·split at hc
    ·simp only[QA]at hc;subst hc;simp[WK]at ho
    ·cases hc
   ·cases hc
  ·cases hc
 |makeInterface ty x=>
  simp only[hq]at hc;have e1:=E x (by simp[hq,Op.operands]);split at hc
  ·cases hc
  ·rename_i d hnd hu;simp only[QA]at hc;subst hc;simp only[WK,QA,QE]at ho;obtain⟨rfl,rfl⟩:=ho;refine WW.same (s:=Instr.makeInterface ty (a.eval x)) hr ?_ (.iface ty e1);cases d<;>first|(simp[Instr.makeInterface,run_underlying hu];done)|exact(hnd _ rfl).elim|exact(hnd _ hu).elim
  ·cases hc
 |typeAssert x xt ty ok=>
  simp only[hq,QA]at hc;subst hc;have e1:=E x (by simp[hq,Op.operands]);simp only[WK]at ho;obtain⟨u,hu,ho⟩:=QT.1 ho;simp only[QE]at ho;obtain⟨rfl,rfl⟩:=ho;obtain⟨cv,r1,r2⟩:=zLx (w:=w) (xt:=xt) e1 hu;exact WW.same (s:=Instr.typeAssert (a.eval x) xt ty ok) hr r1 r2
 |range ty x=>
  simp only[hq]at hc;have e1:=E x (by simp[hq,Op.operands]);split at hc
  ·rename_i hu;simp only[QA]at hc;subst hc;simp only[WK,zCY]at ho;split at ho
   ·rename_i s hs;rw[hs]at e1;have q1:a.eval x=.string s:=by generalize a.eval x=q at e1;cases e1;rfl
    simp only[QA,QE]at ho;obtain⟨rfl,rfl⟩:=ho;dsimp only;rw[q1];exact WW.val (zOb hr s hu)
   ·cases ho
  ·cases hc
 |next x KK=>
  cases KK with
  |false=>simp[hq]at hc
  |true=>
  simp only[hq,QA]at hc;subst hc;have e1:=E x (by simp[hq,Op.operands]);simp only[WK,zD7]at ho;split at ho
  ·rename_i ad hx;rw[hx]at e1;cases hb:(Nat.beq ad.off 0&&ad.spot.isNone)with
   |false=>simp[hb]at ho
   |true=>
    simp only[hb,cond_true]at ho;rw[QI]at hb;split at ho
    ·rename_i s pos hg;obtain⟨n1,n2⟩:=zQl (ty:=o.type) hr e1 (QN hb.1) hg;cases hp:Nat.ble (pos+1) s.size with
     |true=>
      simp only[hp,cond_true,QA,QE]at ho;obtain⟨rfl,rfl⟩:=ho;obtain⟨w',r1,r2⟩:=n1 (QP hp);refine WW.val ⟨σ,w',_,r1,?_,r2⟩;refine .tuple rfl fun k c d hc hd=> ?_;rw[hc]at hd;cases hd;match k with
      |0=>simp at hc;subst hc;exact .bool _
      |1=>simp at hc;subst hc;exact .int _ _
      |2=>simp at hc;subst hc;exact .int _ _
      |k+3=>simp at hc
     |false=>
      simp only[hp,QU,QA,QE]at ho;obtain⟨rfl,rfl⟩:=ho;have r1:=n2 (fun aD=>by
       have:Nat.ble (pos+1) s.size=true:=QK aD;rw[this]at hp;cases hp)
      refine WW.val ⟨σ,w,_,r1,?_,.refl hr⟩;refine .tuple rfl fun k c d hc hd=> ?_;rw[hc]at hd;cases hd;match k with
      |0=>simp at hc;subst hc;exact .bool _
      |k+1=>simp at hc
    ·cases ho
  ·cases ho
 |_=>simp[hq]at hc
end
def At(b:Frame)(a:Act)(todo:List Item):Frame:={fn:=b.fn,tmps:=a.tmps,todo,defers:=a.defers,mode:= .run,kind:=b.kind,roundOf:=b.roundOf}
def DRel(P:Program)(σ:Nat->Option Pl)(d d':Deferred):Prop:=
 match d.target with
 | .fn (.func f) cap=>∃ cm,d'.target=.fn (.func f) cm/\WQ σ cap.toList cm.toList/\WQ σ d.args.toList d'.args.toList
 | .builtin .clear ts ty cs=>∃ t kt e,ts=#[t]/\P.underlying t=some (.map kt e)/\d'.target=.builtin .clear #[t] ty cs/\WQ σ d.args.toList d'.args.toList
 | .collected g=>∃ pl,σ g=some pl/\d'.target=.collected pl.b
 |_=>False
def Bc(P:Program)(σ:Nat->Option Pl):List Deferred->List Deferred->Prop
 |[],[]=>True
 |d::l,d'::l'=>DRel P σ d d'/\Bc P σ l l'
 |_,_=>False
def RRel(σ:Nat->Option Pl)(r r':Option Nat):Prop:=
 match r with
 |none=>r'=none
 |some l=>∃ pl,σ l=some pl/\r'=some pl.b
structure BC(P:Program)(σ:Nat->Option Pl)(nt:Nat)(fr:WM)(a:Act)(b:Frame):Prop where
 size:nt<=a.tmps.size
 tm:∀ k,WI σ (zC fr.tm k) (a.tmps.getD k Go.undef)
 dfs:Bc P σ fr.dfs a.defers
 round:RRel σ fr.round b.roundOf
def Arr(P:Program)(m:Machine)(b:Frame)(k:List Item)(cs:List Frame):WL->Act->World->Prop
 | .normal,a,w=>Steps P m (lone (At b a k) cs w)
 | .exit id,a,w=>∃ k1,exitTo id k1=exitTo id k/\Steps P m (lone (At b a (.code (.exit id)::k1)) cs w)
 | .goto l,a,w=>∃ k1,gotoIn l k1=gotoIn l k/\Steps P m (lone (At b a (.code (.goto l)::k1)) cs w)
 | .ret,a,w=>∃ k1,Steps P m (lone (At b a (.code .ret::k1)) cs w)
def zTE(kind:CallKind)(cs:List Frame):Prop:=kind=.normal\/kind=.deferred/\∀ (c:Frame) (rest:List Frame),cs=c::rest->∀ ch,c.mode≠ .panicking ch
def zBn(b:Frame)(cs:List Frame):Prop:=zTE b.kind cs
def yQ(P:Program)(ex:Ex):Prop:=∀ (nt:Nat) (c:Code) (ac:WT),zE5 P nt c ac->∀ (fr:WM) (h:WA) (e:WL) (ae:WM) (h':WA),ex.exec ac fr h=some (e,ae,h')->
 ∀ (B:Nat) (σ:Nat->Option Pl) (w:World),Wd P B σ h w->∀ (a:Act) (b:Frame),BC P σ nt fr a b->
  ∃ σ' w' a',W2 P B σ h w σ' h' w'/\BC P σ' nt ae a' b/\ae.round=fr.round/\∀ (k:List Item) (cs:List Frame),zBn b cs->Arr P (lone (At b a (.code c::k)) cs w) b k cs e a' w'
structure B5(P:Program)(f:FuncId)(kind:CallKind)(fr:Frame)(cv:Value)(w:World):Prop where
 mode:fr.mode=.returning
 defers:fr.defers=[]
 kind:fr.kind=kind
 fn:fr.fn=f
 results:∃ fn,P.funcs[f]?=some fn/\(results fn fr.tmps).run P w=.ok cv w
def yP(P:Program)(ex:Ex):Prop:=∀ (f:FuncId) (args:List Value) (h:WA) (v:Value) (h':WA),ex.call f args h=some (v,h')->
 (∀ (as:Array Value) (w:World),(callFunc f as).run P w=.ok (.enter f as) w)/\
 ∀ (B:Nat) (σ:Nat->Option Pl) (w:World),Wd P B σ h w->∀ (as:Array Value),WQ σ args as.toList->∀ (kind:CallKind),kind=.normal\/kind=.deferred->
  ∃ σ' w' cv,W2 P B σ h w σ' h' w'/\WI σ' v cv/\∀ cs:List Frame,zTE kind cs->∃ ae,Steps P (lone (Frame.enter P f as kind) cs w) (lone ae cs w')/\B5 P f kind ae cv w'
def DRel.mono{P:Program}{σ σ':Nat->Option Pl}(hs:Le σ σ'){d d':Deferred}(h:DRel P σ d d'):DRel P σ' d d':=by
 unfold DRel at *;split at h
 ·obtain⟨cm,h1,h2,h3⟩:=h;exact⟨cm,h1,h2.mono hs,h3.mono hs⟩
 ·obtain⟨t,kt,e,h1,h2,h3,h4⟩:=h;exact⟨t,kt,e,h1,h2,h3,h4.mono hs⟩
 ·obtain⟨pl,h1,h2⟩:=h;exact⟨pl,hs _ _ h1,h2⟩
 ·exact h.elim
def Bc.mono{P:Program}{σ σ':Nat->Option Pl}(hs:Le σ σ'):∀ {l l':List Deferred},Bc P σ l l'->Bc P σ' l l'
 |[],[],_=>trivial
 |_::_,_::_,h=>⟨h.1.mono hs,h.2.mono hs⟩
def RRel.mono{σ σ':Nat->Option Pl}(hs:Le σ σ'){r r':Option Nat}(h:RRel σ r r'):RRel σ' r r':=by
 cases r with
 |none=>exact h
 |some l=>obtain⟨pl,h1,h2⟩:=h;exact⟨pl,hs _ _ h1,h2⟩
def BC.mono{P:Program}{σ σ':Nat->Option Pl}{nt:Nat}{fr:WM}{a:Act}{b:Frame}(hs:Le σ σ')(h:BC P σ nt fr a b):BC P σ' nt fr a b:=
 ⟨h.size,fun k=>(h.tm k).mono hs,h.dfs.mono hs,h.round.mono hs⟩
def zJz(tm:Array Value)(d k:Nat)(v:Value)(hd:d<tm.size):(tm.setIfInBounds d v).getD k Go.undef=if k=d then v else tm.getD k Go.undef:=by
 simp only[GD,Gi];by_cases hk:k=d
 ·subst hk;simp[hd]
 ·rw[QC ω,QC hk]
def BC.val{P:Program}{σ:Nat->Option Pl}{nt:Nat}{fr:WM}{a:Act}{b:Frame}(h:BC P σ nt fr a b){d:Option Nat}(hd:∀ k,d=some k->k<nt){v v':Value}(hv:WI σ v v'):BC P σ nt (val d fr v) (a.put d v') b:=by
 cases d with
 |none=>exact h
 |some d=>
  have aD:d<a.tmps.size:=QG (hd d rfl) h.size;refine⟨by simpa [Act.put]using h.size,fun k=> ?_,h.dfs,h.round⟩;simp only[Am.val,Act.put];rw[zg,zJz _ _ _ _ aD];split
  ·exact hv
  ·exact h.tm k
def zIH(b:Frame)(a:Act)(todo:List Item):(At b a todo).eval=a.eval:=by
 funext x;cases x<;>rfl
def Yw(b:Frame)(a:Act)(ops:Array Oper)(i:Nat)(rest:List Nat)(k:List Item)(v:Value):
  (At b a (.inRegion ops (i::rest)::k)).finish v=At b (a.put ((ops[i]?).bind (·.dst)) v) (.inRegion ops rest::k):=by
 cases h:(ops[i]?).bind (·.dst)<;>simp[Frame.finish,At,Act.put,h]
section
variable {P:Program}{b:Frame}{a:Act}{k:List Item}{cs:List Frame}{w:World}
def zBB{ops:Array Oper}{i:Nat}{rest:List Nat}{o:Oper}(ho:ops[i]?=some o)(hw:Region.wanted o (yielded ops a.tmps)=true)(hd:∀ c,o.op=.defer c->b.roundOf=none):
  stepG P true {frame:=At b a (.inRegion ops (i::rest)::k),callers:=cs,status:= .running,dying:=none} w=
   stepG.apply P true (At b a (.inRegion ops (i::rest)::k)) cs none (execOp a.eval o) w:=by
 have he:=zIH b a (.inRegion ops (i::rest)::k);simp only[At]at he;simp only[stepG,stepG.exec,stepG.oper,Frame.oper?,At,ho,hw,he,QL,GG,Qz];split
 ·rename_i l c h1 h2;rw[hd c h2]at h1;cases h1
 ·rfl
def zLw{ops:Array Oper}{i:Nat}{rest:List Nat}(h:((ops[i]?).map (Region.wanted · (yielded ops a.tmps))).getD false=false):
  step P (lone (At b a (.inRegion ops (i::rest)::k)) cs w)=.next (lone (At b (a.put ((ops[i]?).bind (·.dst)) Go.undef) (.inRegion ops rest::k)) cs w):=by
 rw[<-Yw];exact step_lone_go (by
  have h':=h;simp only[At]at *;simp[stepG,stepG.exec,h'])
def zC3{ops:Array Oper}{i:Nat}{rest:List Nat}{o:Oper}{v:Value}{w':World}(ho:ops[i]?=some o)(hw:Region.wanted o (yielded ops a.tmps)=true)(hd:∀ c,o.op=.defer c->b.roundOf=none)
  (hr:(execOp a.eval o).run P w=.ok (.value v) w'):step P (lone (At b a (.inRegion ops (i::rest)::k)) cs w)=.next (lone (At b (a.put o.dst v) (.inRegion ops rest::k)) cs w'):=by
 have cq:=Yw b a ops i rest k v;rw[ho]at cq;simp only[QV]at cq;refine step_lone_go ?_;rw[zBB ho hw hd,<-cq];simp[stepG.apply,hr]
def zN8{ops:Array Oper}{i:Nat}{rest:List Nat}{o:Oper}{w':World}(ho:ops[i]?=some o)(hw:Region.wanted o (yielded ops a.tmps)=true)(hd:∀ c,o.op=.defer c->b.roundOf=none)
  (hr:(execOp a.eval o).run P w=.ok .skip w'):step P (lone (At b a (.inRegion ops (i::rest)::k)) cs w)=.next (lone (At b (a.put o.dst Go.undef) (.inRegion ops rest::k)) cs w'):=by
 have cq:=Yw b a ops i rest k Go.undef;rw[ho]at cq;simp only[QV]at cq;refine step_lone_go ?_;rw[zBB ho hw hd,<-cq];simp[stepG.apply,hr]
def zEc{ops:Array Oper}{i:Nat}{rest:List Nat}{o:Oper}{d:Deferred}{w':World}(ho:ops[i]?=some o)(hw:Region.wanted o (yielded ops a.tmps)=true)(hd:∀ c,o.op=.defer c->b.roundOf=none)
  (hr:(execOp a.eval o).run P w=.ok (.defer d) w'):step P (lone (At b a (.inRegion ops (i::rest)::k)) cs w)=.next (lone (At b ({a with defers:=d::a.defers}.put o.dst Go.undef) (.inRegion ops rest::k)) cs w'):=by
 have cq:=Yw b {a with defers:=d::a.defers} ops i rest k Go.undef;rw[ho]at cq;simp only[QV]at cq;refine step_lone_go ?_;rw[zBB ho hw hd,<-cq];simp only[stepG.apply,Sem.runT_eq,hr,GStep.bare_after];rfl
def zEy{fr:Frame}(hc:zBn fr cs):tryRecover fr cs=none:=by
 rcases hc with hk|⟨hk,hm⟩
 ·unfold tryRecover;simp[hk]
 ·unfold tryRecover;simp only[hk];cases cs with
  |nil=>rfl
  |cons c rest=>
   have:=hm c rest rfl;simp only;split
   ·rename_i h;exact absurd h (this _)
   ·rfl
def zH2{ops:Array Oper}{i:Nat}{rest:List Nat}{o:Oper}{w':World}(ho:ops[i]?=some o)(hw:Region.wanted o (yielded ops a.tmps)=true)(hd:∀ c,o.op=.defer c->b.roundOf=none)
  (hr:(execOp a.eval o).run P w=.ok .recover w') (hb:b.roundOf=none) (hc:zBn b cs):step P (lone (At b a (.inRegion ops (i::rest)::k)) cs w)=.next (lone (At b (a.put o.dst .nilIface) (.inRegion ops rest::k)) cs w'):=by
 have cq:=Yw b a ops i rest k .nilIface;rw[ho]at cq;simp only[QV]at cq;refine step_lone_go ?_;rw[zBB ho hw hd,<-cq];have ht:tryRecover (At b a (.inRegion ops (i::rest)::k)) cs=none:=zEy hc;have KL:(At b a (.inRegion ops (i::rest)::k)).roundOf=none:=hb;simp[stepG.apply,hr,KL,ht]
def zDy(P:Program):Next->Option Frame
 | .enter f args=>some (Frame.enter P f args .normal)
 | .round l f tmps assign body=>some (Frame.round l f tmps assign body .normal)
 |_=>none
def zHE{ops:Array Oper}{i:Nat}{rest:List Nat}{o:Oper}{nx:Next}{bX:Frame}{w':World}(ho:ops[i]?=some o)(hw:Region.wanted o (yielded ops a.tmps)=true)(hd:∀ c,o.op=.defer c->b.roundOf=none)
  (hr:(execOp a.eval o).run P w=.ok nx w') (hf:zDy P nx=some bX):
  step P (lone (At b a (.inRegion ops (i::rest)::k)) cs w)=.next (lone bX (At b a (.inRegion ops (i::rest)::k)::cs) w'):=by
 refine step_lone_go ?_;rw[zBB ho hw hd];cases nx<;>simp only[zDy,QA]at hf<;>try (cases hf;done)
 all_goals
  subst hf
  simp[stepG.apply,hr,At]
end
section
variable {P:Program}{b:Frame}{a:Act}{k:List Item}{cs:List Frame}{w:World}
def zSx:step P (lone (At b a (.code .skip::k)) cs w)=.next (lone (At b a k) cs w):=step_lone_go (by simp[stepG,stepG.exec,At])
def zQm{l:Nat}:step P (lone (At b a (.code (.label l)::k)) cs w)=.next (lone (At b a k) cs w):=step_lone_go (by simp[stepG,stepG.exec,At])
def zLe{id:Nat}:step P (lone (At b a (.inBlock id::k)) cs w)=.next (lone (At b a k) cs w):=step_lone_go (by simp[stepG,stepG.exec,At])
def zLP{c:Code}:step P (lone (At b a (.inScope c::k)) cs w)=.next (lone (At b a k) cs w):=step_lone_go (by simp[stepG,stepG.exec,At])
def zQx{x y:Code}:step P (lone (At b a (.code (.seq x y)::k)) cs w)=.next (lone (At b a (.code x:: .code y::k)) cs w):=step_lone_go (by simp[stepG,stepG.exec,At])
def zNB{c:Operand}{x y:Code}{t:Bool}(h:a.eval c=.bool t):
  step P (lone (At b a (.code (.cond c x y)::k)) cs w)=.next (lone (At b a (.code (if t then x else y)::k)) cs w):=
 step_lone_go (by
  have he:=zIH b a (.code (.cond c x y)::k);have:=congrFun he c;simp only[At]at this;simp[stepG,stepG.exec,At,this,h])
def zPv{id:Nat}{c:Code}:step P (lone (At b a (.code (.block id c)::k)) cs w)=.next (lone (At b a (.code c:: .inBlock id::k)) cs w):=step_lone_go (by simp[stepG,stepG.exec,At])
def zH4{c:Code}:step P (lone (At b a (.code (.loop c)::k)) cs w)=.next (lone (At b a (.code c:: .inLoop c::k)) cs w):=step_lone_go (by simp[stepG,stepG.exec,At])
def zNQ{c:Code}:step P (lone (At b a (.inLoop c::k)) cs w)=.next (lone (At b a (.code c:: .inLoop c::k)) cs w):=step_lone_go (by simp[stepG,stepG.exec,At])
def zRP{c:Code}:step P (lone (At b a (.code (.scope c)::k)) cs w)=.next (lone (At b a (.code c:: .inScope c::k)) cs w):=step_lone_go (by simp[stepG,stepG.exec,At])
def zSd{id:Nat}{k':List Item}(h:exitTo id k=some k'):step P (lone (At b a (.code (.exit id)::k)) cs w)=.next (lone (At b a k') cs w):=step_lone_go (by simp[stepG,stepG.exec,At,h])
def zR0{l:Nat}{k':List Item}(h:gotoIn l k=some k'):step P (lone (At b a (.code (.goto l)::k)) cs w)=.next (lone (At b a k') cs w):=step_lone_go (by simp[stepG,stepG.exec,At,h])
def zNL{id:Nat}{ops:Array Oper}:step P (lone (At b a (.code (.region id ops false)::k)) cs w)=.next (lone (At b a (.inRegion ops (List.range ops.size)::k)) cs w):=step_lone_go (by simp[stepG,stepG.exec,At])
def zFf{id:Nat}{ops:Array Oper}:step P (lone (At b a (.code (.region id ops true)::k)) cs w)=
  .next (lone (At b a (.inRegion ops (Region.schedule (P.follows .mixedOrders) ops (w.tape w.drawn (.order b.fn id)))::k)) cs {w with drawn:=w.drawn+1}):=
 step_lone_go (by simp[stepG,stepG.exec,At,choose,Sem.run,Question.forced,Question.cut])
def zCc{ops:Array Oper}:step P (lone (At b a (.inRegion ops []::k)) cs w)=.next (lone (At b a k) cs w):=step_lone_go (by simp[stepG,stepG.exec,At])
def zTg(hr:b.roundOf=none):step P (lone (At b a (.code .ret::k)) cs w)=.next (lone {At b a (.code .ret::k)with mode:= .returning} cs w):=step_lone_go (by simp[stepG,stepG.exec,At,hr])
def zTm(hr:b.roundOf=none):step P (lone (At b a []) cs w)=.next (lone {At b a []with mode:= .returning} cs w):=step_lone_go (by simp[stepG,stepG.exec,At,hr])
def zQs{l:Nat}{w':World}(hr:b.roundOf=some l)(hb:(Instr.beginRound l).run P w=.ok () w'):step P (lone (At b a (.beginRound::k)) cs w)=.next (lone (At b a k) cs w'):=by
 refine step_lone_go ?_;simp only[stepG,stepG.exec,At,hr,Option.elim];simp[stepG.apply,hb,Frame.finish]
def zIW{l:Nat}{c:Frame}{w':World}{v:Value}(hr:b.roundOf=some l)(hk:b.kind=.normal)(he:(Instr.endRound l none).run P w=.ok v w'):
  step P (lone (At b a []) (c::cs) w)=.next (lone (c.finish v) cs w'):=by
 refine step_lone_go ?_;simp[stepG,stepG.exec,At,hr,Sem.runT_eq,he,doReturn,hk]
def zH9{l:Nat}{c:Frame}{w':World}{v:Value}(hr:b.roundOf=some l)(hk:b.kind=.normal)(he:(Instr.endRound l (some .ret)).run P w=.ok v w'):
  step P (lone (At b a (.code .ret::k)) (c::cs) w)=.next (lone (c.finish v) cs w'):=by
 refine step_lone_go ?_;simp[stepG,stepG.exec,At,hr,Sem.runT_eq,he,doReturn,hk]
def zGp{l id:Nat}{c:Frame}{w':World}{v:Value}(hr:b.roundOf=some l)(hk:b.kind=.normal)(hx:exitTo id k=none)(he:(Instr.endRound l (some (.exit id))).run P w=.ok v w'):
  step P (lone (At b a (.code (.exit id)::k)) (c::cs) w)=.next (lone (c.finish v) cs w'):=by
 refine step_lone_go ?_;simp[stepG,stepG.exec,At,hr,hx,Sem.runT_eq,he,doReturn,hk]
def zGe{l g:Nat}{c:Frame}{w':World}{v:Value}(hr:b.roundOf=some l)(hk:b.kind=.normal)(hx:gotoIn g k=none)(he:(Instr.endRound l (some (.goto g))).run P w=.ok v w'):
  step P (lone (At b a (.code (.goto g)::k)) (c::cs) w)=.next (lone (c.finish v) cs w'):=by
 refine step_lone_go ?_;simp[stepG,stepG.exec,At,hr,hx,Sem.runT_eq,he,doReturn,hk]
def zCk{f:FuncId}{fr c:Frame}{v:Value}(h:B5 P f .normal fr v w):step P (lone fr (c::cs) w)=.next (lone (c.finish v) cs w):=by
 obtain⟨hm,hd,hk,rfl,fn,hf,hr⟩:=h;exact step_lone_go (by simp[stepG,unwind,doReturn,hm,hd,hk,hf,hr])
def zEz{f:FuncId}{fr c:Frame}{v:Value}(h:B5 P f .deferred fr v w)(hc:c.mode=.returning):step P (lone fr (c::cs) w)=.next (lone c cs w):=by
 obtain⟨hm,hd,hk,rfl,fn,hf,hr⟩:=h;refine step_lone_go ?_;simp only[stepG,unwind,doReturn,hm,hd,hk,hf,Sem.runT_eq,hr,GStep.bare_after,GStep.bare_go,hc]
end
section
variable {P:Program}{B:Nat}{σ:Nat->Option Pl}{h:WA}{w:World}
def zBF(hr:Wd P B σ h w){l:Nat}{r:W6}(hl:h.get l=some (.loop r)):∃ pl r',σ l=some pl/\w.heap[pl.b]?=some (.loop r')/\B9 P σ r r':=by
 obtain⟨pl,h1,⟨r',h2,h3⟩,_⟩:=hr.live _ _ hl;exact⟨pl,r',h1,h2,h3⟩
def zF5(hr:Wd P B σ h w){l:Nat}{r r2:W6}{r8:Loop}(hl:h.get l=some (.loop r)){pl:Pl}(hp:σ l=some pl)(cZ:B9 P σ r2 r8):
  W2 P B σ h w σ (h.set l (.loop r2)) {w with heap:=w.heap.setIfInBounds pl.b (.loop r8)}:=by
 have aD:pl.b<w.heap.size:=(hr.lt _ _ hp).2;refine hr.put (O':= .loop r8) hl rfl rfl hp ⟨by simp,by simp[aD],fun b ah=> ?_⟩ ⟨rfl,rfl,rfl⟩ ⟨r8,by simp[aD],cZ⟩ (fun g2 o2 b7 _ _ _ _ k=>by cases o2<;>exact k.elim);simp only[Gi];rw[QC ω]
def zNG:∀ {ps:List Nat} {vs gI:List Value} {t:WG Value} {tm:Array Value},(∀ p∈ps,p<tm.size)->ps.length=vs.length->WQ σ vs gI->(∀ k,WI σ (zC t k) (tm.getD k Go.undef))->
  (∀ k,WI σ (zC (zCE ps vs t) k) (((ps.zip gI).foldl (fun tm (t,a)=>tm.setIfInBounds t a) tm).getD k Go.undef))/\((ps.zip gI).foldl (fun tm (t,a)=>tm.setIfInBounds t a) tm).size=tm.size:=by
 intro ps;induction ps with
 |nil=>intro vs gI t tm _ _ _ ht;cases vs<;>exact⟨ht,rfl⟩
 |cons p ps ih=>
  intro vs gI t tm hp hlen hl ht;match vs,gI,hl with
  |[],_,_=>simp at hlen
  |v::vs,[],hl=>have:=hl.1;simp at this
  |v::vs,v'::gI,hl=>
   have hv:=hl.2 0 v v' rfl rfl;have jB:WQ σ vs gI:=⟨by simpa using hl.1,fun i a b h1 h2=>hl.2 (i+1) a b (by simpa using h1) (by simpa using h2)⟩;have tV:p<tm.size:=hp p (QR ..);obtain⟨a1,a2⟩:=ih (t:=t.set p v) (tm:=tm.setIfInBounds p v') (fun q hq=>by simpa using hp q (QW _ hq)) (by simpa using hlen) jB (fun k=>by
    rw[zg,zJz _ _ _ _ tV];split
    ·exact hv
    ·exact ht k)
   exact⟨a1,by rw[List.zip_cons_cons,List.foldl_cons,a2];simp⟩
def zQp:WL->Option Code
 | .normal=>none
 | .ret=>some .ret
 | .exit id=>some (.exit id)
 | .goto g=>some (.goto g)
def zH7{l:Nat}{r:W6}{e:WL}{v:Value}{h':WA}(hr:Wd P B σ h w)(hl:h.get l=some (.loop r)){pl:Pl}(hp:σ l=some pl)(he:Zf l r h e=(v,h')):
  ∃ w' b,v=.bool b/\W2 P B σ h w σ h' w'/\(Instr.endRound pl.b (zQp e)).run P w=.ok (.bool b) w':=by
 obtain⟨xh,r',k1,k2,k3⟩:=zBF hr hl;rw[hp]at k1;cases k1;have key:∀ (st:LoopState) (pn:Option WT) (pC:LoopState) (Cj:Option Code),pC=st->zMn pn Cj->
   W2 P B σ h w σ (h.set l (.loop {r with state:=st,pending:=pn})) (w.putObj pl.b (.loop {r' with state:=pC,pending:=Cj})):=
  fun st pn pC Cj h1 h2=>zF5 hr hl hp ⟨h1,h2,k3.tm,k3.params,k3.code,k3.defers⟩
 have cr:=run_endRound (P:=P) (zQp e) k2;cases e with
 |normal=>
  simp only[Zf,QE]at he;obtain⟨rfl,rfl⟩:=he;exact⟨_,true,rfl,key .ready none _ none rfl trivial,cr⟩
 |ret=>
  simp only[Zf,QE]at he;obtain⟨rfl,rfl⟩:=he;exact⟨_,false,rfl,key .done (some .ret) _ (some .ret) rfl trivial,cr⟩
 |exit id=>
  simp only[Zf,QE]at he;obtain⟨rfl,rfl⟩:=he;exact⟨_,false,rfl,key .done (some (.exit id)) _ (some (.exit id)) rfl rfl,cr⟩
 |goto g=>
  simp only[Zf,QE]at he;obtain⟨rfl,rfl⟩:=he;exact⟨_,false,rfl,key .done (some (.goto g)) _ (some (.goto g)) rfl rfl,cr⟩
def zJj{ih:Ex}(hex:yQ P ih)(hr:Wd P B σ h w){l:Nat}{pl:Pl}(hp:σ l=some pl){r:W6}{r':Loop}(hb:w.heap[pl.b]?=some (.loop r'))(eM:h.get l=some (.loop r))(k3:B9 P σ r r')
  {args bK:List Value} (hl:WQ σ args bK) (hlen:args.length=r.params.length) {v:Value} {h':WA} (hc:zBd ih l r args h=some (v,h')):
  ∃ σ' w' cv,W2 P B σ h w σ' h' w'/\WI σ' v cv/\∀ (c:Frame) (cs:List Frame),
   Steps P (lone (Frame.round pl.b r'.fn ((r'.params.zip bK.toArray).foldl (fun tmps (t,a)=>tmps.setIfInBounds t a) r'.tmps) r'.assign r'.body .normal) (c::cs) w) (lone (c.finish cv) cs w'):=by
 obtain⟨nt,c1,c2,c3,c4⟩:=k3.code;have dr:=zNG (tm:=r'.tmps) (t:=r.tm) (fun p dN=>QG (c2 p dN) c1) hlen.symm hl k3.tm;rw[<-k3.params]at dr;have KM:((r'.params.zip bK.toArray).foldl (fun tmps (t,a)=>tmps.setIfInBounds t a) r'.tmps)=((r'.params.toList.zip bK).foldl (fun tm (t,a)=>tm.setIfInBounds t a) r'.tmps):=by
  rw[<-Array.foldl_toList];simp
 rw[KM];generalize((r'.params.toList.zip bK).foldl (fun tm (t,a)=>tm.setIfInBounds t a) r'.tmps)=tm at dr;unfold zBd at hc;rw[<-k3.params]at hc;split at hc
 ·rename_i a6 h1 pD;split at hc
  ·rename_i r1 fw;have aL:r1.state=.ready:=by
    cases hs:r1.state<;>first|rfl|(rw[hs]at hc;cases hc)
   rw[aL]at hc;dsimp only[cond_true]at hc;split at hc
   ·rename_i e gB h2 pE;split at hc
    ·rename_i r2 Hx dK;cases kW:Zf l r2 h2 e with
     |mk v0 h0=>
     rw[kW]at hc;cases hc;let b:Frame:={(default:Frame)with fn:=r'.fn,kind:= .normal,roundOf:=some pl.b}
     have hF:BC P σ nt ⟨zCE r'.params.toList args r.tm,[],some l⟩ {tmps:=tm,defers:=[]} b:=
      ⟨by rw[dr.2];exact c1,dr.1,trivial,⟨pl,hp,rfl⟩⟩
     obtain⟨σ1,w1,a1,d7,l5,KN,Ck⟩:=hex nt r'.assign r.assign c3 _ h _ _ _ pD B σ w hr _ b hF;obtain⟨Kx,KO,m1,m2,m3⟩:=zBF d7.rel fw;have ig:=d7.le _ _ hp;rw[ig]at m1;cases m1;have pG:=run_beginRound (P:=P) m2 (by rw[m3.state,aL]);have dO:=zF5 (r2:={r1 with state:= .busy}) (r8:={KO with state:= .busy}) d7.rel fw ig ⟨rfl,m3.pending,m3.tm,m3.params,m3.code,m3.defers⟩;obtain⟨σ3,w3,a3,Cl,Sq,KP,Cm⟩:=hex nt r'.body r.body c4 _ _ _ _ _ pE B σ1 _ dO.rel _ b l5;have Hy:=Cl.le _ _ ig;obtain⟨w4,bv,rfl,Cn,cr⟩:=zH7 Cl.rel dK Hy kW;refine⟨σ3,w4,.bool bv,((d7.trans dO).trans Cl).trans Cn,.bool bv,fun c cs=> ?_⟩;have s1:=Ck [.beginRound,.code r'.body] (c::cs) (.inl rfl);have s2:=Cm [] (c::cs) (.inl rfl);refine Steps.trans s1 (.trans (.one (zQs rfl pG)) ?_);cases e with
     |normal=>exact Steps.trans s2 (.one (zIW rfl rfl cr))
     |ret=>obtain⟨k1,s2⟩:=s2;exact Steps.trans s2 (.one (zH9 rfl rfl cr))
     |exit id=>obtain⟨k1,hx,s2⟩:=s2;exact Steps.trans s2 (.one (zGp rfl rfl hx cr))
     |goto g=>obtain⟨k1,hx,s2⟩:=s2;exact Steps.trans s2 (.one (zGe rfl rfl hx cr))
    ·cases hc
   ·cases hc
  ·cases hc
 ·cases hc
def zEg{ih:Ex}(hex:yQ P ih)(aw:yP P ih)(hr:Wd P B σ h w){f f':Value}{args bK:List Value}{v:Value}{h':WA}(hf:WI σ f f')(hl:WQ σ args bK)
  (hc:zBO ih f args h=some (v,h')):
  ∃ nx bX σ' w' cv,((do let d <-Deferred.ofValue f' bK.toArray;invoke d.target d.args):Sem Next).run P w=.ok nx w/\zDy P nx=some bX/\W2 P B σ h w σ' h' w'/\WI σ' v cv/\
   ∀ (c:Frame) (cs:List Frame),Steps P (lone bX (c::cs) w) (lone (c.finish cv) cs w'):=by
 unfold zBO at hc;split at hc
 ·rename_i fi first cap
  obtain⟨h1,h2⟩:=aw _ _ _ _ _ hc;cases hf with
  |func _ ha lY ra rc=>
   rename_i cP cm
   have dK:WQ σ (first.toList++args++cap.toList) (cP.toList++bK++cm.toList):=
    (WQ.append ⟨by simpa using ha,fun i x y hx hy=>ra i x y (by simpa using hx) (by simpa using hy)⟩ hl).append ⟨by simpa using lY,fun i x y hx hy=>rc i x y (by simpa using hx) (by simpa using hy)⟩
   obtain⟨σ',w',cv,e1,e2,e3⟩:=h2 B σ w hr (cP++bK.toArray++cm) (by simpa using dK) .normal (.inl rfl);refine⟨.enter fi (cP++bK.toArray++cm),_,σ',w',cv,?_,rfl,e1,e2,fun c cs=> ?_⟩
   ·simp[Deferred.ofValue,invoke,h1]
   ·obtain⟨ae,e4,e5⟩:=e3 (c::cs) (.inl rfl);exact e4.trans (.one (zCk e5))
 ·rename_i l first cap
  split at hc
  ·rename_i r eM;cases hlen:Nat.beq args.length r.params.length with
   |false=>simp[hlen]at hc
   |true=>
   simp only[hlen,cond_true]at hc;have hlen:=QN hlen;cases hf with
   |yield hp=>
    rename_i pl;obtain⟨xh,r',k1,k2,k3⟩:=zBF hr eM;rw[hp]at k1;cases k1;obtain⟨σ',w',cv,e1,e2,e3⟩:=zJj hex hr hp k2 eM k3 hl hlen hc;have hsz:bK.toArray.size=r'.params.size:=by
     have:=congrArg List.length k3.params;simp only[Array.length_toList]at this;simp[<-hl.1,hlen,this]
    refine⟨.round pl.b r'.fn ((r'.params.zip bK.toArray).foldl (fun tmps (t,a)=>tmps.setIfInBounds t a) r'.tmps) r'.assign r'.body,_,σ',w',cv,?_,rfl,e1,e2,e3⟩;have:=run_yield (P:=P) k2 hsz;simp only[G2]at hsz;simp[Deferred.ofValue,invoke,this]
  ·cases hc
 ·cases hc
end
section
variable {P:Program}{B:Nat}{σ:Nat->Option Pl}{h:WA}{w:World}
def zCw{nt:Nat}{ops:Array Oper}{o:Oper}{ao:WE}(hc:zD5 P nt ops o=some ao):
  (∀ d,o.dst=some d->d<nt)/\ao.dst=o.dst/\ao.op=(SW P o).getD .stuck/\
   ((o.guard=none/\ao.guard=none)\/∃ j want s,o.guard=some (j,want)/\(ops[j]?).bind (·.dst)=some s/\ao.guard=some (s,want)):=by
 have key:∀ (x:Option WE),x=(match o.guard with
   |none=>some ⟨o.dst,none,(SW P o).getD .stuck⟩
   |some (j,want)=>match(ops[j]?).bind (·.dst)with
    |some s=>some ⟨o.dst,some (s,want),(SW P o).getD .stuck⟩
    |none=>none)->x=some ao->ao.dst=o.dst/\ao.op=(SW P o).getD .stuck/\
   ((o.guard=none/\ao.guard=none)\/∃ j want s,o.guard=some (j,want)/\(ops[j]?).bind (·.dst)=some s/\ao.guard=some (s,want)):=by
  intro x hx l7;subst l7;cases hg:o.guard with
  |none=>
   rw[hg]at hx;cases hx;exact⟨rfl,rfl,.inl ⟨rfl,rfl⟩⟩
  |some p=>
   obtain⟨j,want⟩:=p;rw[hg]at hx;cases hs:(ops[j]?).bind (·.dst)with
   |none=>simp only[hs]at hx;cases hx
   |some s=>
    simp only[hs]at hx;cases hx;exact⟨rfl,rfl,.inr ⟨j,want,s,rfl,hs,rfl⟩⟩
 unfold zD5 at hc;cases hd:o.dst with
 |none=>
  simp only[hd,cond_true]at hc;have k:=key _ (by first|(rw[hd];done)|(rw[hd];rfl)) hc;rw[hd]at k;exact⟨(fun d e=>by cases e),k⟩
 |some d=>
  cases hl:Nat.ble (d+1) nt with
  |false=>simp[hd,hl]at hc
  |true=>
   simp only[hd,hl,cond_true]at hc;have k:=key _ (by first|(rw[hd];done)|(rw[hd];rfl)) hc;rw[hd]at k;exact⟨fun d' e=>by cases e;exact QP hl,k⟩
def zHf{nt:Nat}{ops:Array Oper}{o:Oper}{ao:WE}(hc:zD5 P nt ops o=some ao){t:WG Value}{a:Act}(ht:∀ k,WI σ (zC t k) (a.tmps.getD k Go.undef)):
  Region.wanted o (yielded ops a.tmps)=zP t ao.guard:=by
 obtain⟨_,_,_,hg⟩:=zCw hc;unfold Region.wanted zP;rcases hg with⟨h1,h2⟩|⟨j,want,s,h1,h2,h3⟩
 ·rw[h1,h2]
 ·rw[h1,h3];have hv:=ht s;simp only[yielded,h2,QV];rw[GD]at hv;generalize zC t s=x at hv;cases hx:a.tmps[s]? with
  |none=>
   rw[hx]at hv;simp only[Gv,Go.undef]at hv;cases hv;simp
  |some y=>
   rw[hx]at hv;simp only[GG]at hv;cases hv<;>simp
def zDz:Wz->Bool
 | .call .. | .dfr .. | .dfrClear .. | .invoke .. | .recover=>true
 |_=>false
def zTV{o:Oper}{op:Wz}(hc:SW P o=some op):∀ x∈o.op.operands.toList,Zm P x=true:=by
 unfold SW at hc;cases aS:zCs P o.op.operands.toList with
 |false=>simp[aS]at hc
 |true=>exact fun x hx=>QX.1 aS x hx
def zFS{b:Builtin}{args:List Operand}{ts:List TypeId}{op:Wz}(hc:zAh P b args ts=some op):zDz op=false:=by
 unfold zAh at hc;simp only[GL]at hc;repeat' split at hc
 all_goals first
  |(cases hc;done)
  |(cases hc;rfl)
  |(simp only[QT]at hc;obtain⟨_,_,rfl⟩:=hc;rfl)
def zE0{b:Builtin}{args:List Operand}{ts:List TypeId}{op:Wz}(hc:zAV P b args ts=some op):(b=.recover/\args=[]/\op=.recover)\/zDz op=false:=by
 unfold zAV at hc;split at hc
 ·cases hc;exact .inr rfl
 ·cases hc;exact .inr rfl
 ·cases hc;exact .inr rfl
 ·cases hc;exact .inl ⟨rfl,rfl,rfl⟩
 ·exact .inr (zFS hc)
def zOx{o:Oper}{op:Wz}(hc:SW P o=some op)(hk:zDz op=true):(∃ c,o.op=.call c)\/∃ c,o.op=.defer c:=by
 unfold SW at hc;cases aS:zCs P o.op.operands.toList with
 |false=>simp[aS]at hc
 |true=>
  simp only[aS,Qe,QU]at hc;clear aS;cases hq:o.op with
  |call c=>exact .inl ⟨c,rfl⟩
  |defer c=>exact .inr ⟨c,rfl⟩
  |_=>
   exfalso;try simp only[hq,GL]at hc
   repeat' split at hc
   all_goals first
    |(cases hc;done)
    |(cases hc;cases hk;done)
    |(simp only[QT]at hc;obtain⟨_,_,rfl⟩:=hc;cases hk;done)
    |(simp_all;done)
def zKC{o:Oper}{op:Wz}{c:Call}(hc:SW P o=some op)(hq:o.op=.call c):(∃ f,c.callee=.value f/\op=.call f c.args.toList)\/(∃ x n,c.callee=.invoke x n/\op=.invoke x n c.args.toList)\/(c.callee=.builtin .recover/\c.args.toList=[]/\op=.recover)\/zDz op=false:=by
 unfold SW at hc;cases aS:zCs P o.op.operands.toList with
 |false=>simp[aS]at hc
 |true=>
  simp only[aS,Qe,QU]at hc;clear aS;simp only[hq]at hc;split at hc
  ·rename_i f hf;rcases zDD (P:=P) f c.args.toList with q|⟨g,x,rt,_,_,_,_,q⟩
   ·rw[q]at hc;cases hc;exact .inl ⟨f,hf,rfl⟩
   ·rw[q]at hc;cases hc;exact .inr (.inr (.inr rfl))
  ·rename_i b hb;rcases zE0 hc with⟨rfl,q1,q2⟩|q
   ·exact .inr (.inr (.inl ⟨hb,q1,q2⟩))
   ·exact .inr (.inr (.inr q))
  ·rename_i x n hx;cases hc;exact .inr (.inl ⟨x,n,hx,rfl⟩)
def zBg{o:Oper}{op:Wz}{c:Call}(hc:SW P o=some op)(hq:o.op=.defer c):
  (∃ f,c.callee=.value f/\op=.dfr f c.args.toList)\/
  (∃ m t kt e,c.callee=.builtin .clear/\c.args=#[m]/\c.argTypes=#[t]/\P.underlying t=some (.map kt e)/\op=.dfrClear t o.type (c.args.map fun| .const _=>true|_=>false) m):=by
 unfold SW at hc;cases aS:zCs P o.op.operands.toList with
 |false=>simp[aS]at hc
 |true=>
  simp only[aS,Qe,QU]at hc;clear aS;simp only[hq]at hc;split at hc
  ·rename_i f hf;cases hc;exact .inl ⟨f,hf,rfl⟩
  ·rename_i aO;split at hc
   ·rename_i m t hm ht;split at hc
    ·rename_i kt e hu;cases hc;exact .inr ⟨m,t,kt,e,aO,by rw[<-Gy (xs:=c.args),hm],by rw[<-Gy (xs:=c.argTypes),ht],hu,rfl⟩
    ·cases hc
   ·cases hc
  ·cases hc
def zAo{ih:Ex}(hex:yQ P ih)(aw:yP P ih){nt:Nat}{ops:Array Oper}{i:Nat}{o:Oper}{ao:WE}(ho:ops[i]?=some o)(hc:zD5 P nt ops o=some ao)
  (hr:Wd P B σ h w) {fr ae:WM} {a:Act} {b:Frame} (hF:BC P σ nt fr a b) {h':WA} (hx:yO P ih ao fr h=some (ae,h')):
  ∃ σ' w' a',W2 P B σ h w σ' h' w'/\BC P σ' nt ae a' b/\ae.round=fr.round/\
   ∀ (rest:List Nat) (k:List Item) (cs:List Frame),zBn b cs->Steps P (lone (At b a (.inRegion ops (i::rest)::k)) cs w) (lone (At b a' (.inRegion ops rest::k)) cs w'):=by
 obtain⟨s1,s2,s3,_⟩:=zCw hc;have hw:=zHf hc hF.tm;unfold yO at hx;cases sd:zP fr.tm ao.guard with
 |false=>
  simp only[sd,QU,QA,QE]at hx;obtain⟨rfl,rfl⟩:=hx;refine⟨σ,w,a.put o.dst Go.undef,.refl hr,?_,?_,fun rest k cs aY=> ?_⟩
  ·rw[s2];exact hF.val s1 (WI.undef σ)
  ·cases ao.dst<;>rfl
  ·have:=zLw (P:=P) (b:=b) (a:=a) (k:=k) (cs:=cs) (w:=w) (ops:=ops) (i:=i) (rest:=rest) (by rw[ho];simp[hw,sd]);rw[ho]at this;exact .one this
 |true=>
  simp only[sd,cond_true]at hx;rw[sd]at hw;cases hv:zy P ih fr.tm fr.round h ao.op with
  |none=>simp[hv]at hx
  |some r=>
  obtain⟨v,ds,h1⟩:=r;simp only[hv,QA,QE]at hx;obtain⟨rfl,rfl⟩:=hx;have gD:(val ao.dst {fr with dfs:=ds++fr.dfs} v).round=fr.round:=by cases ao.dst<;>rfl
  cases dt:SW P o with
  |none=>
   rw[dt,Gv]at s3;rw[s3]at hv;simp[zy,WK]at hv
  |some op=>
  rw[dt,GG]at s3;subst s3;have aS:=zTV dt;have E:∀ x∈o.op.operands.toList,WI σ (ev fr.tm x) (a.eval x):=fun x hx=>zBA hr hF.tm (aS x hx);have fin:∀ {σ' w' cv},W2 P B σ h w σ' h1 w'->WI σ' v cv->ds=[]->
    (∀ (rest:List Nat) (k:List Item) (cs:List Frame),zBn b cs->Steps P (lone (At b a (.inRegion ops (i::rest)::k)) cs w) (lone (At b (a.put o.dst cv) (.inRegion ops rest::k)) cs w'))->
    ∃ σ' w' a',W2 P B σ h w σ' h1 w'/\BC P σ' nt (val ao.dst {fr with dfs:=ds++fr.dfs} v) a' b/\(val ao.dst {fr with dfs:=ds++fr.dfs} v).round=fr.round/\
     ∀ (rest:List Nat) (k:List Item) (cs:List Frame),zBn b cs->Steps P (lone (At b a (.inRegion ops (i::rest)::k)) cs w) (lone (At b a' (.inRegion ops rest::k)) cs w'):=by
   intro σ' w' cv e1 e2 e3 e4;subst e3;exact⟨σ',w',a.put o.dst cv,e1,by rw[s2];exact(hF.mono e1.le).val s1 e2,gD,e4⟩
  cases aZ:zDz ao.op with
  |false=>
   have hnd:∀ c,o.op=.defer c->b.roundOf=none:=fun c hq=>by
    rcases zBg dt hq with⟨f,_,e⟩|⟨m,t,kt,e',_,_,_,_,e⟩<;>rw[e]at aZ<;>cases aZ
   have Co:∃ v0,WK P ih fr.tm h ao.op=some (v,v0)/\h1=v0/\ds=[]:=by
    unfold zy at hv;split at hv
    ·rename_i e;rw[e]at aZ;cases aZ
    ·rename_i e;rw[e]at aZ;cases aZ
    ·rename_i e;rw[e]at aZ;cases aZ
    ·cases hx:WK P ih fr.tm h ao.op with
     |none=>simp[hx]at hv
     |some p=>
      obtain⟨v0,h0⟩:=p;simp only[hx,QA,QE]at hv;obtain⟨rfl,rfl,rfl⟩:=hv;exact⟨_,rfl,rfl,rfl⟩
   obtain⟨v0,hv1,rfl,nq⟩:=Co;obtain⟨σ',w',Cp,gJ⟩:=zSu hr hF.tm dt ⟨(fun f args e=>by rw[e]at aZ;cases aZ),(fun x n args e=>by rw[e]at aZ;cases aZ)⟩ hv1;rcases Cp with⟨cv,h2,h3⟩|⟨h2,h3⟩
   ·exact fin gJ h3 nq fun rest k cs aY=> .one (zC3 ho hw hnd h2)
   ·subst h3;exact fin gJ (WI.undef _) nq fun rest k cs aY=> .one (zN8 ho hw hnd h2)
  |true=>
   rcases zOx dt aZ with⟨c,hq⟩|⟨c,hq⟩
   ·rcases zKC dt hq with⟨f,hf,he⟩|⟨x,name,hf,he⟩|⟨hf,hargs,he⟩|he
    ·have hnd:∀ c,o.op=.defer c->b.roundOf=none:=fun c' di=>by rw[hq]at di;cases di
     rw[he]at hv;simp only[zy,WK]at hv;have fK:∀ x,x=f\/x∈c.args->x∈o.op.operands.toList:=fun x hx=>by
      rw[hq];simp only[Op.operands,Call.operands,hf];rcases hx with rfl|hx<;>simp[*]
     cases jE:zBO ih (ev fr.tm f) (c.args.toList.map (ev fr.tm)) h with
     |none=>simp[jE]at hv
     |some p=>
      obtain⟨v0,h0⟩:=p;simp only[jE,QA,QE]at hv;obtain⟨rfl,rfl,rfl⟩:=hv;have hargs:WQ σ (c.args.toList.map (ev fr.tm)) (c.args.toList.map a.eval):=
       zBc hr hF.tm fun x hx=>aS x (fK x (.inr (by simpa using hx)))
      obtain⟨nx,bX,σ',w',cv,r1,r2,r3,r4,r5⟩:=zEg hex aw hr (E f (fK f (.inl rfl))) hargs jE;refine fin r3 r4 rfl fun rest k cs aY=> ?_;have aM:(execOp a.eval o).run P w=.ok nx w:=by
       have:(c.args.toList.map a.eval).toArray=c.args.map a.eval:=by rw[<-Array.toList_map,Gy]
       rw[this]at r1;simp only[execOp,hq,resolve,hf];exact r1
      have:=r5 (At b a (.inRegion ops (i::rest)::k)) cs;rw[Yw,ho]at this;exact Steps.trans (.one (zHE ho hw hnd aM r2)) this
    ·have hnd:∀ c,o.op=.defer c->b.roundOf=none:=fun c' di=>by rw[hq]at di;cases di
     rw[he]at hv;simp only[zy]at hv;have fK:∀ y,y=x\/y∈c.args->y∈o.op.operands.toList:=fun y hy=>by
      rw[hq];simp only[Op.operands,Call.operands,hf];rcases hy with rfl|hy<;>simp[*]
     have hargs:WQ σ (c.args.toList.map (ev fr.tm)) (c.args.toList.map a.eval):=
      zBc hr hF.tm fun y hy=>aS y (fK y (.inr (by simpa using hy)))
     have e1:=E x (fK x (.inl rfl));have ua:∀ {R:Result Next},(callMethod (a.eval x) name (c.args.map a.eval)).run P w=R->(execOp a.eval o).run P w=R:=by
      intro R hR;simp only[execOp,hq,resolve,hf,Sem.run_bind,Sem.run_pure,Result.andThen_ok,invoke];have h1:((#[a.eval x]++c.args.map a.eval:Array Value)[0]?:Option Value)=some (a.eval x):=by
       rw[Array.getElem?_append_left (by simp)];rfl
      have h2:(#[a.eval x]++c.args.map a.eval:Array Value).extract 1 (#[a.eval x]++c.args.map a.eval:Array Value).size=c.args.map a.eval:=by
       apply JT;rw[Array.toList_extract];simp;exact Q3 (by simp)
      rw[h1,h2];exact hR
     cases fL:WK P ih fr.tm h (.invoke x name c.args.toList)with
     |none=>simp[fL]at hv
     |some p=>
      obtain⟨v0,h0⟩:=p;simp only[fL,QA,QE]at hv;obtain⟨rfl,rfl,rfl⟩:=hv;simp only[WK]at fL;unfold zAu at fL;split at fL
      ·rename_i ty u cw;split at fL
       ·rename_i f KQ;obtain⟨k1,k2⟩:=aw _ _ _ _ _ fL;rw[cw]at e1;obtain⟨u',pw,KR⟩:∃ u',a.eval x=.iface ty u'/\WI σ u u':=by
         generalize a.eval x=q at e1;cases e1 with
         |iface _ q=>exact⟨_,rfl,q⟩
        obtain⟨σ',w',cv,r1,r2,r3⟩:=k2 B σ w hr (#[u']++c.args.map a.eval) (by simpa using WQ.cons KR hargs) .normal (.inl rfl);refine fin r1 r2 rfl fun rest k cs aY=> ?_;have jz:∃ n,P.types.size+Made.depth=n+1:=⟨P.types.size+Made.depth-1,by have:0<Made.depth:=(by decide);omega⟩;obtain⟨n,hn⟩:=jz;have kR:=zEl (w:=w) KQ u' n;rw[<-hn]at kR;have aM:(execOp a.eval o).run P w=.ok (.enter f (#[u']++c.args.map a.eval)) w:=by
         refine ua ?_;rw[pw];simp only[callMethod,program,Sem.run_bind,Sem.run,Result.andThen,kR];exact k1 _ w
        obtain⟨ae,e4,e5⟩:=r3 (At b a (.inRegion ops (i::rest)::k)::cs) (.inl rfl);have hs:=zCk (cs:=cs) (c:=At b a (.inRegion ops (i::rest)::k)) e5;rw[Yw,ho]at hs;exact Steps.trans (.one (zHE ho hw hnd aM rfl)) (Steps.trans e4 (.one hs))
       ·cases fL
      ·rename_i u KS;split at fL
       ·rename_i G rt ty jc;generalize ub:(name == "Comparable"&&(List.map (ev fr.tm) c.args.toList).isEmpty)=cn at fL;cases cn with
        |false=>cases fL
        |true=>
        simp only[cond_true,QT,QE]at fL;obtain⟨bv,hb,rfl,rfl⟩:=fL;simp only[QI,JN]at ub;obtain⟨rfl,Cq⟩:=ub;have pH:c.args=#[]:=by simpa using Cq
        have eS:a.eval x=.iface rt (.agg #[.pointer (some ⟨G,ty,none⟩)]):=by
         clear KS;generalize ev fr.tm x=q at e1 jc;generalize a.eval x=y at e1;cases e1<;>simp only[zI3,reduceCtorEq]at jc;simp only[QA,QE]at jc;obtain⟨rfl,rfl,rfl⟩:=jc;rfl
        refine fin (.refl hr) (.bool bv) rfl fun rest k cs aY=> .one (zC3 ho hw hnd (ua ?_));rw[eS];exact zFO hb _ (by simp[pH])
       ·cases fL
    ·have hnd:∀ c,o.op=.defer c->b.roundOf=none:=fun c' di=>by rw[hq]at di;cases di
     rw[he]at hv;simp only[zy]at hv;split at hv
     ·rename_i jF;simp only[QA,QE]at hv;obtain⟨rfl,rfl,rfl⟩:=hv;have k7:b.roundOf=none:=by have:=hF.round;rw[jF]at this;exact this
      have aM:(execOp a.eval o).run P w=.ok .recover w:=by
       simp only[execOp,hq,resolve,hf,Sem.run_bind,Sem.run_pure,Result.andThen_ok,invoke,builtin]
      exact fin (.refl hr) .nilIface rfl fun rest k cs aY=> .one (zH2 ho hw hnd aM k7 aY)
     ·cases hv
    ·rw[he]at aZ;cases aZ
   ·have KU:∀ d dT:Deferred,True:=fun _ _=>trivial;rcases zBg dt hq with⟨f,hf,he⟩|⟨m,t,kt,e,hf,hargs,l4,hu,he⟩
    ·rw[he]at hv;simp only[zy]at hv;split at hv
     ·rename_i fi first cap jF KV
      simp only[QA,QE]at hv;obtain⟨rfl,rfl,rfl⟩:=hv;have k7:b.roundOf=none:=by have:=hF.round;rw[jF]at this;exact this
      have fK:∀ x,x=f\/x∈c.args->x∈o.op.operands.toList:=fun x hx=>by
       rw[hq];simp only[Op.operands,Call.operands,hf];rcases hx with rfl|hx<;>simp[*]
      have hargs:WQ σ (c.args.toList.map (ev fr.tm)) (c.args.toList.map a.eval):=
       zBc hr hF.tm fun x hx=>aS x (fK x (.inr (by simpa using hx)))
      have jG:=E f (fK f (.inl rfl));rw[KV]at jG;cases Cr:a.eval f with
      |func fy cP cm=>
       rw[Cr]at jG;cases jG with
       |func _ ha lY ra rc=>
       have aM:(execOp a.eval o).run P w=.ok (.defer {target:= .fn (.func fi) cm,args:=cP++c.args.map a.eval}) w:=by
        simp only[execOp,hq,resolve,hf,Cr];simp[Deferred.ofValue]
       refine⟨σ,w,_,.refl hr,?_,gD,fun rest k cs aY=> .one (zEc ho hw (fun c _=>k7) aM)⟩;rw[s2];have hd0:DRel P σ {target:= .fn (.func fi) cap,args:=first++(c.args.toList.map (ev fr.tm)).toArray} {target:= .fn (.func fi) cm,args:=cP++c.args.map a.eval}:= ?_;exact BC.val (fr:={fr with dfs:=_::fr.dfs}) (a:={a with defers:=_::a.defers}) ⟨hF.size,hF.tm,And.intro hd0 hF.dfs,hF.round⟩ s1 (WI.undef σ);refine⟨cm,rfl,⟨by simpa using lY,fun i x y hx hy=>rc i x y (by simpa using hx) (by simpa using hy)⟩,?_⟩;have:=WQ.append (σ:=σ) (a:=first.toList) (a':=cP.toList) ⟨by simpa using ha,fun i x y hx hy=>ra i x y (by simpa using hx) (by simpa using hy)⟩ hargs;simpa using this
      |_=>rw[Cr]at jG;cases jG
     ·cases hv
    ·rw[he]at hv;simp only[zy]at hv;split at hv
     ·rename_i g jF KX;simp only[QA,QE]at hv;obtain⟨rfl,rfl,rfl⟩:=hv;have k7:b.roundOf=none:=by have:=hF.round;rw[jF]at this;exact this
      have kR:=E m (by rw[hq];simp[Op.operands,Call.operands,hargs,hf]);rw[KX]at kR;have aM:(execOp a.eval o).run P w=.ok (.defer {target:= .builtin .clear #[t] o.type (c.args.map fun| .const _=>true|_=>false),args:=#[a.eval m]}) w:=by
       simp only[execOp,hq,resolve,hf,l4];simp[hargs];cases m<;>rfl
      refine⟨σ,w,_,.refl hr,?_,gD,fun rest k cs aY=> .one (zEc ho hw (fun c _=>k7) aM)⟩;rw[s2];have hd0:DRel P σ {target:= .builtin .clear #[t] o.type (c.args.map fun| .const _=>true|_=>false),args:=#[.map (some g)]}
        {target:= .builtin .clear #[t] o.type (c.args.map fun| .const _=>true|_=>false),args:=#[a.eval m]}:=⟨t,kt,e,rfl,hu,rfl,WQ.cons kR (WQ.nil _)⟩
      exact BC.val (fr:={fr with dfs:=_::fr.dfs}) (a:={a with defers:=_::a.defers}) ⟨hF.size,hF.tm,And.intro hd0 hF.dfs,hF.round⟩ s1 (WI.undef σ)
     ·cases hv
end
def Vg{P:Program}{m m1 m2:Machine}(h:Steps P m m2)(ah:m≠m2)(hs:step P m=.next m1):Steps P m1 m2:=by
 obtain⟨n,hn⟩:=h;cases n with
 |zero=>simp[runN]at hn;exact absurd hn ah
 |succ n=>exact⟨n,by simpa [runN,hs]using hn⟩
section
variable {P:Program}{B:Nat}{σ:Nat->Option Pl}{h:WA}{w:World}
def zIU{ih:Ex}(hex:yQ P ih)(aw:yP P ih){nt:Nat}{ops:Array Oper}{b:Frame}:∀ (l:List Oper) (j:Nat) (as:List WE) {σ:Nat->Option Pl} {h:WA} {w:World} {fr ae:WM} {a:Act} {h':WA},
  (∀ i o,l[i]?=some o->ops[j+i]?=some o)->Yy P nt ops l=some as->Wd P B σ h w->BC P σ nt fr a b->yd P ih as fr h=some (ae,h')->
  ∃ σ' w' a',W2 P B σ h w σ' h' w'/\BC P σ' nt ae a' b/\ae.round=fr.round/\
   ∀ (k:List Item) (cs:List Frame),zBn b cs->Steps P (lone (At b a (.inRegion ops (List.range' j l.length)::k)) cs w) (lone (At b a' (.inRegion ops []::k)) cs w'):=by
 intro l;induction l with
 |nil=>
  intro j as σ h w fr ae a h' _ hc hr hF hx;simp only[Yy,QA]at hc;subst hc;simp only[yd,QA,QE]at hx;obtain⟨rfl,rfl⟩:=hx;exact⟨σ,w,a,.refl hr,hF,rfl,fun k cs aY=>Steps.refl P _⟩
 |cons o l cj=>
  intro j as σ h w fr ae a h' hl hc hr hF hx;simp only[Yy]at hc;cases h1:zD5 P nt ops o with
  |none=>simp[h1]at hc
  |some ao=>
  cases h2:Yy P nt ops l with
  |none=>simp[h1,h2]at hc
  |some Hz=>
  simp only[h1,h2,QA]at hc;subst hc;simp only[yd]at hx;cases h3:yO P ih ao fr h with
  |none=>simp[h3]at hx
  |some p=>
  obtain⟨a6,uc⟩:=p;simp only[h3]at hx;obtain⟨σ1,w1,a1,e1,F1,rd1,bZ⟩:=zAo hex aw (i:=j) (by simpa using hl 0 o rfl) h1 hr hF h3;obtain⟨σ2,w2,a2,e2,F2,je,cz⟩:=cj (j+1) Hz (fun i o' hi=>by have:=hl (i+1) o' (by simpa using hi);rw[<-this];congr 1;omega) h2 e1.rel F1 hx;refine⟨σ2,w2,a2,e1.trans e2,F2,je.trans rd1,fun k cs aY=> ?_⟩;rw[Qn,List.range'_succ];exact Steps.trans (bZ _ k cs aY) (cz k cs aY)
def zIc{ih:Ex}(hex:yQ P ih)(aw:yP P ih){nt id:Nat}{ops:Array Oper}{b:Frame}{as:List WE}{fr ae:WM}{a:Act}{h':WA}
  (hc:Yy P nt ops ops.toList=some as) (hr:Wd P B σ h w) (hF:BC P σ nt fr a b) (hx:yd P ih as fr h=some (ae,h')):
  ∃ σ' w' a',W2 P B σ h w σ' h' w'/\BC P σ' nt ae a' b/\ae.round=fr.round/\
   ∀ (k:List Item) (cs:List Frame),zBn b cs->Steps P (lone (At b a (.code (.region id ops false)::k)) cs w) (lone (At b a' k) cs w'):=by
 obtain⟨σ1,w1,a1,e1,F1,rd1,bZ⟩:=zIU hex aw ops.toList 0 as (fun i o hi=>by simpa using hi) hc hr hF hx;refine⟨σ1,w1,a1,e1,F1,rd1,fun k cs aY=> ?_⟩;refine Steps.trans (.one zNL) (.trans ?_ (.one (zCc (ops:=ops))));have:=bZ k cs aY;rw[<-List.range_eq_range']at this;simpa using this
def zCg{nt:Nat}:∀ {c:Code} {ac:WT} {l:Nat},yN P nt c=some ac->
  (findLabel c l=none/\yG ac l=none)\/∃ r r',findLabel c l=some r/\yG ac l=some r'/\yN P nt r=some r':=by
 intro c;induction c with
 |seq x y KZ La=>
  intro ac l hc;simp only[yN]at hc;cases h1:yN P nt x with
  |none=>simp[h1]at hc
  |some ax=>
  cases h2:yN P nt y with
  |none=>simp[h1,h2]at hc
  |some ay=>
  simp only[h1,h2,QA]at hc;subst hc;simp only[findLabel,yG];rcases KZ (l:=l) h1 with⟨a1,a2⟩|⟨r,r',a1,a2,a3⟩
  ·rw[a1,a2];exact La (l:=l) h2
  ·rw[a1,a2];exact .inr ⟨_,_,rfl,rfl,by simp[yN,a3,h2]⟩
 |label l'=>
  intro ac l hc;simp only[yN,QA]at hc;subst hc;simp only[findLabel,yG];by_cases e:l' == l
  ·simp only[e,Qz];exact .inr ⟨_,_,rfl,rfl,rfl⟩
  ·simp only[e];exact .inl ⟨rfl,rfl⟩
 |_=>
  intro ac l hc;refine .inl ⟨rfl,?_⟩;simp only[yN,GL]at hc;repeat' split at hc
  all_goals first
   |(cases hc;done)
   |(cases hc;rfl)
   |(simp only[QT]at hc;obtain⟨_,_,rfl⟩:=hc;rfl)
   |(simp only[zHD,GL]at hc;split at hc<;>cases hc;rfl)
def VU{m m1:Machine}{b:Frame}{k:List Item}{cs:List Frame}{e:WL}{a:Act}{w:World}(hs:Steps P m m1)(h:Arr P m1 b k cs e a w):Arr P m b k cs e a w:=by
 cases e with
 |normal=>exact Steps.trans hs h
 |ret=>obtain⟨k1,h⟩:=h;exact⟨k1,Steps.trans hs h⟩
 |exit id=>obtain⟨k1,h1,h2⟩:=h;exact⟨k1,h1,Steps.trans hs h2⟩
 |goto l=>obtain⟨k1,h1,h2⟩:=h;exact⟨k1,h1,Steps.trans hs h2⟩
def zFm(P:Program)(B:Nat)(σ:Nat->Option Pl)(h:WA)(w:World)(nt:Nat)(c:Code)(fr:WM)(a:Act)(b:Frame)(e:WL)(ae:WM)(h':WA):Prop:=
 ∃ σ' w' a',W2 P B σ h w σ' h' w'/\BC P σ' nt ae a' b/\ae.round=fr.round/\∀ (k:List Item) (cs:List Frame),zBn b cs->Arr P (lone (At b a (.code c::k)) cs w) b k cs e a' w'
def zKA{ih:Ex}(hex:yQ P ih){nt:Nat}{c0:Code}{xo:WT}(a8:yN P nt c0=some xo){b:Frame}:∀ (n:Nat) {c:Code} {ac:WT} {σ:Nat->Option Pl} {h:WA} {w:World} {fr ae:WM} {a:Act} {e:WL} {h':WA},
  yN P nt c=some ac->Wd P B σ h w->BC P σ nt fr a b->Z5 ih n xo ac fr h=some (e,ae,h')->
  ∃ σ' w' a',W2 P B σ h w σ' h' w'/\BC P σ' nt ae a' b/\ae.round=fr.round/\∀ (k:List Item) (cs:List Frame),zBn b cs->Arr P (lone (At b a (.code c:: .inScope c0::k)) cs w) b k cs e a' w':=by
 intro n;induction n with
 |zero=>intro c ac σ h w fr ae a e h' _ _ _ hx;simp[Z5]at hx
 |succ n k8=>
  intro c ac σ h w fr ae a e h' hc hr hF hx;simp only[Z5]at hx;have leave:∀ {e0 bX h0},ih.exec ac fr h=some (e0,bX,h0)->(∀ l,e0=.goto l->yG xo l=none)->
    ∃ σ' w' a',W2 P B σ h w σ' h0 w'/\BC P σ' nt bX a' b/\bX.round=fr.round/\∀ (k:List Item) (cs:List Frame),zBn b cs->Arr P (lone (At b a (.code c:: .inScope c0::k)) cs w) b k cs e0 a' w':=by
   intro e0 bX h0 cw dy;obtain⟨σ1,w1,a1,e1,F1,rd1,bZ⟩:=hex nt c ac hc fr h e0 bX h0 cw B σ w hr a b hF;refine⟨σ1,w1,a1,e1,F1,rd1,fun k cs aY=> ?_⟩;have:=bZ (.inScope c0::k) cs aY;cases e0 with
   |normal=>exact Steps.trans this (.one zLP)
   |ret=>exact this
   |exit id=>obtain⟨k1,h1,h2⟩:=this;exact⟨k1,h1,h2⟩
   |goto l=>
    obtain⟨k1,h1,h2⟩:=this;have hn:findLabel c0 l=none:=by
     rcases zCg (l:=l) a8 with⟨q,_⟩|⟨r,r',_,q,_⟩
     ·exact q
     ·rw[dy l rfl]at q;cases q
    exact⟨k1,by rw[h1];simp[gotoIn,hn],h2⟩
  cases cw:ih.exec ac fr h with
  |none=>simp[cw]at hx
  |some p=>
  obtain⟨e0,bX,h0⟩:=p;rw[cw]at hx;cases e0 with
  |goto l=>
   simp only at hx;cases bF:yG xo l with
   |none=>
    simp only[bF,QA,QE]at hx;obtain⟨rfl,rfl,rfl⟩:=hx;exact leave cw fun l' e=>by cases e;exact bF
   |some rest=>
    simp only[bF]at hx;rcases zCg (l:=l) a8 with⟨_,q⟩|⟨r,r',q1,q2,q3⟩
    ·rw[bF]at q;cases q
    ·rw[bF]at q2;cases q2;obtain⟨σ1,w1,a1,e1,F1,rd1,bZ⟩:=hex nt c ac hc fr h _ bX h0 cw B σ w hr a b hF;obtain⟨σ2,w2,a2,e2,F2,je,cz⟩:=k8 q3 e1.rel F1 hx;refine⟨σ2,w2,a2,e1.trans e2,F2,je.trans rd1,fun k cs aY=> ?_⟩;obtain⟨k1,h1,h2⟩:=bZ (.inScope c0::k) cs aY;have hg:gotoIn l k1=some (.code r:: .inScope c0::k):=by rw[h1];simp[gotoIn,q1]
     exact VU (Steps.trans h2 (.one (zR0 hg))) (cz k cs aY)
  |normal=>
   simp only[QA,QE]at hx;obtain⟨rfl,rfl,rfl⟩:=hx;exact leave cw fun l e=>by cases e
  |ret=>
   simp only[QA,QE]at hx;obtain⟨rfl,rfl,rfl⟩:=hx;exact leave cw fun l e=>by cases e
  |exit id=>
   simp only[QA,QE]at hx;obtain⟨rfl,rfl,rfl⟩:=hx;exact leave cw fun l e=>by cases e
def zLh{f:Operand}{params:Array Tmp}{assign body:Code}{b:Frame}{a:Act}{k:List Item}{cs:List Frame}{l:Nat}{mark:List Deferred}{w' rY:World}{nx:Next}{bX:Frame}
  (he:(Instr.enterLoop b.fn a.tmps params assign body b.roundOf).run P w=.ok (l,mark) w')
  (hr:((do let d <-Deferred.ofValue (a.eval f) #[.func (.yield l) #[] #[]];invoke d.target d.args):Sem Next).run P w'=.ok nx rY) (hf:zDy P nx=some bX):
  step P (lone (At b a (.code (.rangeFunc f params assign body)::k)) cs w)=.next (lone bX (At b {a with defers:=mark++a.defers} (.inRangeFunc l::k)::cs) rY):=by
 refine step_lone_go ?_;have dA:=congrFun (zIH b {a with defers:=mark++a.defers} (.inRangeFunc l::k)) f;simp only[At]at dA;have Cs:(At b {a with defers:=mark++a.defers} (.inRangeFunc l::k)).eval f=a.eval f:=dA;have hargs:(#[Operand.const (.func (.yield l) #[] #[])].map (At b {a with defers:=mark++a.defers} (.inRangeFunc l::k)).eval)=#[.func (.yield l) #[] #[]]:=by simp[Frame.eval]
 have aM:((do let d <-resolve (At b {a with defers:=mark++a.defers} (.inRangeFunc l::k)).eval {callee:= .value f,args:=#[.const (.func (.yield l) #[] #[])],argTypes:=#[]} 0;invoke d.target d.args):Sem Next).run P w'=.ok nx rY:=by
  simp only[resolve,Cs,hargs];exact hr
 simp only[stepG,stepG.exec,At,Sem.runT_eq,he,GStep.bare_after]at aM |-;cases nx<;>simp only[zDy,QA]at hf<;>try (cases hf;done)
 all_goals
  subst hf
  simp[stepG.apply,aM]
def zKe{b:Frame}{a:Act}{k:List Item}{cs:List Frame}{l:Nat}{w':World}{jump:Option Code}(he:(Instr.endLoop l).run P w=.ok jump w'):
  step P (lone (At b a (.endRangeFunc l::k)) cs w)=.next (lone (At b a ((jump.map Item.code).toList++k)) cs w'):=by
 refine step_lone_go ?_;simp[stepG,stepG.exec,At,Sem.runT_eq,he]
end
section
variable {P:Program}{B:Nat}{σ:Nat->Option Pl}{h:WA}{w:World}
def Bc.append{l l' m m':List Deferred}(hl:Bc P σ l l')(hm:Bc P σ m m'):Bc P σ (l++m) (l'++m'):=by
 induction l generalizing l' with
 |nil=>cases l' with
  |nil=>exact hm
  |cons _ _=>exact hl.elim
 |cons d l ih=>cases l' with
  |nil=>exact hl.elim
  |cons d' l'=>exact⟨hl.1,ih hl.2⟩
def zDw{ih:Ex}(hex:yQ P ih)(aw:yP P ih){nt:Nat}{f:Operand}{params:Array Tmp}{assign body:Code}{aA aB:WT}{b:Frame}{fr ae:WM}{a:Act}{e:WL}{h':WA}
  (xp:yN P nt assign=some aA) (xq:yN P nt body=some aB) (er:∀ p∈params.toList,p<nt) (aS:Zm P f=true) (hr:Wd P B σ h w) (hF:BC P σ nt fr a b)
  {d:Nat} {pd:Pl} (hd:σ d=some pd) {mark dB:List Deferred} (hm:Bc P σ mark dB)
  {w0:World} {l:Nat} (hl:l=w.heap.size) (et:(Instr.enterLoop b.fn a.tmps params assign body b.roundOf).run P w0=.ok (l,dB) (w.alloc (.loop {state:= .ready,pending:=none,fn:=b.fn,tmps:=a.tmps,params,assign,body,defers:=pd.b})))
  (hx:zAl ih (ev fr.tm f) params.toList aA aB fr d mark h=some (e,ae,h')):
  ∃ σ' w' a',W2 P B σ h w σ' h' w'/\BC P σ' nt ae a' b/\ae.round=fr.round/\∀ (k:List Item) (cs:List Frame),zBn b cs->Arr P (lone (At b a (.code (.rangeFunc f params assign body)::k)) cs w0) b k cs e a' w':=by
 subst hl;unfold zAl at hx;have ab:=yB σ h.n ⟨w.heap.size,0,0⟩;have hle:=YV hr ⟨w.heap.size,0,0⟩;have fM:=World.alloc_heap_new w (.loop {state:= .ready,pending:=none,fn:=b.fn,tmps:=a.tmps,params,assign,body,defers:=pd.b});have nv:(w.alloc (.loop {state:= .ready,pending:=none,fn:=b.fn,tmps:=a.tmps,params,assign,body,defers:=pd.b})).heap=w.heap.push (.loop {state:= .ready,pending:=none,fn:=b.fn,tmps:=a.tmps,params,assign,body,defers:=pd.b}):=rfl;have ny:(w.alloc (.loop {state:= .ready,pending:=none,fn:=b.fn,tmps:=a.tmps,params,assign,body,defers:=pd.b})).os=w.os/\(w.alloc (.loop {state:= .ready,pending:=none,fn:=b.fn,tmps:=a.tmps,params,assign,body,defers:=pd.b})).tape=w.tape/\(w.alloc (.loop {state:= .ready,pending:=none,fn:=b.fn,tmps:=a.tmps,params,assign,body,defers:=pd.b})).output=w.output:=⟨rfl,rfl,rfl⟩;generalize w.alloc (.loop {state:= .ready,pending:=none,fn:=b.fn,tmps:=a.tmps,params,assign,body,defers:=pd.b})=W1 at et fM nv ny;have d7:W2 P B σ h w (yu σ h.n ⟨w.heap.size,0,0⟩) (h.push (.loop {state:= .ready,pending:=none,fn:=0,tm:=fr.tm,params:=params.toList,assign:=aA,body:=aB,defers:=d}))
   W1:=
  Wd.push hr nv ny
   ⟨_,fM,⟨rfl,trivial,fun k=>(hF.tm k).mono hle,rfl,⟨nt,hF.size,er,xp,xq⟩,⟨pd,hle _ _ hd,rfl⟩⟩⟩
 split at hx
 ·cases hx
 ·rename_i v0 h2 jE;obtain⟨nx,bX,σ2,w2,cv,r1,r2,r3,r4,r5⟩:=zEg hex aw d7.rel (zBA d7.rel (fun k=>(hF.tm k).mono hle) aS) (WQ.cons (WI.yield ab) (WQ.nil _)) jE;have r1:((do let d <-Deferred.ofValue (a.eval f) #[.func (.yield w.heap.size) #[] #[]];invoke d.target d.args):Sem Next).run P W1=.ok nx W1:=r1;split at hx
  ·rename_i r dK;obtain⟨b7,r',m1,m2,m3⟩:=zBF r3.rel dK;have bO:=r3.le _ _ ab;rw[bO]at m1;cases m1;have HA:r.state≠ .busy:=by
    intro hb;rw[hb]at hx;cases hx
   have cr:=run_endLoop (P:=P) m2 (by rw[m3.state];exact HA);have Cn:=zF5 (r2:={r with state:= .exhausted}) (r8:={r' with state:= .exhausted}) r3.rel dK bO ⟨rfl,m3.pending,m3.tm,m3.params,m3.code,m3.defers⟩;have jH:=(d7.trans r3).trans Cn;have ud:BC P σ2 nt {fr with dfs:=mark++fr.dfs} {a with defers:=dB++a.defers} b:=
    ⟨hF.size,fun k=>(hF.tm k).mono jH.le,(hm.append hF.dfs).mono jH.le,hF.round.mono jH.le⟩
   have steps:∀ (k:List Item) (cs:List Frame),zBn b cs->Steps P (lone (At b a (.code (.rangeFunc f params assign body)::k)) cs w0)
     (lone (At b {a with defers:=dB++a.defers} ((r'.pending.map Item.code).toList++k)) cs (w2.putObj w.heap.size (.loop {r' with state:= .exhausted}))):=fun k cs aY=>by
    have q:=r5 (At b {a with defers:=dB++a.defers} (.inRangeFunc w.heap.size::k)) cs;have cq:(At b {a with defers:=dB++a.defers} (.inRangeFunc w.heap.size::k)).finish cv=At b {a with defers:=dB++a.defers} (.endRangeFunc w.heap.size::k):=rfl;rw[cq]at q;exact Steps.trans (.one (zLh et r1 r2)) (.trans q (.one (zKe cr)))
   have hp:=m3.pending;have eS:(match r.pending with
    |none=>some (WL.normal,({fr with dfs:=mark++fr.dfs}:WM),h2.set h.n (.loop {r with state:= .exhausted}))
    |some .ret=>some (.ret,{fr with dfs:=mark++fr.dfs},h2.set h.n (.loop {r with state:= .exhausted}))
    |some (.exit id)=>some (.exit id,{fr with dfs:=mark++fr.dfs},h2.set h.n (.loop {r with state:= .exhausted}))
    |some (.goto g)=>some (.goto g,{fr with dfs:=mark++fr.dfs},h2.set h.n (.loop {r with state:= .exhausted}))
    |some _=>none)=some (e,ae,h'):=by
    cases hs:r.state<;>rw[hs]at hx<;>first|exact hx|exact absurd hs HA
   clear hx;have jH:W2 P B σ h w σ2 _ (w2.putObj w.heap.size (.loop {r' with state:= .exhausted})):=jH;generalize w2.putObj w.heap.size (.loop {r' with state:= .exhausted})=W3 at jH steps;generalize h2.set h.n (.loop {r with state:= .exhausted})=H3 at jH eS;rcases hq:r.pending with _|c
   ·rw[hq]at eS hp;simp only[QA,QE]at eS;obtain⟨rfl,rfl,rfl⟩:=eS;cases di:r'.pending with
    |some c=>rw[di]at hp;exact hp.elim
    |none=>
     rw[di]at steps;exact⟨σ2,_,_,jH,ud,rfl,fun k cs aY=>steps k cs aY⟩
   ·rw[hq]at eS hp;cases di:r'.pending with
    |none=>rw[di]at hp;cases c<;>exact hp.elim
    |some c'=>
     rw[di]at steps hp;cases c with
     |ret=>
      cases c' with
      |ret=>
       simp only[QA,QE]at eS;obtain⟨rfl,rfl,rfl⟩:=eS;exact⟨σ2,_,_,jH,ud,rfl,fun k cs aY=>⟨k,steps k cs aY⟩⟩
      |_=>exact hp.elim
     |exit i=>
      cases c' with
      |exit j=>
       simp only[QA,QE]at eS;obtain⟨rfl,rfl,rfl⟩:=eS;have hp:i=j:=hp;subst hp;exact⟨σ2,_,_,jH,ud,rfl,fun k cs aY=>⟨k,rfl,steps k cs aY⟩⟩
      |_=>exact hp.elim
     |goto i=>
      cases c' with
      |goto j=>
       simp only[QA,QE]at eS;obtain⟨rfl,rfl,rfl⟩:=eS;have hp:i=j:=hp;subst hp;exact⟨σ2,_,_,jH,ud,rfl,fun k cs aY=>⟨k,rfl,steps k cs aY⟩⟩
      |_=>exact hp.elim
     |_=>exact absurd eS (by simp)
  ·cases hx
def zIE{ih:Ex}(hex:yQ P ih)(aw:yP P ih){nt:Nat}{f:Operand}{params:Array Tmp}{assign body:Code}{aA aB:WT}{b:Frame}{fr ae:WM}{a:Act}{e:WL}{h':WA}
  (xp:yN P nt assign=some aA) (xq:yN P nt body=some aB) (er:∀ p∈params.toList,p<nt) (aS:Zm P f=true) (hr:Wd P B σ h w) (hF:BC P σ nt fr a b)
  (hx:zBa ih (ev fr.tm f) params.toList aA aB fr h=some (e,ae,h')):zFm P B σ h w nt (.rangeFunc f params assign body) fr a b e ae h':=by
 unfold zBa at hx;have gD:=hF.round;split at hx
 ·rename_i hn;rw[hn]at gD;have k7:b.roundOf=none:=gD;have hle:=YV hr ⟨w.heap.size,0,0⟩;have ab:=yB σ h.n ⟨w.heap.size,0,0⟩;have HB:W2 P B σ h w (yu σ h.n ⟨w.heap.size,0,0⟩) (h.push (.deferred (some []))) (w.alloc (.deferred (some []))):=
   Wd.push hr (O:= .deferred (some [])) rfl ⟨rfl,rfl,rfl⟩ ⟨rfl,World.alloc_heap_new w _⟩
  have et:=run_enterLoop_outer (P:=P) (w:=w) b.fn a.tmps params assign body;rw[<-k7]at et;have hm:Bc P (yu σ h.n ⟨w.heap.size,0,0⟩) [{target:= .collected h.n,args:=#[]}] [{target:= .collected w.heap.size,args:=#[]}]:=⟨⟨_,ab,rfl⟩,trivial⟩;obtain⟨σ',w',a',e1,e2,e3,e4⟩:=zDw hex aw xp xq er aS HB.rel (hF.mono hle) ab hm (by simp) et hx;exact⟨σ',w',a',HB.trans e1,e2,e3,e4⟩
 ·rename_i l hn;rw[hn]at gD;obtain⟨pl,p1,p2⟩:=gD;split at hx
  ·rename_i r hl;obtain⟨xh,r',k1,k2,k3⟩:=zBF hr hl;rw[p1]at k1;cases k1;obtain⟨pd,d1,d2⟩:=k3.defers;have et:=run_enterLoop_inner (P:=P) k2 b.fn a.tmps params assign body;rw[<-p2,d2]at et;exact zDw hex aw xp xq er aS hr hF d1 (mark:=[]) (dB:=[]) trivial rfl et hx
  ·cases hx
end
def zHi(P:Program)(ih:Ex):Prop:=∀ (nt id:Nat) (ops:Array Oper) (as:List WE) (l:List (WE×List Nat)),Yy P nt ops ops.toList=some as->zHD ops as=some (.regionC l)->
 ∀ (B:Nat) (σ:Nat->Option Pl) (h:WA) (w:World) (fr ae:WM) (a:Act) (b:Frame) (h':WA),Wd P B σ h w->BC P σ nt fr a b->YZ P ih l fr h=some (ae,h')->
  ∃ σ' w' a',W2 P B σ h w σ' h' w'/\BC P σ' nt ae a' b/\ae.round=fr.round/\
   ∀ (k:List Item) (cs:List Frame),zBn b cs->Steps P (lone (At b a (.code (.region id ops true)::k)) cs w) (lone (At b a' k) cs w')
section
variable {P:Program}{B:Nat}{σ:Nat->Option Pl}{h:WA}{w:World}
def zK4{ops:Array Oper}{as:List WE}{c:WT}(hc:zHD ops as=some c):∃ l,c=.regionC l:=by
 unfold zHD at hc;simp only[GL]at hc;split at hc
 ·cases hc;exact⟨_,rfl⟩
 ·cases hc
def zJO{ih:Ex}(hex:yQ P ih)(aw:yP P ih)(xr:zHi P ih):yQ P ⟨zo P ih,ih.call⟩:=by
 intro nt c ac hc fr h e ae h' hx B σ w hr a b hF;have hc:yN P nt c=some ac:=hc;have hx:zo P ih ac fr h=some (e,ae,h'):=hx;have same:∀ {x:WL},(e=x/\ae=fr/\h'=h)->(∀ (k:List Item) (cs:List Frame),zBn b cs->Arr P (lone (At b a (.code c::k)) cs w) b k cs x a w)->zFm P B σ h w nt c fr a b e ae h':=by
  rintro x ⟨rfl,rfl,rfl⟩ hs;exact⟨σ,w,a,.refl hr,hF,rfl,hs⟩
 cases c with
 |skip=>
  simp only[yN,QA]at hc;subst hc;simp only[zo,QA,QE]at hx;exact same ⟨hx.1.symm,hx.2.1.symm,hx.2.2.symm⟩ fun k cs aY=> .one zSx
 |label l=>
  simp only[yN,QA]at hc;subst hc;simp only[zo,QA,QE]at hx;exact same ⟨hx.1.symm,hx.2.1.symm,hx.2.2.symm⟩ fun k cs aY=> .one zQm
 |exit id=>
  simp only[yN,QA]at hc;subst hc;simp only[zo,QA,QE]at hx;exact same ⟨hx.1.symm,hx.2.1.symm,hx.2.2.symm⟩ fun k cs aY=>⟨k,rfl,Steps.refl P _⟩
 |goto l=>
  simp only[yN,QA]at hc;subst hc;simp only[zo,QA,QE]at hx;exact same ⟨hx.1.symm,hx.2.1.symm,hx.2.2.symm⟩ fun k cs aY=>⟨k,rfl,Steps.refl P _⟩
 |ret=>
  simp only[yN,QA]at hc;subst hc;simp only[zo,QA,QE]at hx;exact same ⟨hx.1.symm,hx.2.1.symm,hx.2.2.symm⟩ fun k cs aY=>⟨k,Steps.refl P _⟩
 |refuse _=>simp[yN]at hc
 |region id ops draw=>
  simp only[yN]at hc;cases h1:Yy P nt ops ops.toList with
  |none=>simp[h1]at hc
  |some as=>
  simp only[h1]at hc;cases draw with
  |false=>
   simp only[QU,QA]at hc;subst hc;simp only[zo,QT,QE]at hx;obtain⟨⟨a6,uc⟩,fN,rfl,rfl,rfl⟩:=hx;exact zIc hex aw h1 hr hF fN
  |true=>
   simp only[cond_true]at hc;obtain⟨l,rfl⟩:=zK4 hc;simp only[zo,QT,QE]at hx;obtain⟨⟨a6,uc⟩,fN,rfl,rfl,rfl⟩:=hx;exact xr nt id ops as l h1 hc B σ h w fr _ a b _ hr hF fN
 |seq x y=>
  simp only[yN]at hc;cases h1:yN P nt x with
  |none=>simp[h1]at hc
  |some ax=>
  cases h2:yN P nt y with
  |none=>simp[h1,h2]at hc
  |some ay=>
  simp only[h1,h2,QA]at hc;subst hc;simp only[zo]at hx;cases cw:ih.exec ax fr h with
  |none=>simp[cw]at hx
  |some p=>
  obtain⟨e0,bX,h0⟩:=p;obtain⟨σ1,w1,a1,e1,F1,rd1,bZ⟩:=hex nt x ax h1 fr h e0 bX h0 cw B σ w hr a b hF;have leave:e0≠ .normal->e=e0/\ae=bX/\h'=h0->zFm P B σ h w nt (.seq x y) fr a b e ae h':=by
   rintro ah ⟨rfl,rfl,rfl⟩;refine⟨σ1,w1,a1,e1,F1,rd1,fun k cs aY=>VU (.one zQx) ?_⟩;have:=bZ (.code y::k) cs aY;cases e with
   |normal=>exact absurd rfl ah
   |ret=>exact this
   |exit id=>obtain⟨k1,q1,q2⟩:=this;exact⟨k1,q1,q2⟩
   |goto l=>obtain⟨k1,q1,q2⟩:=this;exact⟨k1,q1,q2⟩
  cases e0 with
  |normal=>
   simp only[cw]at hx;obtain⟨σ2,w2,a2,e2,F2,je,cz⟩:=hex nt y ay h2 bX h0 e ae h' hx B σ1 w1 e1.rel a1 b F1;exact⟨σ2,w2,a2,e1.trans e2,F2,je.trans rd1,fun k cs aY=>VU (Steps.trans (.one zQx) (bZ (.code y::k) cs aY)) (cz k cs aY)⟩
  |ret=>simp only[cw,QA,QE]at hx;exact leave (by simp) ⟨hx.1.symm,hx.2.1.symm,hx.2.2.symm⟩
  |exit id=>simp only[cw,QA,QE]at hx;exact leave (by simp) ⟨hx.1.symm,hx.2.1.symm,hx.2.2.symm⟩
  |goto l=>simp only[cw,QA,QE]at hx;exact leave (by simp) ⟨hx.1.symm,hx.2.1.symm,hx.2.2.symm⟩
 |cond t x y=>
  simp only[yN]at hc;cases h0:Zm P t with
  |false=>simp[h0]at hc
  |true=>
  cases h1:yN P nt x with
  |none=>simp[h0,h1]at hc
  |some ax=>
  cases h2:yN P nt y with
  |none=>simp[h0,h1,h2]at hc
  |some ay=>
  simp only[h0,h1,h2,QA]at hc;subst hc;simp only[zo]at hx;have ht:=zBA hr hF.tm h0;cases hv:ev fr.tm t with
  |bool tb=>
   rw[hv]at hx ht;have ha:a.eval t=.bool tb:=by
    generalize a.eval t=q at ht;cases ht;rfl
   cases tb with
   |true=>
    obtain⟨σ1,w1,a1,e1,F1,rd1,bZ⟩:=hex nt x ax h1 fr h e ae h' hx B σ w hr a b hF;exact⟨σ1,w1,a1,e1,F1,rd1,fun k cs aY=>VU (.one (by have:=zNB (P:=P) (b:=b) (k:=k) (cs:=cs) (w:=w) (x:=x) (y:=y) ha;exact this)) (bZ k cs aY)⟩
   |false=>
    obtain⟨σ1,w1,a1,e1,F1,rd1,bZ⟩:=hex nt y ay h2 fr h e ae h' hx B σ w hr a b hF;exact⟨σ1,w1,a1,e1,F1,rd1,fun k cs aY=>VU (.one (by have:=zNB (P:=P) (b:=b) (k:=k) (cs:=cs) (w:=w) (x:=x) (y:=y) ha;exact this)) (bZ k cs aY)⟩
  |_=>simp[hv]at hx
 |block id x=>
  simp only[yN,QT]at hc;obtain⟨ax,h1,rfl⟩:=hc;simp only[zo]at hx;cases cw:ih.exec ax fr h with
  |none=>simp[cw]at hx
  |some p=>
  obtain⟨e0,bX,h0⟩:=p;obtain⟨σ1,w1,a1,e1,F1,rd1,bZ⟩:=hex nt x ax h1 fr h e0 bX h0 cw B σ w hr a b hF;rw[cw]at hx;have leave:((e0=.normal/\e=.normal\/e0=.ret/\e=.ret\/∃ l,e0=.goto l/\e=.goto l)\/∃ eI,e0=.exit eI/\((eI=id/\e=.normal)\/(eI≠id/\e=.exit eI)))->ae=bX/\h'=h0->
    zFm P B σ h w nt (.block id x) fr a b e ae h':=by
   rintro hh ⟨rfl,rfl⟩;refine⟨σ1,w1,a1,e1,F1,rd1,fun k cs aY=>VU (.one zPv) ?_⟩;have:=bZ (.inBlock id::k) cs aY;rcases hh with(⟨rfl,rfl⟩|⟨rfl,rfl⟩|⟨l,rfl,rfl⟩)|⟨eI,rfl,⟨rfl,rfl⟩|⟨ah,rfl⟩⟩
   ·exact Steps.trans this (.one zLe)
   ·exact this
   ·obtain⟨k1,q1,q2⟩:=this;exact⟨k1,q1,q2⟩
   ·obtain⟨k1,q1,q2⟩:=this;exact Steps.trans q2 (.one (zSd (by rw[q1];simp[exitTo])))
   ·obtain⟨k1,q1,q2⟩:=this;exact⟨k1,by rw[q1];simp[exitTo,Ne.symm ah],q2⟩
  cases e0 with
  |normal=>simp only[QA,QE]at hx;exact leave (.inl (.inl ⟨rfl,hx.1.symm⟩)) ⟨hx.2.1.symm,hx.2.2.symm⟩
  |ret=>simp only[QA,QE]at hx;exact leave (.inl (.inr (.inl ⟨rfl,hx.1.symm⟩))) ⟨hx.2.1.symm,hx.2.2.symm⟩
  |goto l=>simp only[QA,QE]at hx;exact leave (.inl (.inr (.inr ⟨l,rfl,hx.1.symm⟩))) ⟨hx.2.1.symm,hx.2.2.symm⟩
  |exit eI=>
   simp only at hx;by_cases hid:eI=id
   ·rw[QJ hid]at hx;simp only[QA,QE]at hx;exact leave (.inr ⟨eI,rfl,.inl ⟨hid,hx.1.symm⟩⟩) ⟨hx.2.1.symm,hx.2.2.symm⟩
   ·rw[QC hid]at hx;simp only[QA,QE]at hx;exact leave (.inr ⟨eI,rfl,.inr ⟨hid,hx.1.symm⟩⟩) ⟨hx.2.1.symm,hx.2.2.symm⟩
 |loop x=>
  simp only[yN,QT]at hc;obtain⟨ax,h1,rfl⟩:=hc;simp only[zo]at hx;cases cw:ih.exec ax fr h with
  |none=>simp[cw]at hx
  |some p=>
  obtain⟨e0,bX,h0⟩:=p;obtain⟨σ1,w1,a1,e1,F1,rd1,bZ⟩:=hex nt x ax h1 fr h e0 bX h0 cw B σ w hr a b hF;rw[cw]at hx;have leave:e0≠ .normal->e=e0/\ae=bX/\h'=h0->zFm P B σ h w nt (.loop x) fr a b e ae h':=by
   rintro ah ⟨rfl,rfl,rfl⟩;refine⟨σ1,w1,a1,e1,F1,rd1,fun k cs aY=>VU (.one zH4) ?_⟩;have:=bZ (.inLoop x::k) cs aY;cases e with
   |normal=>exact absurd rfl ah
   |ret=>exact this
   |exit id=>obtain⟨k1,q1,q2⟩:=this;exact⟨k1,q1,q2⟩
   |goto l=>obtain⟨k1,q1,q2⟩:=this;exact⟨k1,q1,q2⟩
  cases e0 with
  |normal=>
   simp only at hx;obtain⟨σ2,w2,a2,e2,F2,je,cz⟩:=hex nt (.loop x) (.loop ax) (by simp[zE5,yN,h1]) bX h0 e ae h' hx B σ1 w1 e1.rel a1 b F1;refine⟨σ2,w2,a2,e1.trans e2,F2,je.trans rd1,fun k cs aY=>VU (Steps.trans (.one zH4) (.trans (bZ (.inLoop x::k) cs aY) (.one zNQ))) ?_⟩;have q:=cz k cs aY;have hs:step P (lone (At b a1 (.code (.loop x)::k)) cs w1)=.next (lone (At b a1 (.code x:: .inLoop x::k)) cs w1):=zH4;have ah:∀ (t:List Item) (a2:Act) (w2:World),t≠ .code (.loop x)::k->lone (At b a1 (.code (.loop x)::k)) cs w1≠lone (At b a2 t) cs w2:=by
    intro t a2 w2 hn he;apply hn;have h3:=congrArg (fun m:Machine=>m.gs.toList.map fun g=>g.frame.todo) he;simpa [lone,At]using h3.symm
   cases e with
   |normal=>exact Vg q (ah _ _ _ (fun hh=>by have:=congrArg List.length hh;simp at this)) hs
   |ret=>obtain⟨k1,q⟩:=q;exact⟨k1,Vg q (ah _ _ _ (by simp)) hs⟩
   |exit id=>obtain⟨k1,q1,q⟩:=q;exact⟨k1,q1,Vg q (ah _ _ _ (by simp)) hs⟩
   |goto l=>obtain⟨k1,q1,q⟩:=q;exact⟨k1,q1,Vg q (ah _ _ _ (by simp)) hs⟩
  |ret=>simp only[QA,QE]at hx;exact leave (by simp) ⟨hx.1.symm,hx.2.1.symm,hx.2.2.symm⟩
  |exit id=>simp only[QA,QE]at hx;exact leave (by simp) ⟨hx.1.symm,hx.2.1.symm,hx.2.2.symm⟩
  |goto l=>simp only[QA,QE]at hx;exact leave (by simp) ⟨hx.1.symm,hx.2.1.symm,hx.2.2.symm⟩
 |scope x=>
  simp only[yN,QT]at hc;obtain⟨ax,h1,rfl⟩:=hc;simp only[zo]at hx;obtain⟨σ1,w1,a1,e1,F1,rd1,bZ⟩:=zKA hex h1 _ h1 hr hF hx;exact⟨σ1,w1,a1,e1,F1,rd1,fun k cs aY=>VU (.one zRP) (bZ k cs aY)⟩
 |rangeFunc f ps x y=>
  simp only[yN]at hc;cases h0:Zm P f with
  |false=>simp[h0]at hc
  |true=>
  cases h1:yN P nt x with
  |none=>simp[h0,h1]at hc
  |some ax=>
  cases h2:yN P nt y with
  |none=>simp[h0,h1,h2]at hc
  |some ay=>
  cases h3:ps.toList.all (fun p=>Nat.ble (p+1) nt)with
  |false=>simp only[h0,h1,h2,h3,QU]at hc;cases hc
  |true=>
  simp only[h0,h1,h2,h3,cond_true,QA]at hc;subst hc;simp only[zo]at hx;exact zIE hex aw h1 h2 (fun p hp=>QP (QX.1 h3 p hp)) h0 hr hF hx
end
section
variable {P:Program}{B:Nat}{σ:Nat->Option Pl}{h:WA}{w:World}
def zQO:∀ {l l':List Value} (k0:Nat) {t:WG Value} {f:Nat->Value},WQ σ l l'->(∀ k,WI σ (zC t k) (f k))->
  ∀ k,WI σ (zC (zCr l k0 t) k) (if k0<=k then(l'[k-k0]?).getD (f k)else f k):=by
 intro l;induction l with
 |nil=>
  intro l' k0 t f hl ht k;have:l'=[]:=by have:=hl.1;cases l'<;>simp_all
  subst this;simp only[zCr];split<;>simpa using ht k
 |cons v l ih=>
  intro l' k0 t f hl ht k;match l',hl with
  |[],hl=>have:=hl.1;simp at this
  |v'::l',hl=>
   have hv:=hl.2 0 v v' rfl rfl;have jB:WQ σ l l':=⟨by simpa using hl.1,fun i a b h1 h2=>hl.2 (i+1) a b (by simpa using h1) (by simpa using h2)⟩;have:=ih (l':=l') (k0+1) (t:=t.set k0 v) (f:=fun k=>if k=k0 then v' else f k) jB (fun j=>by
    rw[zg];by_cases hj:j=k0
    ·simp only[hj,Qz];exact hv
    ·simp only[hj,Gt];exact ht j) k
   simp only[zCr];by_cases h1:k0+1<=k
   ·rw[QJ h1,QC ω]at this;rw[QJ ω];have e:k-k0=(k-(k0+1))+1:=ω
    rw[e];simpa using this
   ·rw[QC h1]at this;by_cases h2:k=k0
    ·subst h2;simpa using this
    ·rw[QC h2]at this;rw[QC ω];exact this
def zBe(tm:Array Value):ResultVar->Sem Value
 | .tmp t=>pure (tm.getD t Go.undef)
 | .cell a t=>do loadVar t (<-asAddr (tm.getD a Go.undef))
def zL3{t:TypeId}{agg:Bool}{n ad:Nat}{tr:WG Value}{tm:Array Value}(hg:zEO P t=some agg)(hn:ZK P t=some n)(hr:Wd P B σ h w)(hv:WI σ (zC tr ad) (tm.getD ad Go.undef)){u:Value}
  (hx:Y3 h tr (ad,some (agg,n))=some u):
  ∃ cu,(zBe tm (.cell ad t)).run P w=.ok cu w/\WI σ u cu:=by
 simp only[Y3]at hx;simp only[zBe];generalize tm.getD ad Go.undef=v' at hv;generalize zC tr ad=v at hx hv;split at hx
 ·rename_i _ ad;cases dZ:ad.spot with
  |some s=>simp[dZ]at hx
  |none=>
   simp only[dZ,Q2,cond_true]at hx;cases cX:z0 h ad.block with
   |none=>simp[cX]at hx
   |some cells=>
    simp only[cX,QV]at hx;cases bI:cut cells ad.off n with
    |none=>simp[bI]at hx
    |some xs=>
     simp only[bI,QV]at hx;obtain⟨pl,ys,c1,c2,c3,c4,c5⟩:=zCR hr cX bI;obtain⟨cv,d1,d2⟩:=zAz c2 hx;obtain⟨b,off,sp⟩:=ad;simp only at dZ c1 c5;subst dZ;cases hv with
     |ptr hp=>
      rw[c1]at hp;cases hp;refine⟨cv,?_,d2⟩;have:=zCJ (P:=P) (w:=w) hg hn c3 c5 d1;simp[asAddr,this]
 ·cases hx
def zJ6(hr:Wd P B σ h w){t:WG Value}{tm:Array Value}(ht:∀ k,WI σ (zC t k) (tm.getD k Go.undef)):∀ {l:List ResultVar} {rs:List (Nat×Option (Bool×Nat))} {vs:List Value},
  Yb P l=some rs->yI h t rs=some vs->∃ bL,(l.mapM (zBe tm)).run P w=.ok bL w/\WQ σ vs bL:=by
 intro l;induction l with
 |nil=>
  intro rs vs hc hx;simp only[Yb,QA]at hc;subst hc;simp only[yI,QA]at hx;subst hx;exact⟨[],by simp,WQ.nil _⟩
 |cons r l ih=>
  intro rs vs hc hx;cases r with
  |tmp k=>
   simp only[Yb,QT]at hc;obtain⟨Ct,fc,rfl⟩:=hc;simp only[yI,Y3]at hx;cases fN:yI h t Ct with
   |none=>simp[fN]at hx
   |some Lb=>
    simp only[fN,QA]at hx;subst hx;obtain⟨bL,e1,e2⟩:=ih fc fN;refine⟨tm.getD k Go.undef::bL,?_,WQ.cons (ht k) e2⟩;rw[List.mapM_cons];simp only[Sem.run_bind,zBe,Sem.run_pure,Result.andThen_ok,e1]
  |cell ad ty=>
   simp only[Yb]at hc;cases h1:zEO P ty with
   |none=>simp[h1]at hc
   |some g=>
   cases h2:ZK P ty with
   |none=>simp[h1,h2]at hc
   |some n=>
   cases h3:Yb P l with
   |none=>simp[h1,h2,h3]at hc
   |some Ct=>
   simp only[h1,h2,h3,QA]at hc;subst hc;simp only[yI]at hx;cases pI:Y3 h t (ad,some (g,n))with
   |none=>simp[pI]at hx
   |some v=>
   simp only[pI]at hx;cases fN:yI h t Ct with
   |none=>simp[fN]at hx
   |some Lb=>
    simp only[fN,QA]at hx;subst hx;obtain⟨bL,e1,e2⟩:=ih h3 fN;obtain⟨cu,d1,d2⟩:=zL3 h1 h2 hr (ht ad) pI;refine⟨cu::bL,?_,WQ.cons d2 e2⟩;rw[List.mapM_cons];simp only[Sem.run_bind,d1,Sem.run_pure,Result.andThen_ok,e1]
def zSG{vs bL:List Value}(hl:WQ σ vs bL):WI σ (one vs) (if h:bL.toArray.size=1 then bL.toArray[0]else .tuple bL.toArray):=by
 match vs,bL,hl with
 |[],[],_=>exact WI.tuple rfl (fun i x y h=>by simp at h)
 |[v],[c],hl=>exact hl.2 0 v c rfl rfl
 |a::b::l,a'::b'::l',hl=>
  have:¬(a'::b'::l').toArray.size=1:=by simp
  rw[dif_neg this];exact WI.tuple (by simpa using hl.1) (fun i x y h1 h2=>hl.2 i x y (by simpa using h1) (by simpa using h2))
 |[],_::_,hl=>have:=hl.1;simp at this
 |[_],[],hl=>have:=hl.1;simp at this
 |[_],_::_::_,hl=>have:=hl.1;simp at this
 |_::_::_,[],hl=>have:=hl.1;simp at this
 |_::_::_,[_],hl=>have:=hl.1;simp at this
def zKL{f:Func}{tm:Array Value}{bL:List Value}(hm:(f.results.toList.mapM (zBe tm)).run P w=.ok bL w):
  (results f tm).run P w=.ok (if h:bL.toArray.size=1 then bL.toArray[0]else .tuple bL.toArray) w:=by
 have hf:results f tm=(do
  let vs <-f.results.mapM (zBe tm)
  pure (if h:vs.size=1 then vs[0]else .tuple vs)):=by
  unfold results;congr 1
 have ha:(f.results.mapM (zBe tm)).run P w=.ok bL.toArray w:=by
  rw[Array.mapM_eq_mapM_toList,Sem.run_map,hm];rfl
 rw[hf];simp only[Sem.run_bind,ha,Result.andThen_ok,Sem.run_pure]
def zIt{ih:Ex}(aw:yP P ih):∀ {ds dT:List Deferred} {σ:Nat->Option Pl} {h:WA} {w:World} {h':WA},Bc P σ ds dT->Wd P B σ h w->yi ih ds h=some h'->
  ∃ σ' w',W2 P B σ h w σ' h' w'/\∀ (X:Frame) (cs:List Frame),X.mode=.returning->X.defers=dT->Steps P (lone X cs w) (lone {X with defers:=[]} cs w'):=by
 intro ds;induction ds with
 |nil=>
  intro dT σ h w h' hd hr hx;cases dT with
  |cons _ _=>exact hd.elim
  |nil=>
   simp only[yi,QA]at hx;subst hx;refine⟨σ,w,.refl hr,fun X cs _ hX=> ?_⟩;have:{X with defers:=[]}=X:=by rw[<-hX]
   rw[this];exact Steps.refl P _
 |cons d ds pJ=>
  intro dT σ h w h' hd hr hx;cases dT with
  |nil=>exact hd.elim
  |cons d' dT=>
  obtain⟨hd1,pK⟩:=hd;obtain⟨Sr,ue⟩:=d;obtain⟨Lc,cQ⟩:=d';unfold DRel at hd1;simp only[yi]at hx;split at hd1
  ·
   rename_i f cap heq;simp only at heq;subst heq;obtain⟨cm,e1,e2,e3⟩:=hd1;simp only at e1;subst e1;simp only at hx;cases hc:ih.call f (ue.toList++cap.toList) h with
   |none=>simp[hc]at hx
   |some p=>
   obtain⟨v0,h0⟩:=p;simp only[hc]at hx;obtain⟨k1,k2⟩:=aw _ _ _ _ _ hc;obtain⟨σ1,w1,cv,d7,_,st⟩:=k2 B σ w hr (cQ++cm) (by simpa using e3.append e2) .deferred (.inr rfl);obtain⟨σ2,w2,dO,cz⟩:=pJ (pK.mono d7.le) d7.rel hx;refine⟨σ2,w2,d7.trans dO,fun X cs hm hX=> ?_⟩;have hs:=step_defer (P:=P) (fr:=X) (cs:=cs) (w:=w) (d:=⟨.fn (.func f) cm,cQ⟩) (ds:=dT) (fv:= .func f) (cap:=cm) (f:=f) (args:=cQ++cm) (by rw[hm];simp) hX rfl (by simp[invoke,k1]);obtain⟨ae,s1,s2⟩:=st ({X with defers:=dT}::cs) (.inr ⟨rfl,fun c rest e ch he=>by cases e;rw[show({X with defers:=dT}:Frame).mode=X.mode from rfl,hm]at he;cases he⟩);have s3:=zEz (cs:=cs) s2 (c:={X with defers:=dT}) hm;exact Steps.trans (.one hs) (Steps.trans s1 (Steps.trans (.one s3) (cz {X with defers:=dT} cs hm rfl)))
  ·
   rename_i ts ty cs0 heq;simp only at heq;subst heq;obtain⟨t,kt,e,rfl,hu,e1,e3⟩:=hd1;simp only at e1;subst e1;simp only at hx;split at hx
   ·rename_i g Ld;split at hx
    ·rename_i es clock hg;rw[Ld]at e3;have hlen:=e3.1;obtain⟨m',iO⟩:∃ m',cQ.toList=[m']:=by
      match hq:cQ.toList with
      |[m']=>exact⟨m',rfl⟩
      |[]=>rw[hq]at hlen;simp at hlen
      |_::_::_=>rw[hq]at hlen;simp at hlen
     have Cu:cQ=#[m']:=by rw[<-Gy (xs:=cQ),iO]
     rw[iO]at e3;have kR:=e3.2 0 _ _ rfl rfl;obtain⟨w1,r1,r2⟩:=zGw (ty:=ty) (ts:=[]) hr hu hg kR;obtain⟨σ2,w2,dO,cz⟩:=pJ (pK.mono r2.le) r2.rel hx;refine⟨σ2,w2,r2.trans dO,fun X cs hm hX=> ?_⟩;refine Steps.trans (.one (m₁:=lone {X with defers:=dT} cs w1) ?_) (cz {X with defers:=dT} cs hm rfl);refine step_lone_go ?_;subst Cu;have aq:(invoke (.builtin .clear #[t] ty cs0) #[m']).run P w=.ok (.value (.tuple #[])) w1:=by
      simp only[invoke,builtin];simp[r1]
     simp[stepG,unwind,callDeferred,hm,hX,Sem.runT_eq,aq]
    ·cases hx
   ·cases hx
  ·
   rename_i g heq;simp only at heq;subst heq;obtain⟨pl,p1,e1⟩:=hd1;simp only at e1;subst e1;simp only at hx;split at hx
   ·rename_i hg;obtain⟨xh,q1,q2,q3⟩:=hr.live _ _ hg;rw[p1]at q1;cases q1;have du:w.heap[pl.b]?=some (.deferred (some [])):=q2.2;have aD:pl.b<w.heap.size:=(hr.lt _ _ p1).2;have d7:W2 P B σ h w σ (h.set g (.deferred none)) (w.putObj pl.b (.deferred none)):=
     hr.put (O':= .deferred none) hg rfl rfl p1 ⟨by simp,World.putObj_heap_same aD,fun b ah=>World.putObj_heap_other ah⟩ ⟨rfl,rfl,rfl⟩ (World.putObj_heap_same aD)
      (fun g2 o2 b7 _ _ _ _ k=>by cases o2<;>exact k.elim)
    obtain⟨σ2,w2,dO,cz⟩:=pJ pK d7.rel hx;refine⟨σ2,w2,d7.trans dO,fun X cs hm hX=> ?_⟩;refine Steps.trans (.one (m₁:=lone {X with defers:=dT} cs (w.putObj pl.b (.deferred none))) ?_) (cz {X with defers:=dT} cs hm rfl);refine step_lone_go ?_;have:=run_takeDeferred (P:=P) du;simp[stepG,unwind,hm,hX,Sem.runT_eq,this]
   ·cases hx
  ·exact hd1.elim
def zLy{f:FuncId}{fn:SQ}(hc:zGJ P f=some fn):
  ∃ fy c,P.funcs[f]?=some fy/\fy.body=some c/\Yb P fy.results.toList=some fn.results/\(fy.name == "runtime.NumGoroutine")=false/\yN P fy.ntmps c=some fn.body:=by
 unfold zGJ at hc;split at hc
 ·rename_i fy hf;split at hc
  ·rename_i c rs hb iP;cases hn:(fy.name == "runtime.NumGoroutine")with
   |true=>simp[hn]at hc
   |false=>
    simp only[hn,QU]at hc;split at hc
    ·rename_i b aI;cases hc;exact⟨fy,c,hf,hb,iP,hn,aI⟩
    ·cases hc
  ·cases hc
 ·cases hc
def zKW{ih:Ex}(hex:yQ P ih)(aw:yP P ih){tab:FuncId->Option SQ}(cA:∀ f a,tab f=some a->zGJ P f=some a):yP P ⟨ih.exec,zDn P tab ih⟩:=by
 intro f args h v h' hx;have hx:zDn P tab ih f args h=some (v,h'):=hx;unfold zDn at hx;cases ht:tab f with
 |none=>simp[ht]at hx
 |some fn=>
 simp only[ht]at hx;obtain⟨fy,c,hf,hb,iP,jI,uf⟩:=zLy (cA f fn ht);refine⟨fun as w=> ?_,fun B σ w hr as hl kind hk=> ?_⟩
 ·have h1:fy.name≠ "runtime.NumGoroutine":=by simpa using jI
  simp[callFunc,hf,h1,hb]
 ·cases cw:ih.exec fn.body ⟨zCr args 0 .leaf,[],none⟩ h with
  |none=>simp[cw]at hx
  |some p=>
  obtain⟨e,a6,h1⟩:=p;simp only[cw]at hx;have et:Frame.enter P f as kind=At {(default:Frame)with fn:=f,kind:=kind} {tmps:=as++Array.replicate (fy.ntmps-as.size) Go.undef,defers:=[]} [.code c]:=by
   simp[Frame.enter,At,hf,hb];rfl
  have hF:BC P σ fy.ntmps ⟨zCr args 0 .leaf,[],none⟩ {tmps:=as++Array.replicate (fy.ntmps-as.size) Go.undef,defers:=[]} {(default:Frame)with fn:=f,kind:=kind}:=by
   refine⟨by simp;omega,fun k=> ?_,trivial,rfl⟩;have:=zQO 0 (t:= .leaf) (f:=fun _=>Go.undef) hl (fun k=>by simp only[zC,WG.get];exact WI.undef σ) k;simp only[QQ,Qz,Nat.sub_zero]at this;have e:(as++Array.replicate (fy.ntmps-as.size) Go.undef).getD k Go.undef=(as.toList[k]?).getD Go.undef:=by
    rw[GD,Array.getElem?_append];split
    ·simp
    ·rename_i cF;rw[Array.getElem?_replicate];have:as[k]?=none:=by simp;omega
     simp only[Array.getElem?_toList,this];split<;>rfl
   simp only;rw[e];exact this
  obtain⟨σ1,w1,a1,d7,F1,rd1,bZ⟩:=hex _ _ _ uf _ _ _ _ _ cw B σ w hr _ _ hF;have cr:(e=.normal\/e=.ret)/\∃ h2 vs,yi ih a6.dfs h1=some h2/\yI h2 a6.tm fn.results=some vs/\v=one vs/\h'=h2:=by
   have tail:(match yi ih a6.dfs h1 with
     |none=>none
     |some h=>match yI h a6.tm fn.results with
      |none=>none
      |some vs=>some (one vs,h))=some (v,h')->∃ h2 vs,yi ih a6.dfs h1=some h2/\yI h2 a6.tm fn.results=some vs/\v=one vs/\h'=h2:=by
    intro ht;cases hd:yi ih a6.dfs h1 with
    |none=>simp[hd]at ht
    |some h2=>
     simp only[hd]at ht;cases hv:yI h2 a6.tm fn.results with
     |none=>simp[hv]at ht
     |some vs=>
      simp only[hv,QA,QE]at ht;exact⟨h2,vs,rfl,hv,ht.1.symm,ht.2.symm⟩
   cases e with
   |normal=>exact⟨.inl rfl,tail hx⟩
   |ret=>exact⟨.inr rfl,tail hx⟩
   |exit id=>exact absurd hx (by simp)
   |goto l=>exact absurd hx (by simp)
  obtain⟨he,h2,vs,hd,hv,rfl,rfl⟩:=cr;obtain⟨σ2,w2,dO,cz⟩:=zIt aw F1.dfs d7.rel hd;obtain⟨bL,r1,r2⟩:=zJ6 dO.rel (fun k=>(F1.tm k).mono dO.le) iP hv;refine⟨σ2,w2,_,d7.trans dO,zSG r2,fun cs aY=> ?_⟩;rw[et];have fin:∀ todo:List Item,∃ ae,Steps P (lone {At {(default:Frame)with fn:=f,kind:=kind} a1 todo with mode:= .returning} cs w1) (lone ae cs w2)/\
    B5 P f kind ae (if h:bL.toArray.size=1 then bL.toArray[0]else .tuple bL.toArray) w2:=fun todo=>
   ⟨_,cz {At {(default:Frame)with fn:=f,kind:=kind} a1 todo with mode:= .returning} cs rfl rfl,rfl,rfl,rfl,rfl,fy,hf,zKL r1⟩
  have:=bZ [] cs aY;rcases he with rfl|rfl
  ·obtain⟨ae,s1,s2⟩:=fin [];exact⟨ae,Steps.trans this (Steps.trans (.one (zTm rfl)) s1),s2⟩
  ·obtain⟨k1,this⟩:=this;obtain⟨ae,s1,s2⟩:=fin (.code .ret::k1);exact⟨ae,Steps.trans this (Steps.trans (.one (zTg rfl)) s1),s2⟩
def zCW(P:Program)(f:FuncId)(s:List Value->WA->Option (Value×WA)):Prop:=
 ∀ (e:WT->WM->WA->Option (WL×WM×WA)),yP P ⟨e,fun g args h=>if g=f then s args h else none⟩
def zKS{ih:Ex}(hex:yQ P ih)(aw:yP P ih){tab:Ws}(cA:∀ f a,tab.code f=some a->zGJ P f=some a)(aL:∀ f s,tab.stub f=some s->zCW P f s):
  yP P ⟨ih.exec,zBl P tab ih⟩:=by
 intro f args h v h' hx;have hx:zBl P tab ih f args h=some (v,h'):=hx;unfold zBl at hx;split at hx
 ·rename_i s hs;exact aL f s hs ih.exec f args h v h' (by simp only[Qz];exact hx)
 ·exact zKW hex aw cA f args h v h' hx
end
end Go.Am
