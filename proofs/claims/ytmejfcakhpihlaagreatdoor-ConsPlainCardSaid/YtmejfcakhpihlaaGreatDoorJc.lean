/- Walks of functions, plain laws; proves no statement. -/
import Derived.Test.YtmejfcakhpihlaaGreatDoorJb
set_option linter.unusedVariables false
set_option linter.unusedSimpArgs false
set_option maxHeartbeats 4000000
namespace Go.Proofs.YtmejfcakhpihlaaGreatDoor
open Go.Am
set_option maxRecDepth 100000
def Yh(x:Bl):List Int:=if x.kind=1 then[x.to]else if x.kind=2 then(if x.to=x.els then[x.to]else[x.to,x.els])else[]
def Bd(h:U2)(v:Value):Prop:=∀ a n c,v=.slice (some a) n c->h.n<=a.block
theorem Bd.since{h h':U2}{v:Value}(f:Bd h' v)(n:h.n<=h'.n):Bd h v:=fun a k c e=>QO n (f a k c e)
theorem zGI{h0 h:U2}{v:Value}{l:List Int}(o:We h0 h v l):Bd h0 v:=by
 obtain⟨g,a,_,rfl,_⟩:=o;intro a n c e;cases e;assumption
noncomputable def zL1:U3:=(oV (oV (oR [oM 29 5,oM 30 4,oQ 31 30,oB .lss 32 29 31]) (oT 32 2)) (oV (o5 3 (oV (o6 [oM 35 4,oM 36 5,oI 1 37 35 36,oL 38 37,oM 39 4,oM 40 5,oC .sub 41 40 1,oI 1 42 39 41,oL 43 42,oB .neq 44 38 43]) (oJ 44 (oV (oR [oM 45 0,oM 46 3,oM 47 4,oM 48 5,oI 1 49 47 48,oL 50 49,oI 1 51 45 46,oS 1 51 50]) (oR [oM 52 3,oC .add 53 52 1,oM 3 53])) .skip))) (oR [oM 33 5,oC .add 34 33 1,oM 5 34])))
noncomputable def zLV:U3:=(oV (oV (oR [oM 10 3,oM 11 0,oQ 12 11,oB .lss 13 10 12]) (oT 13 0)) (oV (o5 1 (oV (o6 [oM 16 0,oM 17 3,oI 1 18 16 17,oL 19 18,oM 20 0,oM 21 3,oC .sub 22 21 1,oI 1 23 20 22,oL 24 23,oB .eql 25 19 24]) (oJ 25 (oV (oR [oM 26 0,oM 27 3,⟨some 28,none,(.slice 1 (.tmp 26) (some (.tmp 27)) none none)⟩,oM 4 28]) (oV (oV (oR [oN 5 1]) (o5 2 (.loop zL1))) (oV (oR [oM 54 0,oM 55 3,⟨some 56,none,(.slice 1 (.tmp 54) (some (.tmp 55)) none none)⟩,⟨none,none,(.clearS 1 [(.int .i64 0)] (.tmp 56))⟩]) (oV (oR [oM 57 0,oM 58 3,⟨some 59,none,(.slice 1 (.tmp 57) none (some (.tmp 58)) none)⟩,oM 2 59]) .ret)))) .skip))) (oR [oM 14 3,oC .add 15 14 1,oM 3 15])))
noncomputable def zQb:U3:=(oV (oR [oK 2 (.slice none 0 0)]) (oV (oV (oR [oM 6 0,oQ 7 6,oC .lss 8 7 2]) (oJ 8 (oV (oR [oM 9 0,oM 2 9]) .ret) .skip)) (oV (oV (oR [oN 3 1]) (o5 0 (.loop zLV))) (oV (oR [oM 60 0,oM 2 60]) .ret))))
theorem zI7(h0 h:U2)(v:Value)(a b:Int)(e0:U8 h0 h)(o:We h0 h v [a,b]):
  WC Tryz.prog tb 218 [v] h fun r h'=>WM h' r (if a=b then[a]else[a,b])/\Bd h0 r/\U8 h0 h':=by
 have s:WM h v [a,b]:=o.sl;have fr:=zGI o;refine en 61 [(2,none)] zQb ?_;refine VE (fun hb=> ?_) (fun hb=> ?_)<;>simp only[DB]at hb
 ·exact absurd hb (by simp)
 refine go ?_;refine VD [10,11,12,13,16,17,18,19,20,21,22,23,24,25,26,27,28,4,5,29,30,31,32,35,36,37,38,39,40,41,42,43,44,45,46,47,48,49,50,51,52,53,3,33,34,5,54,55,56,57,58,59,2,14,15,3] (by kernel_rfl) (fun i=>2-i) (fun i t h1=>h=h1/\zB t 3=I i/\(i=1\/i=2/\a≠b)) 1 ?_ ?_
 ·exact⟨rfl,WA,.inl rfl⟩
 rintro i t _ hsame ⟨rfl,s3,hi⟩;have hlen:([a,b]:List Int).length=2:=rfl;refine go ?_;refine VE (fun hc=> ?_) (fun hc=> ?_)<;>simp only[DB]at hc
 ·have hi1:i=1:=by rw[hlen]at hc;omega
  subst hi1;refine go ?_;refine VE (fun hd=> ?_) (fun hd=> ?_)<;>simp only[DB]at hd
  ·have hab:a=b:=by simpa [List.getD]using hd.symm
   subst hab;obtain⟨g,g1,g2,rfl,g3⟩:=o;refine go ?_;refine Vj (i:=1) (v:= .slice (some ⟨g,0,none⟩) [a,a].length 1) (r:= .slice (some ⟨g,1,none⟩) 1 1) (by rfl) ?_;have s4:WM h (.slice (some ⟨g,1,none⟩) 1 1) [a]:=⟨rfl,.inr ⟨g,1,_,rfl,ZX g3,by rfl,g2⟩⟩;refine go ?_;refine VD [29,30,31,32,35,36,37,38,39,40,41,42,43,44,45,46,47,48,49,50,51,52,53,3,33,34,5] (by kernel_rfl) (fun i=>1) (fun(i:Unit) t h1=>h=h1/\zB t 5=I 1/\zB t 3=I ((1:Nat):Int)) () ?_ ?_
   ·exact⟨rfl,WA,WA⟩
   rintro _ t2 _ hsame2 ⟨rfl,s5,s3b⟩;have hlen1:([a]:List Int).length=1:=rfl;refine go ?_;refine Vj (i:=1) (v:= .slice (some ⟨g,0,none⟩) [a,a].length 1) (r:= .slice (some ⟨g,1,none⟩) 1 1) (by rfl) ?_;have hcl:zBa 1 [I 0] (.slice (some ⟨g,1,none⟩) 1 1) h=some (.tuple #[],h.set g (.row [I a,I 0] true 0)):=by
    show((zg h ⟨g,1,none⟩ [I 0]).map (Value.tuple #[],·))=_;have:zg h ⟨g,1,none⟩ [I 0]=some (h.set g (.row [I a,I 0] true 0)):=by
     unfold zg;rw[g3];rfl
    rw[this];rfl
   refine Ug hcl ?_;have e1:U8 h0 (h.set g (.row [I a,I 0] true 0)):=e0.set g1 g2 _;refine go ?_;refine Vs (i:=1) (v:= .slice (some ⟨g,0,none⟩) [a,a].length 1) (r:= .slice (some ⟨g,0,none⟩) 1 1) (by rfl) ?_;refine gr ?_;refine⟨?_,(fun a k c e=>by cases e;exact g1),e1⟩;rw[QI rfl];exact⟨rfl,.inr ⟨g,0,[I a,I 0],rfl,by unfold yF;rw[zj,QI rfl],by rfl,g2⟩⟩
  ·have hab:a≠b:=fun e=>hd (by simp[List.getD,e]);refine go ?_;exact zA 2 (by omega) ⟨rfl,WA,.inr ⟨rfl,hab⟩⟩
 ·refine gr ?_
  have:a≠b:=by rcases hi with rfl|⟨_,h⟩;. exact absurd hc (by simp)
               ·exact h
  exact⟨by rw[QC this];exact s,fr,e0⟩
noncomputable def zQs:U3:=(oV (oR [oX 1 0,oK 2 (.slice none 0 0)]) (oV (oV (oR [oF 0 3 1,oL 4 3]) (o5 0 (oV (oR [oD .eql 6 4 1,oM 5 6]) (oJ 5 (oV (oR [oF 2 7 1,oL 8 7,⟨some 9,none,(.buildSlice 1 1 [(.int .i64 0)] [(0,1,(.tmp 8))])⟩,oM 2 9]) .ret) (oV (oR [oD .eql 11 4 2,oM 10 11]) (oJ 10 (oV (oR [oF 2 12 1,oL 13 12,oF 3 14 1,oL 15 14,⟨some 16,none,(.buildSlice 2 1 [(.int .i64 0)] [(0,1,(.tmp 13)),(1,1,(.tmp 15))])⟩,o1 17 218 16,oM 2 17]) .ret) .skip)))))) (oV (oR [oK 2 (.slice none 0 0)]) .ret)))
theorem zKF(h:U2)(x:Bl):
  WC Tryz.prog tb 181 [.agg #[.int .u8 x.kind,I x.a,I x.to,I x.els]] h fun r h'=>WM h' r (Yh x)/\Bd h r/\U8 h h':=by
 refine en 18 [(2,none)] zQs ?_;refine VH ?_;intro p h1 e1 o1;refine go ?_;refine VE (fun hb=> ?_) (fun hb=> ?_)<;>simp only[DB]at hb<;>refine go ?_
 ·refine WO.bl [x.to] ?_;intro v h2 e2 o2;refine gr ?_;refine⟨?_,(zGI o2).since e1.n,e1.trans e2⟩;rw[Yh,QI hb];exact o2.sl
 refine VE (fun hc=> ?_) (fun hc=> ?_)<;>simp only[DB]at hc<;>refine go ?_
 ·refine WO.bl [x.to,x.els] ?_;intro v h2 e2 o2;refine go ?_;refine VA (zI7 h1 h2 v x.to x.els e2 o2) ?_;rintro r h3 ⟨s3,f3,e3⟩;refine gr ?_;refine⟨?_,f3.since e1.n,e1.trans e3⟩;rw[Yh,QC hb,QI hc];exact s3
 ·refine rt ?_;refine⟨?_,(fun a k c e=>by cases e),e1⟩;rw[Yh,QC hb,QC hc];exact WM.nil _
def zD(T:List U5)(F:List WP)(f b:Int):List WW×Int:=
 if(Y7 T F f).2≠0 then([],(Y7 T F f).2)else if b<0\/((F.getD f.toNat default).blocks.length:Int)<=b then([],2)else((F.getD f.toNat default).blocks,0)
theorem zBX{T:List U5}{F:List WP}{f:Int}(h:(Y7 T F f).2=0):0<=f/\f<(F.length:Int)/\Zq T F=0:=by
 have hb2:(zu T F f).2=0:=by
  unfold Y7 at h;split at h
  ·rename_i hn;exact absurd h hn
  ·rename_i hn;omega
 unfold zu at hb2;split at hb2
 ·rename_i hp;exact absurd hb2 hp
 ·rename_i hp;split at hb2
  ·rename_i hc;unfold zS at hc;simp at hc;exact⟨hc.1,hc.2,by omega⟩
  ·cases hb2
noncomputable def zRy:U3:=(oV (oR [oX 3 0,oK 6 (.slice none 0 0),oN 7 0]) (oV (oV (oR [oA 2 11 3,oM 12 1,o2 13 17 11 12,oM 10 13,oE 14 10 0,oE 15 10 1,oM 8 14,oM 9 15]) (oV (oR [oM 16 9,oC .neq 17 16 0]) (oJ 17 (oV (oR [oM 18 9,oK 6 (.slice none 0 0),oM 7 18]) .ret) .skip))) (oV (oV (oR [oM 19 2,oC .lss 20 19 0,oM 21 20,oH 21 (oM 22 2),oH 21 (oF 1 23 3),oH 21 (oL 24 23),oH 21 (oM 25 1),oH 21 (oI 2 26 24 25),oH 21 (oF 1 27 26),oH 21 (oL 28 27),oH 21 (oQ 29 28),oH 21 (oB .geq 30 22 29),oO 31 21 30]) (oJ 31 (oV (oR [oK 6 (.slice none 0 0),oN 7 2]) .ret) .skip)) (oV (oR [oF 1 32 3,oL 33 32,oM 34 1,oI 2 35 33 34,oF 1 36 35,oL 37 36,oM 6 37,oN 7 0]) .ret))))
theorem zC6(h:U2)(vt vf:Value)(T:List U5)(F:List WP)(f b:Int)(tt:Be h)(hm:h.mark<=h.n)(sm:BG T F)(st:Wv h vt T)(sf:Wr h vf F):
  WC Tryz.prog tb 117 [.agg #[vt,vf],I f,I b] h fun r h'=>(∃ v,r=.tuple #[v,I (zD T F f b).2]/\BF h' v (zD T F f b).1)/\U8 h h':=by
 refine en 38 [(6,none),(7,none)] zRy ?_;refine VH ?_;intro p h1 e1 o1;refine go ?_;refine VA (zGj h1 vt vf T F f (tt.ext e1) (yO e1 hm) sm (st.ext e1) (Wr.ext sf e1)) ?_;rintro _ h2 ⟨rfl,e2⟩;have e12:=e1.trans e2;have o1:=o1.ext e2;have sf2:=Wr.ext sf e12;have hF:=sm.funcs;refine go ?_;refine VE (fun hb=> ?_) (fun hb=> ?_)<;>simp only[DB]at hb<;>refine go ?_
 ·refine rt ?_;rw[show zD T F f b=([],(Y7 T F f).2)from by rw[zD,QI hb]];exact⟨⟨_,rfl,W4.nil⟩,e12⟩
 have hb0:(Y7 T F f).2=0:=by omega
 have hin:=zBX hb0;obtain⟨csF,⟨vb,rfl,sb,hlb⟩,pcF,hsF⟩:=yv (i:=f.toNat) sf2 (by omega);refine VI (fun hc=> ?_) (fun hc=> ?_)<;>simp only[DB]at hc<;>refine go ?_
 ·refine rt ?_;rw[show zD T F f b=([],2)from by rw[zD,QC (by omega),QI (.inl hc)]];exact⟨⟨_,rfl,W4.nil⟩,e12⟩
 refine VE (fun hd=> ?_) (fun hd=> ?_)<;>simp only[DB]at hd<;>refine go ?_<;>refine rt ?_
 ·rw[show zD T F f b=([],2)from by rw[zD,QC (by omega),QI (.inr hd)]];exact⟨⟨_,rfl,W4.nil⟩,e12⟩
 ·rw[show zD T F f b=((F.getD f.toNat default).blocks,0)from by rw[zD,QC (by omega),QC (by omega)]];exact⟨⟨_,rfl,sb⟩,e12⟩
theorem ZW{T:List U5}{F:List WP}{f b:Int}(h:(zD T F f b).2=0):0<=b/\b<((zD T F f b).1.length:Int)/\(zD T F f b).1=(F.getD f.toNat default).blocks/\(Y7 T F f).2=0:=by
 unfold zD at h |-;split at h
 ·rename_i hn;exact absurd h hn
 ·rename_i hn;rw[QC hn];split at h
  ·cases h
  ·rename_i hb;rw[QC hb];exact⟨by omega,by simp only;omega,rfl,by omega⟩
set_option maxRecDepth 100000
theorem zTm{l:List Int}{n:Int}{i:Nat}(h:i<l.length)(e:l.getD i 0=n):n∈l:=e▸zb h
theorem zJQ{l:List Int}{n:Int}(h:∀ i,i<l.length->l.getD i 0≠n):n∉l:=fun hn=>by
 obtain⟨i,hi,e⟩:=zBG hn;exact h i hi e
noncomputable def zLE:U3:=(oV (oR [oB .lss 9 8 7]) (oV (oT 9 0) (oV (o5 1 (oV (oR [oM 10 8,oM 5 10]) (oV (oR [oM 11 1,oM 12 0,oM 13 5,oI 1 14 12 13,oL 15 14,oB .eql 16 11 15]) (oJ 16 (oV (oR [oM 17 5,oM 4 17]) .ret) .skip)))) (oR [oC .add 18 8 1,oM 8 18]))))
noncomputable def zRA:U3:=(oV (oR [oN 4 0]) (oV (oV (oR [oM 6 0,oQ 7 6,oN 8 0]) (o5 0 (.loop zLE))) (oV (oR [oN 4 (-1)]) .ret)))
theorem zPk(h:U2)(v:Value)(l:List Int)(n:Int)(s:WM h v l)(hl:(l.length:Int)<=9223372036854775807):
  WC Tryz.prog tb 182 [v,I n] h fun r h'=>(∃ k:Int,r=I k/\decide (0<=k)=decide (n∈l))/\h=h':=by
 refine en 19 [(4,none)] zRA ?_;refine VD [9,10,5,11,12,13,14,15,16,17,4,18,8] (by kernel_rfl) (fun i=>l.length-i) (fun i t h1=>h=h1/\zB t 8=I i/\i<=l.length/\∀ j,j<i->l.getD j 0≠n) 0 ?_ ?_
 ·exact⟨rfl,WA,QT _,fun j hj=>absurd hj (GR _)⟩
 rintro i t _ hsame ⟨rfl,s8,hi,hm⟩;refine go ?_;refine VE (fun hb=> ?_) (fun hb=> ?_)<;>simp only[DB]at hb
 ·have hi':i<l.length:=by omega
  refine go ?_;refine VE (fun hc=> ?_) (fun hc=> ?_)<;>simp only[DB]at hc<;>refine go ?_
  ·refine rt ?_;exact⟨⟨i,rfl,by rw[Qe (zTm hi' hc.symm)];simp⟩,rfl⟩
  ·refine zA (i+1) (by omega) ⟨rfl,Wx,by omega,fun j hj=> ?_⟩;by_cases e:j=i
   ·subst e;exact fun h=>hc h.symm
   ·exact hm j (by omega)
 ·refine gr ?_;exact⟨⟨-1,rfl,by rw[Qb (zJQ fun j hj=>hm j (by omega))];rfl⟩,rfl⟩
noncomputable def zRV:U3:=(oV (oR [oZ 4]) (oV (oR [oM 5 0,oM 6 1,o2 7 182 5 6,oC .geq 8 7 0,oM 4 8]) .ret))
theorem zAH(h:U2)(v:Value)(l:List Int)(n:Int)(s:WM h v l)(hl:(l.length:Int)<=9223372036854775807):
  WC Tryz.prog tb 126 [v,I n] h fun r h'=>r=.bool (decide (n∈l))/\h=h':=by
 refine en 9 [(4,none)] zRV ?_;refine VA (zPk h v l n s hl) ?_;rintro _ _ ⟨⟨k,rfl,e⟩,rfl⟩;refine gr ?_;exact⟨by rw[<-e];rfl,rfl⟩
abbrev DS:=List (Int×Int)×List Int
def ZK(nx:Int->List Int):Nat->Int->DS->DS
 |0,_,s=>s
 |n+1,b,s=>if(s.1.lookup b).isSome then s else
  (((nx b).foldl (fun(t:DS) (c:Int)=>ZK nx n c t) (s.1++[(b,(s.1.length:Int))],s.2)).1,((nx b).foldl (fun(t:DS) (c:Int)=>ZK nx n c t) (s.1++[(b,(s.1.length:Int))],s.2)).2++[b])
def Z3(nx:Int->List Int)(n:Nat)(l:List Int)(s:DS):DS:=l.foldl (fun s c=>ZK nx n c s) s
def BO(N:Nat)(es:List (Int×Int)):Nat:=((List.range N).filter fun(i:Nat)=>(es.lookup ((i:Nat):Int)).isNone).length
theorem zAu{es:List (Int×Int)}{b v c:Int}:(es++[(b,v)]).lookup c=match es.lookup c with|some w=>some w|none=>if c=b then some v else none:=by
 induction es with
 |nil=>
  simp only[GS,List.lookup_cons,List.lookup_nil];by_cases h:c=b
  ·subst h;simp
  ·have:(c == b)=false:=by simpa using h
   rw[this,QC h]
 |cons e es ih=>
  obtain⟨k,w⟩:=e;simp only[G7,List.lookup_cons];cases hk:(c == k)with
  |true=>rfl
  |false=>simp only;exact ih
theorem zHa{es:List (Int×Int)}{b v c:Int}(h:(es.lookup c).isSome):((es++[(b,v)]).lookup c).isSome:=by
 rw[zAu];cases hc:es.lookup c with
 |none=>rw[hc]at h;cases h
 |some w=>rfl
theorem zN8{nx:Int->List Int}:∀ (n:Nat) (b:Int) (s:DS) (c:Int),(s.1.lookup c).isSome->((ZK nx n b s).1.lookup c).isSome:=by
 intro n;induction n with
 |zero=>intro b s c h;exact h
 |succ n ih=>
  intro b s c h;unfold ZK;split
  ·exact h
  ·simp only;have:∀ (l:List Int) (s:DS),(s.1.lookup c).isSome->((l.foldl (fun s c=>ZK nx n c s) s).1.lookup c).isSome:=by
    intro l;induction l with
    |nil=>intro s h;exact h
    |cons x l ihl=>intro s h;exact ihl _ (ih x s c h)
   exact this _ _ (zHa h)
theorem zFb{nx:Int->List Int}{n:Nat}{c:Int}:∀ (l:List Int) (s:DS),(s.1.lookup c).isSome->((Z3 nx n l s).1.lookup c).isSome
 |[],s,h=>h
 |x::l,s,h=>zFb l _ (zN8 n x s c h)
theorem zLG{N:Nat}{p q:Nat->Bool}(h:∀ i,i<N->q i=true->p i=true):((List.range N).filter q).length<=((List.range N).filter p).length:=by
 rw[<-List.countP_eq_length_filter,<-List.countP_eq_length_filter];exact List.countP_mono_left fun i hi hq=>h i (GJ.1 hi) hq
theorem zCZ{N:Nat}{es es':List (Int×Int)}(h:∀ c,(es.lookup c).isSome->(es'.lookup c).isSome):BO N es'<=BO N es:=by
 unfold BO;apply zLG;intro i _ hi;cases hc:es.lookup (i:Int)with
 |none=>rfl
 |some w=>
  have:=h i (by rw[hc];rfl);rw[Option.isNone_iff_eq_none]at hi;rw[hi]at this;cases this
theorem zEB{p q:Nat->Bool}{i:Nat}(hp:p i=true)(hq:q i=false):∀ {l:List Nat},(∀ j∈l,q j=true->p j=true)->i∈l->l.countP q<l.countP p
 |[],_,h=>by cases h
 |x::l,hl,h=>by
  have hle:l.countP q<=l.countP p:=List.countP_mono_left fun j hj hqj=>hl j (by simp[hj]) hqj;by_cases e:x=i
  ·subst e;simp only[List.countP_cons,hp,hq,Q2];simp;omega
  ·have him:i∈l:=by
    rcases GL.1 h with h|h
    ·exact absurd h.symm e
    ·exact h
   have:=zEB hp hq (l:=l) (fun j hj=>hl j (by simp[hj])) him;simp only[List.countP_cons];cases hqx:q x with
   |false=>simp;omega
   |true=>rw[hl x (by simp) hqx];simp;omega
theorem zEJ{N:Nat}{es:List (Int×Int)}{b v:Int}(h:es.lookup b=none)(hb:0<=b/\b<(N:Int)):BO N (es++[(b,v)])<BO N es:=by
 unfold BO;rw[<-List.countP_eq_length_filter,<-List.countP_eq_length_filter];obtain⟨i,rfl⟩:∃ i:Nat,b=i:=⟨b.toNat,by omega⟩;refine zEB (i:=i) (by simp[h]) (by simp[zAu,h]) (fun j _ hj=> ?_) (GJ.2 (by omega));rw[zAu]at hj;cases hc:es.lookup (j:Int)with
 |none=>rfl
 |some w=>rw[hc]at hj;cases hj
theorem zH1{N:Nat}{es:List (Int×Int)}(h:BO N es=0){b:Int}(hb:0<=b/\b<(N:Int)):(es.lookup b).isSome:=by
 cases hc:es.lookup b with
 |some w=>rfl
 |none=>have:=zEJ (v:=0) hc hb;omega
theorem zDC{nx:Int->List Int}{N:Nat}(hin:∀ b,0<=b/\b<(N:Int)->∀ c∈nx b,0<=c/\c<(N:Int)):∀ (n:Nat) (b:Int) (s:DS),0<=b/\b<(N:Int)->(ZK nx n b s).2.length+BO N (ZK nx n b s).1<=s.2.length+BO N s.1:=by
 intro n;induction n with
 |zero=>intro b s _;exact QE _
 |succ n ih=>
  intro b s hb;unfold ZK;split
  ·exact QE _
  ·rename_i hns;have hnone:s.1.lookup b=none:=by
    cases hc:s.1.lookup b with
    |none=>rfl
    |some w=>rw[hc]at hns;exact absurd rfl hns
   have:∀ (l:List Int) (s:DS),(∀ c∈l,0<=c/\c<(N:Int))->(l.foldl (fun s c=>ZK nx n c s) s).2.length+BO N (l.foldl (fun s c=>ZK nx n c s) s).1<=s.2.length+BO N s.1:=by
    intro l;induction l with
    |nil=>intro s _;exact QE _
    |cons x l ihl=>intro s hl;exact QO (ihl _ fun c hc=>hl c (by simp[hc])) (ih x s (hl x (by simp)))
   have h1:=this (nx b) (s.1++[(b,(s.1.length:Int))],s.2) (hin b hb);have h2:=zEJ (v:=(s.1.length:Int)) hnone hb;simp only[QM,Qa]at *;omega
end Go.Proofs.YtmejfcakhpihlaaGreatDoor
namespace Go.Am
section
variable {P:Program}{tab:Wi}{t:U7 Value}{h h0:U2}{ds:List Deferred}{rd:Option Nat}{l:List U4}{Q:WF->U2->Prop}{d:Nat}
theorem Vh{x y:Operand}{v w:Value}{xs ys:List Int}(hx:ev t x=v)(hy:ev t y=w)(o:WJ h0 h v xs)(s:WM h w ys)(e0:U8 h0 h)(hne:ys≠[])(hr:xs.length+ys.length<=4294967296)
  (k:∀ h',U8 h0 h'->We h0 h' (.slice (some ⟨h.n,0,none⟩) (xs++ys).length 1) (xs++ys)->BN v h h'->WO P tab l ⟨t.set d (.slice (some ⟨h.n,0,none⟩) (xs++ys).length 1),ds,rd⟩ h' Q):WO P tab (⟨some d,none,.append 1 x y⟩::l) ⟨t,ds,rd⟩ h Q:=by
 have hsrc:=Z7 s;have hroom:room=4294967296:=rfl;obtain⟨z,zs,rfl⟩:∃ z zs,ys=z::zs:=by
  cases ys with
  |nil=>exact absurd rfl hne
  |cons z zs=>exact⟨z,zs,rfl⟩
 have hone:zK (I z::zs.map I)=true:=zCI (z::zs);have hlen:(I z::zs.map I).length / 1=(z::zs).length:=by simp
 rcases o with⟨rfl,rfl⟩|⟨g,g1,g2,rfl,g3⟩
 ·have h1:Nat.ble (z::zs).length room=true:=QH (by rw[hroom];simpa using hr);refine WO.op (.slice (some ⟨h.n,0,none⟩) (z::zs).length 1) (h.push (.row ((z::zs).map I) true 0)) rfl ?_ (k _ (e0.push _) ⟨h.n,e0.n,by simp[U2.push],rfl,zV _ _⟩ ⟨GV _,fun k hk _=> ?_⟩)
  ·simp only[WE,hx,hy,yW,hsrc,Qm,hone,hlen,h1,QY,cond_true,QR];rfl
  ·rw[zN,QC (by omega)]
 ·have h1:Nat.ble (xs.length+(z::zs).length) room=true:=QH (by rw[hroom];exact hr);have h2:cut (xs.map I) 0 (xs.length*1)=some (xs.map I):=by rw[ZE (by simp)];simp[Qw]
  have hn:(h.kill g).n=h.n:=rfl;have h3:Nat.ble 0 (0+xs.length*1)=true:=QH (QT _);have hl:xs.length+(z::zs).length=(xs++z::zs).length:=(QM ..).symm;refine WO.op (.slice (some ⟨h.n,0,none⟩) (xs++z::zs).length 1) ((h.kill g).push (.row (xs.map I++(z::zs).map I) true (0-0))) rfl ?_
   (k _ ((e0.kill g1).push _) ⟨h.n,e0.n,by simp[U2.push,U2.kill],rfl,?_⟩ ⟨GV _,fun k hk hv=> ?_⟩)
  ·rw[<-hl];simp only[WE,hx,hy,yW,hsrc,Qm,hone,hlen,h1,g3,h2,h3,QY,cond_true,QR];rfl
  ·have:=zV (h.kill g) (.row (xs.map I++(z::zs).map I) true (0-0));rw[hn]at this;rw[this];simp
  ·rw[zN,QC (by rw[hn];omega),yk,QC (fun e=>hv _ _ _ rfl e.symm)]
end
end Go.Am
namespace Go.Proofs.YtmejfcakhpihlaaGreatDoor
open Go.Am
set_option maxRecDepth 100000
def zUB(p vm vd:Value)(g:Nat):Prop:=p≠ .pointer (some ⟨g,0,none⟩)/\vm≠ .map (some g)/\∀ a n c,vd=.slice (some a) n c->a.block≠g
structure WS(hB h:U2)(p vl vm vd:Value)(s:DS):Prop where
 own:U6 hB h p [vl,vm,vd]
 map:W7 hB h vm s.1
 dn:WJ hB h vd s.2
 ext:U8 hB h
def W0(h h':U2)(p vm vd vd':Value):Prop:=h.n<=h'.n/\∀ g,g<h.n->zUB p vm vd g->h'.get g=h.get g/\zUB p vm vd' g
theorem W0.refl(h:U2)(p vm vd:Value):W0 h h p vm vd vd:=⟨QE _,fun _ _ n=>⟨rfl,n⟩⟩
theorem W0.trans{h h1 h2:U2}{p vm vd vd1 vd2:Value}(a:W0 h h1 p vm vd vd1)(b:W0 h1 h2 p vm vd1 vd2):W0 h h2 p vm vd vd2:=
 ⟨QO a.1 b.1,fun g hg nw=>let⟨x,y⟩:=a.2 g hg nw;let⟨u,v⟩:=b.2 g (QG hg a.1) y;⟨u.trans x,v⟩⟩
theorem W0.ext{h h':U2}(e:U8 h h')(p vm vd:Value):W0 h h' p vm vd vd:=⟨e.n,fun g hg n=>⟨e.get g hg,n⟩⟩
def Off(h:U2)(p vm vd v:Value)(l:List Int):Prop:=l=[]\/∃ g off,v=.slice (some ⟨g,off,none⟩) l.length 1/\g<h.n/\zUB p vm vd g
theorem zPa{h h':U2}{v:Value}(s:WM h v []):WM h' v []:=by
 refine⟨rfl,.inl ⟨rfl,?_⟩⟩;rcases s.2 with⟨_,hv⟩|⟨g,off,row,hv,_⟩
 ·exact hv
 ·exact .inr ⟨_,_,hv⟩
theorem W0.sl{h h':U2}{p vm vd vd' v:Value}{l:List Int}(k:W0 h h' p vm vd vd')(s:WM h v l)(o:Off h p vm vd v l):WM h' v l/\Off h' p vm vd' v l:=by
 rcases o with rfl|⟨g,off,rfl,hg,nw⟩
 ·exact⟨zPa s,.inl rfl⟩
 ·obtain⟨e1,e2⟩:=k.2 g hg nw;refine⟨⟨s.1,?_⟩,.inr ⟨g,off,rfl,QG hg k.1,e2⟩⟩;rcases s.2 with⟨h0,hv⟩|⟨g',off',row,hv,hr,hc,hl⟩
  ·exact .inl ⟨h0,hv⟩
  ·cases hv;exact .inr ⟨g,off,row,rfl,by unfold yF at *;rw[e1];exact hr,hc,QG hg k.1⟩
theorem zLN{hB h h2:U2}{p vl vm vd v:Value}{s:DS}{l:List Int}(w:WS hB h p vl vm vd s)(f:Bd h v)(sl:WM h2 v l):Off h2 p vm vd v l:=by
 rcases sl.2 with⟨h0,hv⟩|⟨g,off,row,hv,hr,hc,hl⟩
 ·exact .inl (Ga.1 h0)
 ·refine .inr ⟨g,off,hv,hl,?_⟩;have hg:h.n<=g:=f _ _ _ hv;obtain⟨g1,_,a1,rfl,_⟩:=w.own;obtain⟨g2,_,_,_,a2,rfl,_⟩:=w.map;refine⟨fun e=>by cases e;omega,fun e=>by cases e;omega,fun a n c e he=> ?_⟩;rcases w.dn with⟨rfl,_⟩|⟨g3,_,a3,rfl,_⟩
  ·cases e
  ·cases e;simp only at he;omega
theorem zGq{h0 h1 h:U2}{p v:Value}{a:Option Addr}{n k:Nat}{cs:List Value}{xs:List Int}(o:U6 h0 h p (.slice a n k::cs))(i:WJ h1 h v xs):∀ b m c,v=.slice (some b) m c->p≠ .pointer (some ⟨b.block,0,none⟩):=by
 intro b m c hv hp;obtain⟨g,_,_,rfl,hg⟩:=o;rcases i with⟨rfl,_⟩|⟨g2,_,_,rfl,hg2⟩
 ·cases hv
 ·cases hv;cases hp;rw[hg]at hg2;cases xs with
  |nil=>cases hg2
  |cons x xs=>cases hg2
theorem U6.upd{h0 h h':U2}{p v:Value}{a:Option Addr}{n k:Nat}{cs:List Value}{xs:List Int}(o:U6 h0 h p (.slice a n k::cs))(i:WJ h0 h v xs)(u:BN v h h'):U6 h0 h' p (.slice a n k::cs):=by
 have hne:=zGq o i;obtain⟨g,g1,g2,rfl,hg⟩:=o;exact⟨g,g1,QG g2 u.1,rfl,(u.2 g g2 fun b m c hv e=>hne b m c hv (by rw[e])).trans hg⟩
theorem U6.updM{h0 h h':U2}{p m:Value}{cs:List Value}{es:List (Int×Int)}(o:U6 h0 h p cs)(i:W7 h0 h m es)(u:zNW m h h'):U6 h0 h' p cs:=by
 obtain⟨g,g1,g2,rfl,hg⟩:=o;refine⟨g,g1,QG g2 u.1,rfl,(u.2 g g2 fun e=> ?_).trans hg⟩;obtain⟨g3,_,_,_,_,rfl,h3,_⟩:=i;cases e;rw[hg]at h3;cases h3
theorem W7.updC{h0 h h':U2}{p m:Value}{cs:List Value}{es:List (Int×Int)}(i:W7 h0 h m es)(o:U6 h0 h p cs)(u:Wc p h h'):W7 h0 h' m es:=by
 obtain⟨g3,c,es',g1,g2,rfl,h3,h4⟩:=i;refine⟨g3,c,es',g1,QG g2 u.1,rfl,(u.2 g3 g2 fun e=> ?_).trans h3,h4⟩;obtain⟨g,_,_,rfl,hg⟩:=o;cases e;rw[h3]at hg;cases hg
theorem We.updC{h0 h h':U2}{p v:Value}{a:Option Addr}{n k:Nat}{cs:List Value}{xs:List Int}(i:We h0 h v xs)(o:U6 h0 h p (.slice a n k::cs))(u:Wc p h h'):We h0 h' v xs:=by
 have hne:=zGq o (.inr i);obtain⟨g,g1,g2,rfl,hg⟩:=i;exact⟨g,g1,QG g2 u.1,rfl,(u.2 g g2 fun e=>hne _ _ _ rfl e).trans hg⟩
def Wp(L:List WW)(b:Int):List Int:=Yh (L.getD b.toNat default).fin
theorem zBh{nx:Int->List Int}{n:Nat}{b:Int}{s:DS}(h:(s.1.lookup b).isSome):ZK nx n b s=s:=by
 cases n with
 |zero=>rfl
 |succ n=>unfold ZK;rw[QI h]
noncomputable def zMX:U3:=(oV (oR [oB .lss 11 10 9]) (oV (oT 11 0) (oV (o5 1 (oV (oR [oI 1 12 8 10,oL 13 12,oM 7 13]) (oR [oM 14 2,oM 15 0,oM 16 7,⟨some 17,none,(.call (.tmp 14) [(.tmp 15),(.tmp 16)])⟩]))) (oR [oC .add 18 10 1,oM 10 18]))))
noncomputable def zP8:U3:=(oV (oR [oM 8 1,oQ 9 8,oN 10 0]) (o5 0 (.loop zMX)))
theorem zKA(hB:U2)(L:List WW)(vl:Value)(hin:∀ b,0<=b/\b<(L.length:Int)->∀ c∈Wp L b,0<=c/\c<(L.length:Int))(n:Nat)
  (IH:∀ (h:U2) (p vm vd:Value) (s:DS) (b:Int),WS hB h p vl vm vd s->0<=b/\b<(L.length:Int)->BO L.length s.1<=n->s.2.length+BO L.length s.1<=L.length->
   WC Tryz.prog tb 179 [p,I b] h fun r h'=>∃ vd',WS hB h' p vl vm vd' (ZK (Wp L) n b s)/\W0 h h' p vm vd vd')
  (h:U2) (p vm vd nlv:Value) (s:DS) (l:List Int) (w:WS hB h p vl vm vd s) (sl:WM h nlv l) (hl:(l.length:Int)<=1000) (o:Off h p vm vd nlv l) (hr:∀ c∈l,0<=c/\c<(L.length:Int)) (hu:BO L.length s.1<=n) (hd:s.2.length+BO L.length s.1<=L.length):
  WC Tryz.prog tb 178 [p,nlv,.func (.func 179) #[] #[]] h fun r h'=>∃ vd',WS hB h' p vl vm vd' (Z3 (Wp L) n l s)/\W0 h h' p vm vd vd':=by
 refine en 19 [] zP8 ?_;refine VD [11,12,13,7,14,15,16,17,18,10] (by kernel_rfl) (fun i=>l.length-i) (fun i t h1=>zB t 10=I i/\i<=l.length/\∃ vd1,WS hB h1 p vl vm vd1 (Z3 (Wp L) n (l.take i) s)/\W0 h h1 p vm vd vd1) 0 ?_ ?_
 ·exact⟨WA,QT _,vd,w,W0.refl ..⟩
 rintro i t h1 hsame ⟨s10,hi,vd1,w1,k1⟩;obtain⟨sl1,o1⟩:=k1.sl sl o;refine go ?_;refine VE (fun hc=> ?_) (fun hc=> ?_)<;>simp only[DB]at hc
 ·have hi':i<l.length:=by omega
  refine go ?_;have hm:=zb hi';have hu1:BO L.length (Z3 (Wp L) n (l.take i) s).1<=n:=QO (zCZ fun c hc=>zFb _ _ hc) hu;have hd1:(Z3 (Wp L) n (l.take i) s).2.length+BO L.length (Z3 (Wp L) n (l.take i) s).1<=L.length:=by
   have:∀ (m:List Int) (s:DS),(∀ c∈m,0<=c/\c<(L.length:Int))->(Z3 (Wp L) n m s).2.length+BO L.length (Z3 (Wp L) n m s).1<=s.2.length+BO L.length s.1:=by
    intro m;induction m with
    |nil=>intro s _;exact QE _
    |cons x m ih=>intro s hm;exact QO (ih _ fun c hc=>hm c (by simp[hc])) (zDC hin n x s (hm x (by simp)))
   exact QO (this _ _ fun c hc=>hr c (GF hc)) hd
  refine VN (WV.func (IH h1 p vm vd1 _ (l.getD i 0) w1 (hr _ hm) hu1 hd1)) ?_;rintro r h2 ⟨vd2,w2,k2⟩;refine go ?_;refine zA (i+1) (by omega) ⟨Wx,by omega,vd2,?_,k1.trans k2⟩;have e:Z3 (Wp L) n (l.take (i+1)) s=ZK (Wp L) n (l.getD i 0) (Z3 (Wp L) n (l.take i) s):=by
   unfold Z3;rw[Q4,List.foldl_append];simp[List.getD,QB hi']
  rw[e];exact w2
 ·refine go ?_;refine BB ?_;have:i=l.length:=by omega
  subst this;rw[Q5]at w1;exact⟨vd1,w1,k1⟩
set_option maxRecDepth 100000
section
variable {t:U7 Value}
theorem zVT{x:Operand}{v:Value}(hx:WI t x v:=by first|with_reducible exact WI.const|((with_reducible apply WI.tmp);(repeat (first|((with_reducible apply VY);rfl)|((with_reducible apply Wj.same);(with_reducible assumption);rfl)));first|with_reducible exact Wj.here|with_reducible assumption|(unfold Wj;with_reducible assumption))|with_reducible exact WI.fn|with_reducible exact V7|fail):ev t x=v:=hx
end
theorem zH9(x:Bl):(Yh x).length<=2:=by
 unfold Yh;split
 ·simp
 ·split
  ·split<;>simp
  ·simp
theorem zHJ{h0 h:U2}{p:Value}{cs:List Value}(o:U6 h0 h p cs):∃ g,p=.pointer (some ⟨g,0,none⟩):=let⟨g,_,_,e,_⟩:=o;⟨g,e⟩
theorem zLQ{hB h h':U2}{p vl vm vd:Value}(u:zNW vm h h'):W0 h h' p vm vd vd:=⟨u.1,fun g hg n=>⟨u.2 g hg n.2.1,n⟩⟩
theorem zNd{h h':U2}{p vm vd:Value}{q:Nat}{k c:Nat}(u:BN vd h h')(hq:q=h.n):W0 h h' p vm vd (.slice (some ⟨q,0,none⟩) k c):=
 ⟨u.1,fun g hg n=>⟨u.2 g hg n.2.2,n.1,n.2.1,fun a k c e=>by cases e;simp only;omega⟩⟩
theorem zLs{h h':U2}{p vm vd:Value}(u:Wc p h h'):W0 h h' p vm vd vd:=⟨u.1,fun g hg n=>⟨u.2 g hg n.1,n⟩⟩
noncomputable def zKz:U3:=(oV (oV (oR [oM 7 0,⟨some 8,none,(.nilCheck (.tmp 7))⟩,oF 1 9 8,oL 10 9,oM 11 1,⟨some 12,none,(.lookup true (.int .i64 0) (.tmp 10) (.tmp 11))⟩,oM 6 12,oE 13 6 0,oE 14 6 1,oM 4 13,oM 5 14]) (oV (oR [oM 15 5]) (oJ 15 .ret .skip))) (oV (o6 [oM 16 0,(⟨some 17,none,(.nilCheck (.tmp 16))⟩,[]),oF 1 18 17,oL 19 18,oM 20 1,oM 21 0,(⟨some 22,none,(.nilCheck (.tmp 21))⟩,[]),oF 1 23 22,oL 24 23,(⟨some 25,none,(.lenMap (.tmp 24))⟩,[]),(⟨none,none,(.update (.tmp 19) (.tmp 20) (.tmp 25))⟩,[])]) (oV (oR [oM 26 0,oM 27 0,⟨some 28,none,(.nilCheck (.tmp 27))⟩,oF 0 29 28,oL 30 29,oM 31 1,oI 5 32 30 31,oF 1 33 32,oA 4 34 33,o1 35 181 34,⟨some 36,none,(.call (.func 178) [(.tmp 26),(.tmp 35),(.func 179)])⟩]) (oR [oM 37 0,oM 38 0,⟨some 39,none,(.nilCheck (.tmp 38))⟩,oF 2 40 39,oL 41 40,oM 42 1,⟨some 43,none,(.buildSlice 1 1 [(.int .i64 0)] [(0,1,(.tmp 42))])⟩,oY 1 44 41 43,⟨some 45,none,(.nilCheck (.tmp 37))⟩,oF 2 46 45,oS 1 46 44]))))
theorem zNs(hB:U2)(hmB:hB.mark<=hB.n)(L:List WW)(vl:Value)(bl:BF hB vl L)(hL:L.length<=1000)(hin:∀ b,0<=b/\b<(L.length:Int)->∀ c∈Wp L b,0<=c/\c<(L.length:Int)):∀ (n:Nat) (h:U2) (p vm vd:Value) (s:DS) (b:Int),WS hB h p vl vm vd s->0<=b/\b<(L.length:Int)->BO L.length s.1<=n->s.2.length+BO L.length s.1<=L.length->
   WC Tryz.prog tb 179 [p,I b] h fun r h'=>∃ vd',WS hB h' p vl vm vd' (ZK (Wp L) n b s)/\W0 h h' p vm vd vd':=by
 obtain⟨la,ln,lk,hvl⟩:=zF bl;subst hvl;intro n;induction n with
 |zero=>
  intro h p vm vd s b w hb hu hd;obtain⟨v,hv⟩:=Option.isSome_iff_exists.1 (zH1 (Nat.le_zero.1 hu) hb);obtain⟨gp,rfl⟩:=zHJ w.own;have wo:=w.own;have wm:=w.map;refine en 47 [] zKz ?_;refine rt ?_;exact⟨vd,w,W0.refl ..⟩
 |succ n IH=>
  intro h p vm vd s b w hb hu hd;obtain⟨gp,rfl⟩:=zHJ w.own;have wo:=w.own;have wm:=w.map;refine en 47 [] zKz ?_;cases hv:s.1.lookup b with
  |some v=>
   refine gr ?_;exact⟨vd,by rw[zBh (by rw[hv];rfl)];exact w,W0.refl ..⟩
  |none=>
   have hlt:=zEJ (v:=(s.1.length:Int)) hv hb;refine go ?_;refine VC 0 rfl rfl ?_;have o1:U6 hB (inC (zC 0 h)) (.pointer (some ⟨gp,0,none⟩)) [.slice la ln lk,vm,vd]:=wo;have m1:W7 hB (inC (zC 0 h)) vm s.1:=wm;refine WT ?_;have hmk:h.mark<=hB.n:=by rw[w.ext.mark];exact hmB
   refine WU.upd wm w.ext hmk hv ?_;intro h1 e1 wm1 u1;have wo1:=U6.updM wo wm u1;have wd1:=w.dn.updM wm u1;have k1:W0 h h1 (.pointer (some ⟨gp,0,none⟩)) vm vd vd:=zLQ (hB:=hB) (vl:=vm) u1;clear o1 m1 wo wm;obtain⟨i,rfl⟩:∃ i:Nat,b=i:=⟨b.toNat,by omega⟩;have bl1:=BF.ext bl e1;obtain⟨csB,⟨vi,rfl,si,hli⟩,pcB,hsB⟩:=yv (i:=i) bl1 (by omega);refine go ?_;refine VA (zKF h1 _) ?_;rintro r h2 ⟨s2,f2,e2⟩;have wo2:=wo1.ext e2;have wm2:=wm1.ext e2;have wd2:=wd1.ext e2;have e02:=e1.trans e2;have w1:WS hB h1 (.pointer (some ⟨gp,0,none⟩)) (.slice la ln lk) vm vd (s.1++[((i:Int),(s.1.length:Int))],s.2):=⟨wo1,wm1,wd1,e1⟩;have w2:WS hB h2 (.pointer (some ⟨gp,0,none⟩)) (.slice la ln lk) vm vd (s.1++[((i:Int),(s.1.length:Int))],s.2):=⟨wo2,wm2,wd2,e02⟩;have hnx:Yh (L.getD i default).fin=Wp L (i:Int):=by unfold Wp;rw[QU]
   rw[hnx]at s2;have hnl:(Wp L (i:Int)).length<=2:=by unfold Wp;exact zH9 _
   refine go ?_;refine VA (zKA hB L (.slice la ln lk) hin n IH h2 (.pointer (some ⟨gp,0,none⟩)) vm vd r _ (Wp L (i:Int)) w2 s2 (by omega) (zLN w1 f2 s2) (hin _ hb) (by simp only;omega) (by simp only at hd |-;omega)) ?_;rintro _ h3 ⟨vd3,w3,k3⟩;have wo3:=w3.own;refine go ?_;refine WO.bl [(i:Int)] ?_;intro v4 h4 e4 o4;have wd4:=w3.dn.ext e4;have e34:=w3.ext.trans e4;refine go ?_;have hbd:(Z3 (Wp L) n (Wp L (i:Int)) (s.1++[((i:Int),(s.1.length:Int))],s.2)).2.length<=1000:=by
    have:∀ (m:List Int) (s:DS),(∀ c∈m,0<=c/\c<(L.length:Int))->(Z3 (Wp L) n m s).2.length+BO L.length (Z3 (Wp L) n m s).1<=s.2.length+BO L.length s.1:=by
     intro m;induction m with
     |nil=>intro s _;exact QE _
     |cons x m ih=>intro s hm;exact QO (ih _ fun c hc=>hm c (by simp[hc])) (zDC hin n x s (hm x (by simp)))
    have:=this (Wp L (i:Int)) (s.1++[((i:Int),(s.1.length:Int))],s.2) (hin _ hb);simp only at this;omega
   refine Vh (v:=vd3) (w:=v4) (by exact zVT) (by exact zVT) wd4 o4.sl e34 (by simp) (by simp only[Qa];omega) ?_;intro h5 e5 o5 u5;have wo5:=U6.upd (wo3.ext e4) wd4 u5;have wm5:=(w3.map.ext e4).upd wd4 u5;refine go ?_;refine VW wo5 e5 ?_ (hl:=QE 3);intro h6 e6 wo6 u6;refine go ?_;refine BB ?_;have hdf:ZK (Wp L) (n+1) (i:Int) s=((Z3 (Wp L) n (Wp L (i:Int)) (s.1++[((i:Int),(s.1.length:Int))],s.2)).1,(Z3 (Wp L) n (Wp L (i:Int)) (s.1++[((i:Int),(s.1.length:Int))],s.2)).2++[(i:Int)]):=by
    conv=>lhs;unfold ZK
    rw[QC (by rw[hv];exact Bool.noConfusion)];rfl
   rw[hdf];refine⟨_,⟨wo6,W7.updC wm5 wo5 u6,.inr (We.updC o5 wo5 u6),e6⟩,?_⟩;exact(((k1.trans (W0.ext e2 ..)).trans k3).trans (W0.ext e4 ..)).trans ((zNd u5 rfl).trans (zLs u6))
set_option maxRecDepth 100000
theorem zEZ(N:Nat)(es:List (Int×Int)):BO N es<=N:=by
 unfold BO;have:=List.length_filter_le (fun(i:Nat)=>(es.lookup ((i:Nat):Int)).isNone) (List.range N);simpa using this
noncomputable def zSK:U3:=(oV (oR [oK 4 (.slice none 0 0)]) (oV (oR [oM 6 0,⟨some 7,none,.mkMap⟩,⟨some 8,none,(.build [(.slice none 0 0),(.map none),(.slice none 0 0)] [(0,1,(.tmp 6)),(1,1,(.tmp 7))])⟩,oX 9 8,oM 5 9]) (oV (oR [oM 10 5,oM 11 1,⟨some 12,none,(.call (.func 178) [(.tmp 10),(.tmp 11),(.func 179)])⟩]) (oV (oR [oM 13 5,⟨some 14,none,(.nilCheck (.tmp 13))⟩,oF 2 15 14,oL 16 15,oM 4 16]) .ret))))
theorem zKK(h:U2)(hm:h.mark<=h.n)(L:List WW)(vl fv:Value)(l:List Int)(bl:BF h vl L)(hL:L.length<=1000)(hin:∀ b,0<=b/\b<(L.length:Int)->∀ c∈Wp L b,0<=c/\c<(L.length:Int))(sl:WM h fv l)(hl:(l.length:Int)<=1000)(hr:∀ c∈l,0<=c/\c<(L.length:Int)):
  WC Tryz.prog tb 120 [vl,fv] h fun r h'=>WJ h h' r (Z3 (Wp L) L.length l ([],[])).2/\U8 h h':=by
 obtain⟨la,ln,lk,rfl⟩:=zF bl;refine en 17 [(4,none)] zSK ?_;refine WO.mkMap ?_;intro vm h1 e1 m1;obtain⟨gm,rfl⟩:∃ g,vm=.map (some g):=let⟨g,_,_,_,_,e,_⟩:=m1;⟨g,e⟩;refine go ?_;refine VH ?_;intro p h2 e2 o2;have e12:=e1.trans e2;have w2:WS h h2 p (.slice la ln lk) (.map (some gm)) (.slice none 0 0) ([],[]):=⟨o2.since e1,m1.ext e2,.inl ⟨rfl,rfl⟩,e12⟩;have hoff:Off h2 p (.map (some gm)) (.slice none 0 0) fv l:=by
  rcases sl.2 with⟨h0,hv⟩|⟨g,off,row,hv,hr,hc,hg⟩
  ·exact .inl (Ga.1 h0)
  ·refine .inr ⟨g,off,hv,QG hg e12.n,?_⟩;obtain⟨g1,a1,_,hp,_⟩:=w2.own;obtain⟨g2,_,_,a2,_,hm2,_⟩:=w2.map;cases hm2;refine⟨fun e=> ?_,fun e=>by cases e;omega,fun a n c e=>by cases e⟩;rw[hp]at e;cases e;omega
 refine go ?_;refine VA (zKA h L (.slice la ln lk) hin L.length (fun h' p vm vd s b w hb hu hd=>zNs h hm L (.slice la ln lk) bl hL hin L.length h' p vm vd s b w hb hu hd) h2 p _ _ fv ([],[]) l w2 (sl.ext e12) hl hoff hr (zEZ _ _) (by have:=zEZ L.length [];simp only[Gz];omega)) ?_;rintro _ h3 ⟨vd,w3,k3⟩;obtain⟨gp,rfl⟩:=zHJ w3.own;have wo3:=w3.own;refine gr ?_;exact⟨w3.dn,w3.ext⟩
theorem zKD{T:List U5}{n:Int}{f:WP}(h:BX T n f=true):f.blocks.length<=16/\∀ b,0<=b/\b<(f.blocks.length:Int)->∀ c∈Wp f.blocks b,0<=c/\c<(f.blocks.length:Int):=by
 unfold BX at h;split at h
 ·cases h
 ·rename_i hbad;have hlen:f.blocks.length<=16:=by
   unfold zBl at hbad;simp only[GB,not_or,G8,JA]at hbad;have h1:zS ((f.blocks.length:Int)-1) 16=true:=by simpa using hbad.1.2
   unfold zS at h1;simp only[QF,QV]at h1;omega
  refine⟨hlen,fun b hb c hc=> ?_⟩;rw[GZ,G2]at h;have hmem:=zJ (l:=f.blocks) (i:=b.toNat) (by omega);have hblk:=h _ hmem;unfold zCc at hblk;simp only[GB,not_or,G8,JA]at hblk;have he:zBN (f.blocks.getD b.toNat default).fin (szL T n f)=true:=by simpa using hblk.2
  unfold Wp Yh at hc;unfold zBN zS szL at he;split at hc
  ·rename_i hk;rw[QI hk]at he;simp only[QF,QV]at he;simp only[QW]at hc;omega
  ·rename_i hk;rw[QC hk]at he;split at hc
   ·rename_i hk2;rw[QI hk2]at he;simp only[QF,QV]at he;split at hc
    ·simp only[QW]at hc;omega
    ·simp only[GL,List.mem_nil_iff,or_false]at hc;rcases hc with rfl|rfl<;>omega
   ·cases hc
theorem Zm{T:List U5}{F:List WP}{f b:Int}(h:(zD T F f b).2=0):(zD T F f b).1.length<=16/\∀ c,0<=c/\c<((zD T F f b).1.length:Int)->∀ d∈Wp (zD T F f b).1 c,0<=d/\d<((zD T F f b).1.length:Int):=by
 obtain⟨_,_,h3,h4⟩:=ZW h;have hin:=zBX h4;rw[h3];exact zKD ((yX hin.2.2).2.2.2 _ (zJ (l:=F) (i:=f.toNat) (by omega)))
inductive Wk(nx:Int->List Int)(a:Int):Int->Prop
 |here:Wk nx a a
 |step {b c:Int}:Wk nx a b->c∈nx b->Wk nx a c
theorem Wk.trans{nx:Int->List Int}{a b c:Int}(h:Wk nx a b)(k:Wk nx b c):Wk nx a c:=by
 induction k with
 |here=>exact h
 |step _ hc ih=>exact .step ih hc
def Bg(s:DS)(c:Int):Prop:=(s.1.lookup c).isSome=true
theorem zAS{s:DS}{b v c:Int}{d:List Int}:Bg (s.1++[(b,v)],d) c↔Bg s c\/c=b:=by
 unfold Bg;rw[zAu];cases h:s.1.lookup c with
 |some w=>simp
 |none=>by_cases e:c=b<;>simp[e]
structure Bu(nx:Int->List Int)(l:List Int)(s s':DS):Prop where
 mono:∀ c,Bg s c->Bg s' c
 keep:∀ c∈s.2,c∈s'.2
 all:∀ c∈l,Bg s' c
 way:∀ c,Bg s' c->Bg s c\/∃ a∈l,Wk nx a c
 done:∀ c,Bg s' c->Bg s c\/c∈s'.2/\∀ d∈nx c,Bg s' d
 of:∀ c∈s'.2,c∈s.2\/Bg s' c
theorem Bu.nil(nx:Int->List Int)(s:DS):Bu nx [] s s:=
 ⟨fun _ h=>h,fun _ h=>h,(fun _ h=>by cases h),fun _ h=> .inl h,fun _ h=> .inl h,fun _ h=> .inl h⟩
theorem Bu.cons{nx:Int->List Int}{x:Int}{l:List Int}{s t u:DS}(a:Bu nx [x] s t)(b:Bu nx l t u):Bu nx (x::l) s u where
 mono:=fun c h=>b.mono c (a.mono c h)
 keep:=fun c h=>b.keep c (a.keep c h)
 all:=fun c h=>by
  rcases GL.1 h with rfl|h
  ·exact b.mono _ (a.all _ (by simp))
  ·exact b.all _ h
 way:=fun c h=>by
  rcases b.way c h with h|⟨y,hy,w⟩
  ·rcases a.way c h with h|⟨y,hy,w⟩
   ·exact .inl h
   ·exact .inr ⟨y,by simp at hy;simp[hy],w⟩
  ·exact .inr ⟨y,by simp[hy],w⟩
 done:=fun c h=>by
  rcases b.done c h with h|h
  ·rcases a.done c h with h|⟨h,k⟩
   ·exact .inl h
   ·exact .inr ⟨b.keep _ h,fun d hd=>b.mono _ (k d hd)⟩
  ·exact .inr h
 of:=fun c h=>by
  rcases b.of c h with h|h
  ·rcases a.of c h with h|h
   ·exact .inl h
   ·exact .inr (b.mono _ h)
  ·exact .inr h
theorem zPN{nx:Int->List Int}{N:Nat}(hin:∀ b,0<=b/\b<(N:Int)->∀ c∈nx b,0<=c/\c<(N:Int)):∀ (n:Nat) (b:Int) (s:DS),BO N s.1<=n->0<=b/\b<(N:Int)->Bu nx [b] s (ZK nx n b s):=by
 intro n;induction n with
 |zero=>
  intro b s h hb;have hbb:Bg s b:=zH1 (Nat.le_zero.1 h) hb;exact⟨fun _ h=>h,fun _ h=>h,fun c hc=>by simp at hc;subst hc;exact hbb,fun _ h=> .inl h,fun _ h=> .inl h,fun _ h=> .inl h⟩
 |succ n ih=>
  intro b s h hb;by_cases hbb:Bg s b
  ·rw[zBh hbb];exact⟨fun _ h=>h,fun _ h=>h,fun c hc=>by simp at hc;subst hc;exact hbb,fun _ h=> .inl h,fun _ h=> .inl h,fun _ h=> .inl h⟩
  ·have hnone:s.1.lookup b=none:=by
    unfold Bg at hbb;cases hq:s.1.lookup b with
    |none=>rfl
    |some w=>rw[hq]at hbb;exact absurd rfl hbb
   have hlt:=zEJ (v:=(s.1.length:Int)) hnone hb;have go:∀ (l:List Int) (t:DS),BO N t.1<=n->(∀ c∈l,0<=c/\c<(N:Int))->Bu nx l t (l.foldl (fun(t:DS) (c:Int)=>ZK nx n c t) t):=by
    intro l;induction l with
    |nil=>intro t _ _;exact .nil _ _
    |cons x l ihl=>
     intro t ht hl;have hx:=ih x t ht (hl x (by simp));exact hx.cons (ihl _ (QO (zCZ fun c hc=>hx.mono c hc) ht) fun c hc=>hl c (by simp[hc]))
   have k:=go (nx b) (s.1++[(b,(s.1.length:Int))],s.2) (by simp only;omega) (hin b hb);have hu:ZK nx (n+1) b s=(((nx b).foldl (fun(t:DS) (c:Int)=>ZK nx n c t) (s.1++[(b,(s.1.length:Int))],s.2)).1,((nx b).foldl (fun(t:DS) (c:Int)=>ZK nx n c t) (s.1++[(b,(s.1.length:Int))],s.2)).2++[b]):=by
    conv=>lhs;unfold ZK
    rw[QC (by rw[hnone];exact Bool.noConfusion)]
   rw[hu];generalize(nx b).foldl (fun(t:DS) (c:Int)=>ZK nx n c t) (s.1++[(b,(s.1.length:Int))],s.2)=t at k |-;have hb2:Bg t b:=k.mono _ (zAS.2 (.inr rfl));refine⟨fun c h=>k.mono _ (zAS.2 (.inl h)),fun c h=>by simp only[Qi];exact .inl (k.keep c h),fun c hc=>by simp at hc;subst hc;exact hb2,fun c hc=> ?_,fun c hc=> ?_,fun c hc=> ?_⟩
   ·rcases k.way c hc with h|⟨a,ha,w⟩
    ·rcases zAS.1 h with h|rfl
     ·exact .inl h
     ·exact .inr ⟨c,by simp,.here⟩
    ·exact .inr ⟨b,by simp,Wk.trans (.step .here ha) w⟩
   ·rcases k.done c hc with h|⟨h,hd⟩
    ·rcases zAS.1 h with h|rfl
     ·exact .inl h
     ·exact .inr ⟨by simp,fun d hd=>k.all d hd⟩
    ·exact .inr ⟨by simp only[Qi];exact .inl h,hd⟩
   ·simp only[Qi,QW]at hc;rcases hc with hc|rfl
    ·exact k.of c hc
    ·exact .inr hb2
theorem zDG{nx:Int->List Int}{N n:Nat}(hin:∀ b,0<=b/\b<(N:Int)->∀ c∈nx b,0<=c/\c<(N:Int)):∀ (l:List Int) (s:DS),BO N s.1<=n->(∀ c∈l,0<=c/\c<(N:Int))->Bu nx l s (Z3 nx n l s)
 |[],s,_,_=> .nil _ _
 |x::l,s,h,hl=>by
  have hx:=zPN hin n x s h (hl x (by simp));exact hx.cons (zDG hin l _ (QO (zCZ fun c hc=>hx.mono c hc) h) fun c hc=>hl c (by simp[hc]))
theorem zKX{nx:Int->List Int}{N:Nat}(hin:∀ b,0<=b/\b<(N:Int)->∀ c∈nx b,0<=c/\c<(N:Int)){l:List Int}(hl:∀ c∈l,0<=c/\c<(N:Int)){c:Int}:c∈(Z3 nx N l ([],[])).2↔∃ a∈l,Wk nx a c:=by
 have k:=zDG (n:=N) hin l ([],[]) (zEZ _ _) hl;have no:∀ d,¬Bg (([],[]):DS) d:=fun d h=>by unfold Bg at h;exact Bool.noConfusion h
 constructor
 ·intro h;rcases k.of c h with h|h
  ·cases h
  ·rcases k.way c h with h|h
   ·exact absurd h (no _)
   ·exact h
 ·rintro⟨a,ha,w⟩;have:Bg (Z3 nx N l ([],[])) c:=by
   induction w with
   |here=>exact k.all _ ha
   |step _ hc ih=>
    rcases k.done _ ih with h|⟨_,h⟩
    ·exact absurd h (no _)
    ·exact h _ hc
  rcases k.done c this with h|h
  ·exact absurd h (no _)
  ·exact h.1
set_option maxRecDepth 100000
def zR(L:List WW)(b:Int)(k:Nat):List Int:=((List.range k).filter fun(i:Nat)=>decide (b∈Yh (L.getD i default).fin)).map fun(i:Nat)=>(i:Int)
theorem zDK(L:List WW)(b:Int)(k:Nat):zR L b (k+1)=if b∈Yh (L.getD k default).fin then zR L b k++[(k:Int)]else zR L b k:=by
 unfold zR;rw[Gy,List.filter_append,GA];by_cases h:b∈Yh (L.getD k default).fin
 ·rw[QI h,List.filter_cons_of_pos (by simpa using h)];rfl
 ·rw[QC h,List.filter_cons_of_neg (by simpa using h)];simp
theorem zA9(L:List WW)(b:Int)(k:Nat):(zR L b k).length<=k:=by
 unfold zR;rw[Qp];exact QO (List.length_filter_le _ _) (by simp)
def YO(T:List U5)(F:List WP)(f b:Int):List Int×Int:=
 if(zD T F f b).2≠0 then([],(zD T F f b).2)else(zR (zD T F f b).1 b (zD T F f b).1.length,0)
noncomputable def zMx:U3:=(oV (oR [oB .lss 24 23 22]) (oV (oT 24 0) (oV (o5 1 (oV (oR [oM 25 23,oI 5 26 21 23,oA 5 27 26,⟨some 10,none,(.alloc [(.slice none 0 0),(.int .u8 0),(.int .i64 0),(.int .i64 0),(.int .i64 0)])⟩,oM 9 25,oS 5 10 27]) (oV (oR [oF 1 28 10,oA 4 29 28,o1 30 181 29,oM 31 2,o2 32 126 30 31]) (oJ 32 (oR [oM 33 6,oM 34 9,⟨some 35,none,(.buildSlice 1 1 [(.int .i64 0)] [(0,1,(.tmp 34))])⟩,oY 1 36 33 35,oM 6 36]) .skip)))) (oR [oC .add 37 23 1,oM 23 37]))))
noncomputable def zQa:U3:=(oV (oR [oX 3 0,oK 6 (.slice none 0 0),oN 7 0]) (oV (oR [oA 2 12 3,oM 13 1,oM 14 2,o3 15 117 12 13 14,oM 11 15,oE 16 11 0,oE 17 11 1,oM 8 16,oM 7 17]) (oV (oV (oR [oM 18 7,oC .neq 19 18 0]) (oJ 19 (oV (oR [oM 20 7,oK 6 (.slice none 0 0),oM 7 20]) .ret) .skip)) (oV (oV (oR [oM 21 8,oQ 22 21,oN 23 0]) (o5 0 (.loop zMx))) (oV (oR [oM 38 6,oM 6 38,oN 7 0]) .ret)))))
theorem zNU(h:U2)(vt vf:Value)(T:List U5)(F:List WP)(f b:Int)(tt:Be h)(hm:h.mark<=h.n)(sm:BG T F)(st:Wv h vt T)(sf:Wr h vf F):
  WC Tryz.prog tb 123 [.agg #[vt,vf],I f,I b] h fun r h'=>(∃ v,r=.tuple #[v,I (YO T F f b).2]/\WJ h h' v (YO T F f b).1)/\U8 h h':=by
 refine en 39 [(6,none),(7,none)] zQa ?_;refine VH ?_;intro p h1 e1 o1;refine go ?_;refine VA (zC6 h1 vt vf T F f b (tt.ext e1) (yO e1 hm) sm (st.ext e1) (Wr.ext sf e1)) ?_;rintro _ h2 ⟨⟨v,rfl,sb⟩,e2⟩;have e12:=e1.trans e2;refine go ?_;refine VE (fun hb=> ?_) (fun hb=> ?_)<;>simp only[DB]at hb<;>refine go ?_
 ·refine rt ?_;rw[show YO T F f b=([],(zD T F f b).2)from by rw[YO,QI hb]];exact⟨⟨_,rfl,.inl ⟨rfl,rfl⟩⟩,e12⟩
 have hb0:(zD T F f b).2=0:=by omega
 obtain⟨hlen,hnx⟩:=Zm hb0;rw[show YO T F f b=(zR (zD T F f b).1 b (zD T F f b).1.length,0)from by rw[YO,QC (by omega)]];generalize(zD T F f b).1=L at *;refine VD [24,25,26,27,10,9,28,29,30,31,32,33,34,35,36,6,37,23] (by kernel_rfl) (fun k=>L.length-k) (fun k t h3=>zB t 23=I k/\k<=L.length/\U8 h2 h3/\∃ w,zB t 6=w/\WJ h2 h3 w (zR L b k)) 0 ?_ ?_
 ·exact⟨WA,QT _,U8.refl _,.slice none 0 0,WA,.inl ⟨rfl,rfl⟩⟩
 rintro k t h3 hsame ⟨s23,hk,e23,w,s6,ow⟩;have sb3:=BF.ext sb e23;refine go ?_;refine VE (fun hc=> ?_) (fun hc=> ?_)<;>simp only[DB]at hc
 ·have hk':k<L.length:=by omega
  obtain⟨cs,⟨vi,rfl,si,hsi⟩,pc,hs⟩:=yv sb3 hk';obtain⟨_,_,_,rfl⟩:=zF si;refine go ?_;refine WO.al ?_;intro p4 h4 e4 o4;refine go ?_;refine VG o4 e4 ?_;intro h5 e5 o5 _;refine go ?_;refine VA (zKF h5 (L.getD k default).fin) ?_;rintro r h6 ⟨s6',_,e6⟩;have hn2:=zH9 (L.getD k default).fin;refine go ?_;refine VA (zAH h6 r _ b s6' (by omega)) ?_;rintro _ _ ⟨rfl,rfl⟩;have ow6:=(ow.ext e5).ext e6;have e36:=e5.trans e6;have hsucc:=zDK L b k;have hal:=zA9 L b k;refine go ?_;refine VE (fun hd=> ?_) (fun hd=> ?_)<;>simp only[DB]at hd<;>refine go ?_
  ·rw[QI hd]at hsucc;refine WO.bl [(k:Int)] ?_;intro v7 h7 e7 o7;refine go ?_;refine Vb (ow6.ext e7) o7.sl ((e23.trans e36).trans e7) (by simp only[Qa];omega) ?_;intro v8 h8 e8 o8;refine go ?_;exact zA (k+1) (by omega) ⟨Wx,by omega,e8,v8,WA,by rw[hsucc];exact o8⟩
  ·rw[QC hd]at hsucc;exact zA (k+1) (by omega) ⟨Wx,by omega,e23.trans e36,w,WA,by rw[hsucc];exact ow6⟩
 ·have hkk:k=L.length:=by omega
  subst hkk;refine gr ?_;exact⟨⟨_,rfl,ow.since e12⟩,e12.trans e23⟩
set_option maxRecDepth 100000
noncomputable def zQB:U3:=(oV (oR [oZ 2]) (oV (oR [oM 3 0,oM 4 0,oB .neq 5 3 4,oM 2 5]) .ret))
theorem zNE(h:U2)(n:Int):WC Tryz.prog tb 256 [I n] h fun r h'=>r=.bool false/\h=h':=by
 refine en 6 [(2,none)] zQB ?_;refine rt ?_;exact⟨by simp[one],rfl⟩
noncomputable def zST:U3:=(oV (oR [oZ 4]) (oV (oR [oM 5 0,o1 6 256 5,oM 7 6,oG 7 (oM 8 1),oG 7 (o1 9 256 8),oG 7 (oW 10 9),oP 11 7 10,oM 12 11,oH 12 (oM 13 0),oH 12 (oM 14 1),oH 12 (oB .lss 15 13 14),oO 16 12 15,oM 4 16]) .ret))
theorem Zb(h:U2)(a b:Int):WC Tryz.prog tb 242 [I a,I b] h fun r h'=>r=.bool (decide (a<b))/\h=h':=by
 refine en 17 [(4,none)] zST ?_;refine VA (zNE h a) ?_;rintro _ _ ⟨rfl,rfl⟩;refine gr ?_;exact⟨by simp[one],rfl⟩
noncomputable def zMm:U3:=(oV (oV (o6 [oM 16 7,oM 17 1,oB .gtr 18 16 17,oM 19 18,oG 19 (oM 20 0),oG 19 (oM 21 7),oG 19 (oI 1 22 20 21),oG 19 (oL 23 22),oG 19 (oM 24 0),oG 19 (oM 25 7),oG 19 (oC .sub 26 25 1),oG 19 (oI 1 27 24 26),oG 19 (oL 28 27),oG 19 (o2 29 242 23 28),oP 30 19 29]) (oT 30 2)) (oV (o5 3 (o6 [oM 33 0,oM 34 7,oM 35 0,oM 36 7,oC .sub 37 36 1,oM 38 0,oM 39 7,oC .sub 40 39 1,oI 1 41 38 40,oL 42 41,oM 43 0,oM 44 7,oI 1 45 43 44,oL 46 45,oI 1 47 33 34,oS 1 47 42,oI 1 48 35 37,oS 1 48 46])) (oR [oM 31 7,oC .sub 32 31 1,oM 7 32])))
noncomputable def zMS:U3:=(oV (oV (oR [oM 10 6,oM 11 2,oB .lss 12 10 11]) (oT 12 0)) (oV (o5 1 (oV (oR [oM 15 6,oM 7 15]) (o5 2 (.loop zMm)))) (oR [oM 13 6,oC .add 14 13 1,oM 6 14])))
noncomputable def zKW:U3:=(oV (oR [oM 8 1,oC .add 9 8 1,oM 6 9]) (o5 0 (.loop zMS)))
theorem zGU(hB h:U2)(v:Value)(xs:List Int)(a b:Int)(e0:U8 hB h)(hmB:hB.mark<=hB.n)(o:We hB h v xs)(h0:0<=a)(hab:a<=b)(hb:b<=xs.length)(hlen:xs.length<=1000000000):
  WC Tryz.prog tb 236 [v,I a,I b] h fun r h'=>∃ ys,We hB h' v ys/\PI a b xs ys/\BU a b ys/\U8 hB h'/\BN v h h':=by
 refine en 49 [] zKW ?_;refine VD [10,11,12,15,7,16,17,18,19,20,21,22,23,24,25,26,27,28,29,30,33,34,35,36,37,38,39,40,41,42,43,44,45,46,47,48,31,32,7,13,14,6] (by kernel_rfl) (fun x=>(b-x.2).toNat) (fun(x:List Int×Int) t h1=>zB t 6=I x.2/\a+1<=x.2/\(x.2<=b\/x.2=a+1)/\We hB h1 v x.1/\U8 hB h1/\BN v h h1/\PI a b xs x.1/\BU a x.2 x.1) (xs,a+1) ?_ ?_
 ·exact⟨WA,by simp only;omega,.inr rfl,o,e0,⟨QE _,fun _ _ _=>rfl⟩,PI.refl ..,VX (by simp only;omega)⟩
 rintro⟨ys,i⟩ t h1 hsame ⟨s6,hi1,hi2,o1,e1,u1,p1,r1⟩;simp only at s6 hi1 hi2 o1 e1 u1 p1 r1;have hyl:=p1.len;refine go ?_;refine VE (fun hc=> ?_) (fun hc=> ?_)<;>simp only[DB]at hc
 ·refine go ?_;refine VD [16,17,18,19,20,21,22,23,24,25,26,27,28,29,30,33,34,35,36,37,38,39,40,41,42,43,44,45,46,47,48,31,32,7] (by kernel_rfl) (fun x=>(x.2-a).toNat) (fun(x:List Int×Int) t h2=>zB t 7=I x.2/\a<=x.2/\x.2<=i/\We hB h2 v x.1/\U8 hB h2/\BN v h h2/\PI a b xs x.1/\∀ p q,a<=p->p<=q->q<=i->q≠x.2->WH x.1 p<=WH x.1 q) (ys,i) ?_ ?_
  ·exact⟨WA,by simp only;omega,by simp only;omega,o1,e1,u1,p1,fun p q h1 h2 h3 h4=>r1 p q h1 h2 (by simp only at h4;omega)⟩
  rintro⟨zs,j⟩ t2 h2 hsame2 ⟨s7,hj1,hj2,o2,e2,u2,p2,r2⟩;simp only at s7 hj1 hj2 o2 e2 u2 p2 r2;have hzl:=p2.len;refine goC ?_;refine VC 0 rfl rfl ?_;have sr:WM (inC (zC 0 h2)) v zs:=o2.sl;refine WT ?_;refine VI (fun hd=> ?_) (fun hd=> ?_)<;>simp only[DB]at hd<;>refine WT ?_
  ·refine VA (Zb _ (WH zs j) (WH zs (j-1))) ?_;rintro _ _ ⟨rfl,rfl⟩;refine nQ ?_;refine WT ?_;rw[zAp];refine VE (fun he=> ?_) (fun he=> ?_)<;>simp only[DB]at he<;>refine goC ?_
   ·refine VC 0 rfl rfl ?_;have sr2:WM (inC (zC 0 h2)) v zs:=o2.sl;refine WT ?_;refine VM j (j-1) o2 e2 (by rw[e2.mark];exact hmB) ?_;intro h3 e3 o3 u3;refine go ?_;exact zA (swp zs j (j-1),j-1) (by simp only;omega) ⟨WA,by simp only;omega,by simp only;omega,o3,e3,u2.trans u3,p2.trans (PI.swp (by omega) (by omega) (by omega) (by omega)),zIp h0 hd hj2 (by omega) he r2⟩
   ·refine go ?_;refine zA (zs,i+1) (by simp only;omega) ⟨WA,by simp only;omega,by simp only;omega,o2,e2,u2,p2,fun p q h1 h2 h3=> ?_⟩;by_cases hq:q=j
    ·subst hq;by_cases hp:p=q
     ·subst hp;exact Qk _
     ·have:=r2 p (q-1) h1 (by omega) (by omega) (by omega);simp only;omega
    ·exact r2 p q h1 h2 (by simp only at h3;omega) hq
  ·rw[zAp];refine goC ?_;refine zA (zs,i+1) (by simp only;omega) ⟨WA,by simp only;omega,by simp only;omega,o2,e2,u2,p2,fun p q h1 h2 h3=> ?_⟩;by_cases hq:q=j
   ·have hp:p=q:=by omega
    subst hp;exact Qk _
   ·exact r2 p q h1 h2 (by simp only at h3;omega) hq
 ·refine go ?_;refine BB ?_;exact⟨ys,o1,p1,fun p q h1 h2 h3=>r1 p q h1 h2 (by omega),e1,u1⟩
end Go.Proofs.YtmejfcakhpihlaaGreatDoor
