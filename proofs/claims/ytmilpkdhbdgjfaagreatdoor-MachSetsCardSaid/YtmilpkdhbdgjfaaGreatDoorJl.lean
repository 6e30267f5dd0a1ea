/- Walks of functions, plain laws; proves no statement. -/
import Derived.Test.YtmilpkdhbdgjfaaGreatDoorJk
set_option linter.all false
set_option maxHeartbeats 4000000
set_option maxRecDepth 100000
namespace Go.Am
section
variable {P:Program}{tab:Ww}{t:WJ Value}{ds:List Deferred}{rd:Option Nat}{h:WG}{Q:WT->WG->Prop}{l:List WH}{d:Nat}{x y:Operand}
theorem XJ{len c i:Nat}{p:Value}{cs:List Value}{h0:WG}(o:WI h0 h p cs)(hi:i<len)(k:WO P tab l ⟨t.set d (zu p (i*c)),ds,rd⟩ h Q)(hx:WR t x p:=by exact zY)(hy:WR t y (I (i:Int)):=by exact zY):WO P tab (⟨some d,none,.idxArr len c x y⟩::l) ⟨t,ds,rd⟩ h Q:=
 WO.op _ _ rfl (by unfold WR at hx hy;exact Vg (P:=P) (ih:=Ex.bot) (c:=c) hx (by rw[hy];rfl) o hi) k
theorem Xt{len c n g:Nat}{row:List Value}(hg:h.get g=some (.row row true 0))(hn:n<=len)(hl:len*c<=row.length)(k:WO P tab l ⟨t.set d (.slice (some ⟨g,0,none⟩) n c),ds,rd⟩ h Q)(hx:WR t x (.pointer (some ⟨g,0,none⟩)):=by exact zY)(hy:WR t y (I (n:Int)):=by exact zY):WO P tab (⟨some d,none,.sliceArr len c x none (some y) none⟩::l) ⟨t,ds,rd⟩ h Q:=
 WO.op _ _ rfl (by
  have hx:ev t x=_:=hx;have hy:ev t y=_:=hy;have b1:Nat.ble 0 n=true:=QF (QU _);have b2:Nat.ble n len=true:=QF hn;have b3:Nat.ble (0+len*c) row.length=true:=QF (by omega);have e:BI (I (n:Int))=some n:=rfl;simp only[WP,hx,Yq,hy,e,QH,zt,hg,Gd,Q3,b1,b2,b3,Qe,Qm,cond_true,G7,G9,Nat.sub_zero]) k
theorem Ue{m N0 g c k n q off:Nat}{cl:Bool}{K:WQ->WT->WG->Prop}{hS X:WG}{row ys:List Value}{w:Value}(hq:X.get q=some (.row row true 0))(hm:m<=q)(s:Wv c (Am.inC X) w k ys)(hc:0<c)(h0:0<k)(hk:k<=n)(hl:off+ys.length<=row.length)(h1:zH ys=true)
  (kk:∀ H,H.n=X.n->(∀ j,j≠q->H.get j=X.get j)->H.get q=some (.row (zL row off ys) true 0)->(Wf X->Wf H)->H.mark=hS.mark->H.wr=hS.wr->K .normal ⟨t.set d (I k),ds,rd⟩ H)
  (hx:WR t x (.slice (some ⟨q,off,none⟩) n c):=by exact zY) (hy:WR t y w:=by exact zY):We P tab m N0 [(⟨some d,none,.copy c x y⟩,[])] g cl ⟨t,ds,rd⟩ (Am.inC X) (B1 K hS):=by
 have hx:ev t x=_:=hx;have hy:ev t y=_:=hy;have hs:=ZH s;have hlen:ys.length / c=k:=by rw[s.1];exact Nat.mul_div_cancel _ hc
 have hmin:min (ys.length / c) n=k:=by rw[hlen];exact GC hk
 have htk:ys.take (k*c)=ys:=Qn (by rw[s.1];exact QE _);have hb:Nat.beq k 0=false:=by cases hb:Nat.beq k 0 with
  |false=>rfl
  |true=>exact absurd (QJ hb) (by omega)
 have hq':(Am.inC X).get q=some (.row row true 0):=hq;refine We.q rfl ?_;refine WO.op (I k) ((Am.inC X).set q (.row (zL row off ys) true 0)) rfl ?_ (WO.nil (zPJ (zES hm rfl) (QE _) (kk _ rfl (fun j hj=> ?_) ?_ (fun w j hj=> ?_) rfl rfl)))
 ·simp only[WP,hx,hy,hs,hmin,htk,hb,QT,GP,Qe,Qm,cond_true,zBC hq' hl h1,QH]
 ·exact(zU _ _ _ _).trans (QC hj)
 ·exact(zU _ _ _ _).trans (QG rfl)
 ·have hj:X.n<=j:=hj;by_cases e:j=q
  ·subst e;have:=w.lt hq;omega
  ·exact(zU _ _ _ _).trans ((QC e).trans (w j hj))
end
end Go.Am
namespace Go.Proofs.YtmilpkdhbdgjfaaGreatDoor
open Go.Am
def zL9:List Int->Int->Nat
 |[],_=>0
 |x::l,n=>if x=n then 0 else zL9 l n+1
theorem zJe:∀ {l:List Int} {n:Int} {k:Nat},k<l.length->l.getD k 0=n->(∀ j,j<k->l.getD j 0≠n)->zL9 l n=k
 |[],_,k,hk,_,_=>absurd hk (Ql _)
 |x::l,n,0,_,h,_=>by unfold zL9;rw[QG (by simpa using h)]
 |x::l,n,k+1,hk,h,h2=>by
  unfold zL9;rw[QC (by have:=h2 0 (Nat.succ_pos _);simpa using this),zJe (l:=l) (k:=k) (by simpa using hk) (by simpa using h) (fun j hj=>by have:=h2 (j+1) (by omega);simpa using this)]
def ZF(fr:BT)(x:Ws):Wi:=fr.regs.getD (x.args.getD (zL9 x.frm fr.block) 0).toNat default
def zCP(l:List Wi)(k:Nat)(ys:List Wi):List Wi:=l.take k++ys++l.drop (k+ys.length)
def zAl(T:List WK)(F:List Wk)(f b:Int):Int:=((zAi T F f).length:Int)+yI ((z0 F f).take b.toNat)
def psA(F:List Wk)(a:Wb)(b:Int):List Ws:=zBc ((z0 F (zJ a).fn).getD b.toNat default).ins
def Zy(T:List WK)(F:List Wk)(a:Wb)(b:Int):Wb×Int:=
 if yo a=false then(zM,160)
 else if b<0\/((z0 F (zJ a).fn).length:Int)<=b then(zM,2)
 else if((psA F a b).all fun x=>decide ((zJ a).block∈x.frm))=false then(zM,2)
 else if((psA F a b).all fun x=>decide (ZF (zJ a) x≠v0))=false then(zM,6)
 else(putF a {zJ a with regs:=zCP (zJ a).regs (zAl T F (zJ a).fn b).toNat ((psA F a b).map (ZF (zJ a))),block:=b,pos:=((psA F a b).length:Int)},0)
abbrev vc(v:Wi):List Value:=[.int .u8 v.kind,I v.n,I v.block,I v.pos]
def Bo(l:List Wi):List Value:=l.flatMap vc
def Z7(l:List Wi):List Value:=Bo l++zS [.int .u8 0,I 0,I 0,I 0] (128-l.length)
theorem Zl:∀ l:List Wi,(Bo l).length=l.length*4
 |[]=>rfl
 |v::l=>by
  show(vc v++Bo l).length=_;rw[QW,Zl l];show 4+l.length*4=(l.length+1)*4;omega
theorem zKO:∀ l:List Wi,zH (Bo l)=true
 |[]=>rfl
 |v::l=>zKO l
theorem zCc{l:List Wi}(h:l.length<=128):(Z7 l).length=512:=by
 unfold Z7;rw[QW,Zl,zGL];show _+_*4=_;omega
theorem zLB{l:List Wi}{v:Wi}(h:l.length<128):zL (Z7 l) (l.length*4) (vc v)=Z7 (l++[v]):=by
 obtain⟨m,hm⟩:∃ m,128-l.length=m+1:=⟨127-l.length,by omega⟩;unfold zL Z7;rw[show Bo (l++[v])=Bo l++vc v by unfold Bo;simp,show 128-(l++[v]).length=m by simp;omega,hm];rw[<-Zl,List.take_left,show(Bo l).length+(vc v).length=(Bo l).length+4 from rfl,<-GZ,List.drop_left];rfl
theorem zJN:∀ {l:List Wi} {i:Nat} {v:Wi},l[i]?=some v->∀ z,((Bo l++z).drop (i*4)).take 4=vc v
 |[],_,_,h,_=>by simp at h
 |w::l,0,v,h,z=>by simp at h;subst h;rfl
 |w::l,i+1,v,h,z=>by
  have h:l[i]?=some v:=by simpa using h
  have:=zJN h z;rw[GW,Nat.add_comm,<-GZ];exact this
theorem zQH{h:WG}{g n:Nat}{l:List Wi}(hg:h.get g=some (.row (Z7 l) true 0))(hn:g<h.n)(e:n=l.length):Wv 4 h (.slice (some ⟨g,0,none⟩) n 4) n (Bo l):=by
 subst e;refine⟨Zl l,.inr ⟨g,0,Z7 l,rfl,by unfold zt;rw[hg],?_,hn⟩⟩;rw[yu (by unfold Z7;rw[QW,Zl];omega),Qx,<-Zl];unfold Z7;rw[List.take_left]
theorem zNQ{b q:Nat}{h h':WG}{l ys:List Wi}{k:Nat}{row:List Value}(o:WZ 4 W5 b h (.slice (some ⟨q,0,none⟩) l.length 4) l)(hq:h.get q=some (.row row true 0))(hk:k+ys.length<=l.length)(hn:h'.n=h.n)(hw:h'.get q=some (.row (zL row (k*4) (Bo ys)) true 0)):WZ 4 W5 b h' (.slice (some ⟨q,0,none⟩) l.length 4) (zCP l k ys):=by
 rcases o with⟨e,_⟩|⟨g,cells,D,g1,g2,e,g3,g4,_,_,g7⟩
 ·cases e
 cases e;rw[hq]at g3;cases g3;have hlen:(zCP l k ys).length=l.length:=by unfold zCP;simp;omega
 have hrl:row=Bo l:=by
  refine Gy fun j=> ?_;have hrow:row.length=l.length*4:=g4;by_cases hj:j<l.length*4
  ·have hi:j / 4<l.length:=by omega
   have h1:=(g7 (j / 4) l[j / 4] (QB hi)).self;have h2:=zJN (QB hi) [];rw[G4]at h2;have h3:(row.drop (j / 4*4)).take 4=((Bo l).drop (j / 4*4)).take 4:=by rw[h2];exact h1
   have h4:=congrArg (fun z:List Value=>z[j % 4]?) h3;simp only[List.getElem?_take_of_lt (show j % 4<4 by omega),GF]at h4;rwa [show j / 4*4+j % 4=j by omega]at h4
  ·rw[GV (by omega),GV (by rw[Zl];omega)]
 subst hrl;have hput:zL (Bo l) (k*4) (Bo ys)=Bo (zCP l k ys):=by
  have hA:l=l.take k++l.drop k:=(GG k l).symm;have hB:l.drop k=(l.drop k).take ys.length++l.drop (k+ys.length):=by rw[<-GZ];exact(GG _ _).symm
  have hv:∀ A B:List Wi,Bo (A++B)=Bo A++Bo B:=fun A B=>by unfold Bo;simp
  have l1:(Bo (l.take k)).length=k*4:=by rw[Zl,Qq,GC (by omega)]
  have l2:(Bo ((l.drop k).take ys.length)).length=ys.length*4:=by rw[Zl,Qq,Gk,GC (by omega)]
  unfold zL zCP;rw[hv,hv];conv=>lhs;rw[hA,hB,hv,hv]
  rw[Zl,<-l1,List.take_left,show(Bo (l.take k)).length+ys.length*4=(Bo (l.take k)).length+ys.length*4 from rfl,<-GZ,List.drop_left,<-l2,List.drop_left]
 rw[hput]at hw;refine .inr ⟨q,Bo (zCP l k ys),fun _=>False,g1,by omega,by rw[hlen],hw,Zl _,id,fun _ h=>h.elim,fun i x hx _ _ _=> ?_⟩;have:=zJN hx [];rw[G4]at this;exact this
theorem zM3{a:Wb}(l:List Wi)(k:Nat):zCP l k []=l:=by unfold zCP;simp
theorem zNF{a:Wb}{i:Nat}(hi:i<a.frs.length):{a with frs:=a.frs.set i {a.frs.getD i default with regs:=(a.frs.getD i default).regs}}=a:=by
 have:a.frs.set i (a.frs.getD i default)=a.frs:=by
  rw[QL,QB hi];exact List.set_getElem_self hi
 show {a with frs:=a.frs.set i (a.frs.getD i default)}=a;rw[this]
theorem U1{b:Nat}{h H:WG}{vf vi:Value}{xs:List Br}{a:Wb}{i:Nat}{x':Br}{fr':BT}(M:OM b h vf vi xs a)(hi:i<a.frs.length)(oY:WZ 5 B7 b H vf (xs.set i x'))(hk:∀ k,k<h.n->blk vf≠some k->H.get k=h.get k)(hn:h.n<=H.n)
  (hv:x'.v=(xs.getD i default).v) (hr:fr'.regs=(a.frs.getD i default).regs) (rel:zGq x' fr'):OM b H vf vi (xs.set i x') {a with frs:=a.frs.set i fr'}:=by
 have hx:i<xs.length:=by rw[M.lx];exact hi
 have hsx:∀ j,(xs.set i x').getD j default=if j=i then x' else xs.getD j default:=fun j=>yS hx;have hsv:∀ j,((xs.set i x').getD j default).v=(xs.getD j default).v:=fun j=>by
  rw[hsx];split
  ·rename_i e;rw[e];exact hv
  ·rfl
 have hsf:∀ j,(a.frs.set i fr').getD j default=if j=i then fr' else a.frs.getD j default:=fun j=>yS hi;have hsr:∀ j,((a.frs.set i fr').getD j default).regs=(a.frs.getD j default).regs:=fun j=>by
  rw[hsf];split
  ·rename_i e;rw[e];exact hr
  ·rfl
 have u:UpB vf h H:=⟨hn,hk⟩;refine⟨oY,by simp[M.lx],fun j hj=> ?_,fun j hj=> ?_,fun j k hj hk=> ?_,fun j hj=> ?_,let⟨hb,h1,h2⟩:=M.i;⟨hb,h1,h2.upB u M.offI.1.symm⟩,⟨M.offI.1,fun j hj=> ?_⟩,QO M.bn hn,M.nm,by simpa using M.lf,M.li,fun j hj=> ?_⟩
 ·rw[hsx,hsf];split
  ·exact rel
  ·exact M.rel j (by simpa using hj)
 ·rw[hsv,hsr];exact(M.rg j (by simpa using hj)).upB (fun _ _ _ _ r=>r) u (M.offF j (by simpa using hj))
 ·rw[hsv,hsv];exact M.off j k hj (by simpa using hk)
 ·rw[hsv];exact M.offF j (by simpa using hj)
 ·rw[hsv];exact M.offI.2 j (by simpa using hj)
 ·rw[hsr];exact M.lr j (by simpa using hj)
theorem zIB{L:List Wm}{i:Nat}(h:i<L.length):yI (L.take i)+((L.getD i default).ins.length:Int)<=yI L:=by
 have:=zII L (i+1);rw[GM,QB h]at this;unfold yI at this |-;simp only[Option.toList_some,Ga,Q6,Gp,List.sum_append,List.sum_cons,List.sum_nil]at this;rw[QL,QB h];simpa using this
section
variable {h:WG}{vt vf:Value}{T:List WK}{F:List Wk}
theorem zKm(E:B3 h vt vf T F)(hp:yl T F=0){f:Int}(hf:0<=f/\f<(F.length:Int))(b k:Int)(hb:0<=b/\b<((z0 F f).length:Int))(hk:0<=k/\k<(((z0 F f).getD b.toNat default).ins.length:Int)):
  WC Tryz.prog tb 41 [.agg #[vt,vf],I f,I b,I k] h fun r h'=>r=.tuple #[I (zAl T F f b+k),I 0]/\WL h h':=by
 have hF:=E.sm.funcs;have hask:yb T F f=(((T.getD (F.getD f.toNat default).sig.toNat default).parts.length:Int),0):=by
  unfold yb;rw[QC (fun e=>e hp),QG (by unfold za;simp;omega)]
 obtain⟨f0,f1,hp,hask,-,p0,p1,hlen,hmany,hins,hfn⟩:=(zPE (f:=f) E.sm (by rw[hask])).1;have hB:=E.sm.blocks _ (zP (l:=F) (i:=f.toNat) (by omega));have hI:=E.sm.ins _ (zP (l:=F) (i:=f.toNat) (by omega));unfold zAl zAi;unfold z0 at hb hk |-;refine en ?_;refine VG ?_;intro p h1 e1 o1;have E1:=E.ext e1;refine go ?_;refine VA (zHa h1 vt vf T F f E1.tt E1.hm E1.sm E1.st E1.sf) ?_;rintro _ h2 ⟨rfl,e2⟩;rw[hask];have o2:=o1.ext e2;have E2:=E1.ext e2;have sf2:=E2.sf;obtain⟨ta,tn,tk,rfl⟩:=zQ E.st;obtain⟨ga,gn,gk,rfl⟩:=zQ E.sf;obtain⟨cs,⟨vb,rfl,sb,hlb⟩,pc,hs⟩:=yr (i:=f.toNat) sf2 (by omega);obtain⟨ba,bn,bk,rfl⟩:=zQ sb;generalize(T.getD (F.getD f.toNat default).sig.toNat default).parts.length=par at *;generalize(F.getD f.toNat default).blocks=L at *;obtain⟨csB,⟨vi,rfl,si,hli⟩,pcB,hsB⟩:=yr (i:=b.toNat) sb (by omega);obtain⟨ia,iN,ik,rfl⟩:=zQ si;obtain⟨vs,hvs,sbs⟩:=zFC (i:=b.toNat) sb (by omega) (by omega);refine go ?_;refine VA (yi h2 b L.length) ?_;rintro _ _ ⟨rfl,rfl⟩;rw[show za b L.length=true by unfold za;rw[QS hb.1,QS hb.2];rfl];refine go ?_;refine VA (yi h2 k (L.getD b.toNat default).ins.length) ?_;rintro _ _ ⟨rfl,rfl⟩;rw[show za k (L.getD b.toNat default).ins.length=true by unfold za;rw[QS hk.1,QS hk.2];rfl];refine go ?_;have hbt:(b.toNat:Int)=b:=by omega
 refine Vl (i:=b.toNat) (hy:=by rw[hbt];exact zY) hvs ?_;have hlt:(L.take b.toNat).length<=1000:=by rw[Qq];omega
 have hIt:∀ x∈L.take b.toNat,x.ins.length<=1000:=fun x hx=>hI x (List.mem_of_mem_take hx);obtain⟨va,vn,vk,rfl⟩:=zQ sbs;refine go ?_;refine VA (zDY h2 0 _ _ sbs hlt hIt) ?_;rintro _ h3 ⟨rfl,e3⟩;have hmt:=Z9 (L.take b.toNat);have hmt2:=zII L b.toNat;refine gr ?_;exact⟨rfl,e1.trans (e2.trans e3)⟩
end
end Go.Proofs.YtmilpkdhbdgjfaaGreatDoor
set_option maxRecDepth 100000
namespace Go.Proofs.YtmilpkdhbdgjfaaGreatDoor
open Go.Am
theorem zEE:∀ {l:List Ws} {x:Ws},x∈zBc l->x∈l/\x.op=22
 |[],x,h=>by cases h
 |y::l,x,h=>by
  have h:x∈(y::l).takeWhile YQ:=h;rw[List.takeWhile_cons]at h;split at h
  ·rename_i hy;rcases GN.1 h with rfl|h
   ·exact⟨by simp,by unfold YQ at hy;simpa using hy⟩
   ·exact⟨GB _ (zEE h).1,(zEE h).2⟩
  ·cases h
section
variable {h:WG}{vt vf:Value}{T:List WK}{F:List Wk}
abbrev zE:Value:= .iface 26 (I 6)
theorem zLc(E:B3 h vt vf T F)(a:Wb)(hp0:yo a=true->yl T F=0)(ca:List Value){b:Nat}(ra:FM b h ca a)(hfr:yo a=true->(0<=(zJ a).fn/\(zJ a).fn<(F.length:Int))/\((zJ a).regs.length:Int)=Zx T F (zJ a).fn)(blk':Int):
  WC Tryz.prog tb 12 [.agg #[vt,vf],.agg ca.toArray,I blk'] h fun w h'=>(∃ cs,w=.tuple #[.agg cs.toArray,I (Zy T F a blk').2]/\FM h.n h' cs (Zy T F a blk').1)/\WL h h':=by
 have rm0:=ra.rm;have om0:=ra;have hm:=E.hm;obtain⟨am,af,ai,ae,rfl,_,_⟩:=ra.ex;obtain⟨t1,t2,t3,rfl⟩:=zQ E.st;obtain⟨f1,f2,f3,rfl⟩:=zQ E.sf;refine en ?_;refine VG ?_;intro p3 h1 e1 o3;replace o3:WI h h1 p3 [.slice t1 t2 t3,.slice f1 f2 f3]:=o3;have hp3:=o3.within;refine go ?_;refine VG ?_;intro p4 h2 e2 o4;replace o4:WI h1 h2 p4 [am,af,ai,I a.used,ae,I a.steps,I a.heaps,.int .u8 a.state,I a.trap,I a.exit]:=o4;refine go ?_;refine VJ ?_;intro p6 h3 e3 o6;have hp6:=o6.within;have e03:=e1.trans (e2.trans e3);have o3:=o3.ext (e2.trans e3);have o4:=o4.ext e3;refine go ?_;refine VA (zA9 h3 _ a (rm0.ext e03)) ?_;rintro _ h4 ⟨rfl,e4⟩;have o3:=o3.ext e4;have o4:=o4.ext e4;have o6:=o6.ext e4;have o64:=o6;have e04:=e03.trans e4;by_cases hr:yo a=true;case neg=>
  have hr:yo a=false:=by simpa using hr
  rw[show Zy T F a blk'=(zM,160)from QG hr,hr];refine go ?_;refine VF (cs:=[.slice none 0 0,.slice none 0 0,.slice none 0 0,I 0,.slice none 0 0,I 0,I 0,.int .u8 0,I 0,I 0]) o6 (e3.trans e4) ?_;intro h5 e5 o5 u5;refine gr ?_;have e05:=(e1.trans e2).trans e5;exact⟨⟨_,rfl,FM.zero e05.n⟩,e05⟩
 rw[hr];have hp:=hp0 hr;have hne:=Zt hr;obtain⟨hfn,hrg⟩:=hfr hr;refine go ?_;refine VA (zGj h4 _ a (om0.ext e04) (by rw[e04.mark];exact QO hm e04.n) hne) ?_;rintro _ h5 ⟨⟨gq,gf,nf,vm',vi',ve',xs',rfl,oq,nb',M',dq1,dq2,dq3⟩,e5⟩;have o3:=o3.ext e5;have o6:=o6.ext e5;have e05:=e04.trans e5;obtain⟨m1,m2,m3,rfl⟩:=nb'.1.shape;obtain⟨i1,i2,i3,rfl⟩:∃ a n k,vi'=.slice a n k:=let⟨_,_,h2⟩:=M'.i;Wv.shape h2.sl;obtain⟨v1,v2,v3,rfl⟩:=nb'.2.shape;refine go ?_;refine VJ ?_;intro p8 h6 e6 o8;have hp8:=o8.within;refine go ?_;refine VF (cs:=[zR (.slice (some ⟨gf,0,none⟩) nf 5) ((a.frs.length-1)*5),.pointer (some ⟨gq,0,none⟩)]) o8 e6 ?_;intro h7 e7 o8' u8;have hp8':=o8'.since';replace o8:=o8';clear o8' u8;have o3:=o3.ext e7;have o6:=o6.ext e7;have e07:=e05.trans e7;have M7:=M'.ext e7;have oq7:=oq.ext e7;have E7:=E.ext e07;have o37:=o3;have o67:=o6;have o87:=o8;have e27:=(((e3.trans e4).trans e5).trans e7);have hxl:=M7.lx;obtain⟨cs0,⟨rfl,hx0⟩,pc0,hs0⟩:=zd M7.f.sl (i:=a.frs.length-1) (by omega);obtain⟨r1,r2,r3,r4⟩:=M7.rel (a.frs.length-1) (by omega);have tf:zJ a=a.frs.getD (a.frs.length-1) default:=rfl;rw[<-tf]at r1 r2 r3 r4;have owr:=M7.rg (a.frs.length-1) (by omega);obtain⟨w1,w2,w3,hw⟩:=zb owr.sl;have pcG:∀ h',WL h7 h'->Wl h' (.slice (some ⟨gf,0,none⟩) nf 5) ((a.frs.length-1)*5) [I (zJ a).fn,I (zJ a).block,I (zJ a).pos,.slice w1 w2 w3,I (zJ a).into]/\Wl (inC h') (.slice (some ⟨gf,0,none⟩) nf 5) ((a.frs.length-1)*5) [I (zJ a).fn,I (zJ a).block,I (zJ a).pos,.slice w1 w2 w3,I (zJ a).into]:=fun h' e=>by
  have:=pc0 h' e;rw[r1,r2,r3,r4,hw]at this;exact this
 have sv7:BA h7 (.slice w1 w2 w3) (zJ a).regs:=by have:=owr.sl;rw[hw]at this;exact this
 clear pc0;have pcf:=(pcG _ (WL.refl _)).1;have sf7:=E7.sf;obtain⟨csF,⟨vb,rfl,sb,hlb⟩,pxF,hsF⟩:=zd (E.ext e04).sf (i:=(zJ a).fn.toNat) (by omega);obtain⟨b1,b2,b3,rfl⟩:=zQ sb;have e47:=e5.trans e7;have pcF:Wl h7 _ _ _:=(pxF _ e47).1;have hfn0:=hfn;obtain⟨hf0,hf1⟩:=hfn;have Z:=zOb hp hfn0;obtain⟨-,hn0,hn3⟩:=zBK hp hfn0;have hL:(z0 F (zJ a).fn)=(F.getD (zJ a).fn.toNat default).blocks:=rfl;have hz2:blk'<0\/((z0 F (zJ a).fn).length:Int)<=blk'->Zy T F a blk'=(zM,2):=fun q=>by unfold Zy;rw[QC (by rw[hr];decide),QG q]
 have hff:((zJ a).fn.toNat:Int)=(zJ a).fn:=by omega
 have fin2:∀ {n:Int} {K:WG} {cs:List Value},Zy T F a blk'=(zM,n)->cs=[.slice none 0 0,.slice none 0 0,.slice none 0 0,I 0,.slice none 0 0,I 0,I 0,.int .u8 0,I 0,I 0]->WL h2 K->(∃ cs',Value.tuple #[.agg cs.toArray,I n]=.tuple #[.agg cs'.toArray,I (Zy T F a blk').2]/\FM h.n K cs' (Zy T F a blk').1)/\WL h K:=fun {n K cs} q hc e=>by
  subst hc;rw[q];have e0:=(e1.trans e2).trans e;exact⟨⟨_,rfl,FM.zero e0.n⟩,e0⟩
 rw[<-hL]at sb hlb;generalize hLL:z0 F (zJ a).fn=L at *;have sb7:=BW.ext sb e47;by_cases c0:blk'<0
 ·refine go ?_;refine VF (cs:=[.slice none 0 0,.slice none 0 0,.slice none 0 0,I 0,.slice none 0 0,I 0,I 0,.int .u8 0,I 0,I 0]) o6 e27 ?_;intro h8 e8 o9 u9;refine gr ?_;exact fin2 (hz2 (.inl c0)) rfl e8
 by_cases c1:(L.length:Int)<=blk'
 ·refine go ?_;refine VF (cs:=[.slice none 0 0,.slice none 0 0,.slice none 0 0,I 0,.slice none 0 0,I 0,I 0,.int .u8 0,I 0,I 0]) o6 e27 ?_;intro h8 e8 o9 u9;refine gr ?_;exact fin2 (hz2 (.inr c1)) rfl e8
 have hbl:blk'.toNat<L.length:=by omega
 refine go ?_;refine VJ ?_;intro p9 h8 e8 o9;replace o9:WI h7 h8 p9 (Z7 []):=o9;have hp9:=o9.within;have hp9':=o9.since';have o3:=o3.ext e8;have o6:=o6.ext e8;have o8:=o8.ext e8;have e08:=e07.trans e8;have M8:=M7.ext e8;have oq8:=oq7.ext e8;have E8:=E.ext e08;have sf8:=E8.sf;have e28:=e27.trans e8;have pcf:=(pcG _ e8).1;have pcF:Wl h8 _ _ _:=(pxF _ (e47.trans e8)).1;have sb8:=BW.ext sb (e47.trans e8);obtain⟨csB,⟨vi,rfl,si,hli⟩,pxB,hsB⟩:=zd sb (i:=blk'.toNat) hbl;obtain⟨i1',i2',i3',rfl⟩:=zQ si;have hBm:=zP (l:=L) (i:=blk'.toNat) hbl;have hUB:=Z.U _ (by rw[hLL];exact hBm);have hpsl:(psA F a blk').length<=(L.getD blk'.toNat default).ins.length:=by
  unfold psA;rw[hLL];unfold zBc;exact(List.takeWhile_prefix _).length_le
 have h128:(L.getD blk'.toNat default).ins.length<=128:=by
  have h1:=Z.many;rw[hLL]at h1;have:=zNk hBm;omega
 have hps:zBc (L.getD blk'.toNat default).ins=psA F a blk':=by unfold psA;rw[hLL]
 have hbt:(blk'.toNat:Int)=blk':=by omega
 refine go ?_;refine VC 0 rfl rfl ?_;have pcfY:Wl (inC (zB 0 h8)) _ _ _:=(pcG _ e8).2;have pcFY:Wl (inC (zB 0 h8)) _ _ _:=(pxF _ (e47.trans e8)).2;have pcBY:Wl (inC (zB 0 h8)) _ _ _:=(pxB _ (e47.trans e8)).2;have o3Y:WI h (inC (zB 0 h8)) p3 [.slice t1 t2 t3,.slice f1 f2 f3]:=o3;have o8Y:WI h5 (inC (zB 0 h8)) p8 [zR (.slice (some ⟨gf,0,none⟩) nf 5) ((a.frs.length-1)*5),.pointer (some ⟨gq,0,none⟩)]:=o8;have sfY:BD (inC (zB 0 h8)) (.slice f1 f2 f3) F:=sf8;have sbY:BW (inC (zB 0 h8)) (.slice b1 b2 b3) L:=sb8;refine Wg ?_;have si8:=BK.ext si (e47.trans e8);have siY:BK (inC (zB 0 h8)) (.slice i1' i2' i3') (L.getD blk'.toNat default).ins:=si8;refine VA (zN8 (inC (zB 0 h8)) (.slice i1' i2' i3') (L.getD blk'.toNat default) siY (by omega)) ?_;rintro vr X ⟨sr,eX⟩;have sr4:=sr h4 si;have sr7:=sr h7 (BK.ext si e47);obtain⟨q1,q2,q3,rfl⟩:=zQ sr7;refine nE eX ?_;have e89':WL h8 (zx h8 X):=(zO 0 h8).trans (yT (h:=h8) eX);have e89:WL h8 (zx h8 (inC X)):=e89';have sr9:BK (zx h8 (inC X)) (.slice q1 q2 q3) (zBc (L.getD blk'.toNat default).ins):=BK.ext sr7 (e8.trans e89);rw[hps]at sr4 sr7 sr9;clear e89' sr siY sbY sfY o8Y o3Y pcBY pcFY pcfY;have hen:Zy T F a blk'=if((psA F a blk').all fun x=>decide ((zJ a).block∈x.frm))=false then(zM,2)
   else if((psA F a blk').all fun x=>decide (ZF (zJ a) x≠v0))=false then(zM,6)
   else(putF a {zJ a with regs:=zCP (zJ a).regs (zAl T F (zJ a).fn blk').toNat ((psA F a blk').map (ZF (zJ a))),block:=blk',pos:=((psA F a blk').length:Int)},0):=by
  unfold Zy;rw[QC (by rw[hr];decide),hLL,QC (by omega)]
 clear hz2;generalize hPS:psA F a blk'=ps at *;refine Wg ?_;generalize zx h8 (inC X)=h9 at *;clear eX;refine go ?_;have e79:WL h7 h9:=e8.trans e89;have o99:=o9.ext e89;have hreg4:=hrg;obtain⟨g9,g9a,g9b,rfl,g9c⟩:=o99;refine VE (fun i=>ps.length-i) (fun i t h'=>(WL h7 h'/\WI h7 h' (.pointer (some ⟨g9,0,none⟩)) (Z7 ((ps.take i).map (ZF (zJ a)))))/\(zC t 59=I i/\zC t 10=(if((ps.take i).all fun x=>decide (ZF (zJ a) x≠v0))then .nilIface else zE))/\i<=ps.length/\((ps.take i).all fun x=>decide ((zJ a).block∈x.frm))=true) 0 ?_ ?_
 ·exact⟨⟨e79,g9,g9a,g9b,rfl,g9c⟩,⟨WN,WN⟩,QU _,rfl⟩
 rintro i t h10 hsame ⟨⟨e710,o910⟩,⟨s59,s10⟩,hi,hall⟩;have sr10:=BK.ext sr7 e710;have o3:=o37.ext e710;have o6:=o67.ext e710;have o8:=o87.ext e710;refine go ?_;refine VD (fun hb=> ?_) (fun hb=> ?_)<;>simp only[DB]at hb
 ·have hi':i<ps.length:=by omega
  obtain⟨csI,⟨va,vf',rfl,sva,svf,hla,hlf⟩,pcI,hsI⟩:=yr sr10 hi';obtain⟨z1,z2,z3,rfl⟩:=Wv.shape sva;obtain⟨y1,y2,y3,rfl⟩:=Wv.shape svf;refine go ?_;refine VJ ?_;intro p13 h11 e11 o13;refine go ?_;refine VF (cs:=[.int .u8 (ps.getD i default).op,I (ps.getD i default).ty,I (ps.getD i default).a,I (ps.getD i default).b,I (ps.getD i default).n,.slice z1 z2 z3,.slice y1 y2 y3]) o13 e11 ?_;intro h12 e12 o13' u13;have e712:=e710.trans e12;have o3:=o3.ext e12;have o6:=o6.ext e12;have o8:=o8.ext e12;have o9C:=o910.ext e12;have svf2:=svf.ext e12;have sva2:=sva.ext e12;have hxm:ps.getD i default∈(L.getD blk'.toNat default).ins/\(ps.getD i default).op=22:=by
   have h1:=zP (l:=ps) (i:=i) hi';have h2:ps.getD i default∈zBc (L.getD blk'.toNat default).ins:=by rw[hps];exact h1
   exact zEE h2
  obtain⟨ux1,ux2,ux3⟩:=(hUB.ins _ hxm.1).phi hxm.2;have ua:=(hUB.ins _ hxm.1).args;have uf:=(hUB.ins _ hxm.1).frm;generalize hX:ps.getD i default=x at *;refine go ?_;refine VC 0 rfl rfl ?_;have o13Y:WI h10 (inC (zB 0 h12)) p13 [.int .u8 x.op,I x.ty,I x.a,I x.b,I x.n,.slice z1 z2 z3,.slice y1 y2 y3]:=o13';have o8Y:WI h5 (inC (zB 0 h12)) p8 [zR (.slice (some ⟨gf,0,none⟩) nf 5) ((a.frs.length-1)*5),.pointer (some ⟨gq,0,none⟩)]:=o8;have pcY:=(pcG _ e712).2;have pcY:Wl (inC (zB 0 h12)) _ _ _:=pcY;refine Wg ?_;have svY:Wd (inC (zB 0 h12)) (.slice y1 y2 y3) x.frm:=svf2;refine VA (zKS (inC (zB 0 h12)) (.slice y1 y2 y3) x.frm (zJ a).block svY (by omega)) ?_;rintro _ X ⟨⟨k,rfl,hk⟩,hXX⟩;have eX:WL (inC (zB 0 h12)) X:=by rw[<-hXX];exact WL.refl _
  clear hXX svY pcY o8Y o13Y;refine nE eX ?_;have e123':WL h12 (zx h12 X):=(zO 0 h12).trans (yT (h:=h12) eX);have e123:WL h12 (zx h12 (inC X)):=e123';clear e123';refine Wg ?_;generalize zx h12 (inC X)=h13 at *;clear eX;have e713:=e712.trans e123;have o3:=o3.ext e123;have o6:=o6.ext e123;have o8:=o8.ext e123;have o9C:=o9C.ext e123;have sva2:=sva2.ext e123;have o13':=o13'.ext e123;rcases hk with⟨rfl,hk⟩|⟨hk0,hk1,hk2⟩
  ·refine go ?_;refine VF (cs:=[.slice none 0 0,.slice none 0 0,.slice none 0 0,I 0,.slice none 0 0,I 0,I 0,.int .u8 0,I 0,I 0]) o6 (e27.trans e713) ?_;intro h14 e13 o14 u14;refine go ?_;refine rt ?_ (VL WN o14 rfl (W0.cons WN W0.nil));refine fin2 ?_ rfl e13;rw[hen,QG];rw[List.all_eq_false];exact⟨x,by rw[<-hX];exact zP hi',by simpa using hk⟩
  obtain⟨j,rfl⟩:∃ j:Nat,k=j:=⟨k.toNat,by omega⟩;rw[Q2]at hk1 hk2;have hfst:=zJe (by omega) hk1 hk2;have hreg:0<=x.args.getD j 0/\x.args.getD j 0<((zJ a).regs.length:Int):=by
   have q1:0<=x.args.getD j 0/\x.args.getD j 0<((ksF T F (zJ a).fn).length:Int):=ux2 _ (zP (l:=x.args) (i:=j) (by omega));have q2:((ksF T F (zJ a).fn).length:Int)=Zx T F (zJ a).fn:=Z.reg;rw[hrg,<-q2];exact q1
  obtain⟨hreg0,hreg1⟩:=hreg;have sv12:=BA.ext sv7 e713;have pc12:=(pcG _ e713).1;obtain⟨csV,hV,pcV0,hsV⟩:=zd sv7 (i:=(x.args.getD j 0).toNat) (by omega);have hphi:(zJ a).regs.getD (x.args.getD j 0).toNat default=ZF (zJ a) x:=by unfold ZF;rw[hfst]
  rw[hphi]at hV;have hV:csV=[.int .u8 (ZF (zJ a) x).kind,I (ZF (zJ a) x).n,I (ZF (zJ a) x).block,I (ZF (zJ a) x).pos]:=hV;subst hV;have pcV:=(pcV0 _ e713).1;refine go ?_;refine Vf (zEm (xs:=#[.int .u8 (ZF (zJ a) x).kind,I (ZF (zJ a) x).n,I (ZF (zJ a) x).block,I (ZF (zJ a) x).pos]) (ys:=#[.int .u8 0,I 0,I 0,I 0]) (b:=decide (ZF (zJ a) x=v0)) (by kernel_rfl) (zD2 (ZF (zJ a) x) v0)) ?_;have hlm:((ps.take i).map (ZF (zJ a))).length=i:=by simp;omega
  have htk:ps.take (i+1)=ps.take i++[x]:=by rw[GM,QB hi',<-hX];simp[List.getD,QB hi']
  have hput:zL (Z7 ((ps.take i).map (ZF (zJ a)))) (i*4) (vc (ZF (zJ a) x))=Z7 ((ps.take (i+1)).map (ZF (zJ a))):=by
   have:=zLB (l:=(ps.take i).map (ZF (zJ a))) (v:=ZF (zJ a) x) (by omega);rw[hlm]at this;rw[this,htk,Ga];rfl
  have hin:(zJ a).block∈x.frm:=by rw[<-hk1];exact zP (l:=x.frm) (i:=j) (by omega)
  by_cases hz:ZF (zJ a) x=v0
  ·have hal2:((ps.take (i+1)).all fun x=>decide (ZF (zJ a) x≠v0))=false:=by rw[htk,Gu];simp[hz]
   rw[QS hz];refine go ?_;refine VR ?_;refine go ?_;refine VC 0 rfl rfl ?_;have o13Y:WI h10 (inC (zB 0 h13)) p13 [.int .u8 x.op,I x.ty,I x.a,I x.b,I x.n,.slice z1 z2 z3,.slice y1 y2 y3]:=o13';have o8Y:WI h5 (inC (zB 0 h13)) p8 [zR (.slice (some ⟨gf,0,none⟩) nf 5) ((a.frs.length-1)*5),.pointer (some ⟨gq,0,none⟩)]:=o8;have saY:Wd (inC (zB 0 h13)) (.slice z1 z2 z3) x.args:=sva2;have svY:BA (inC (zB 0 h13)) (.slice w1 w2 w3) (zJ a).regs:=sv12;have pcY:Wl (inC (zB 0 h13)) _ _ _:=(pcG _ e713).2;have pvY:Wl (inC (zB 0 h13)) _ _ _:=(pcV0 _ e713).2;have o9Y:WI h7 (inC (zB 0 h13)) (.pointer (some ⟨g9,0,none⟩)) (Z7 ((ps.take i).map (ZF (zJ a)))):=o9C;have o9Z:WI h7 (zB 0 h13) (.pointer (some ⟨g9,0,none⟩)) (Z7 ((ps.take i).map (ZF (zJ a)))):=o9C;refine Wg ?_;refine XJ (i:=i) o9Y (by omega) ?_;refine nQ ?_;refine Wg ?_;refine XN (hB:=h7) (hS:=h13) (j:=i*4) (cs:=vc (ZF (zJ a) x)) o9Z e713 (by rw[e713.mark,e07.mark];exact QO hm e07.n) rfl ?_ (by rw[zCc (by rw[hlm];omega)];show _+4<=_;omega);intro h14 e14 o14 u14;rw[hput]at o14;refine go ?_;refine zA (i+1) (by omega) ⟨⟨e14,?_⟩,⟨BG,?_⟩,by omega,?_⟩
   ·exact o14
   ·rw[hal2,QC Bool.false_ne_true];exact WN
   ·rw[htk,Gu,hall];simpa using hin
  ·have hal2:((ps.take (i+1)).all fun x=>decide (ZF (zJ a) x≠v0))=((ps.take i).all fun x=>decide (ZF (zJ a) x≠v0)):=by rw[htk,Gu];simp[hz]
   rw[QM hz];refine go ?_;refine VC 0 rfl rfl ?_;have o13Y:WI h10 (inC (zB 0 h13)) p13 [.int .u8 x.op,I x.ty,I x.a,I x.b,I x.n,.slice z1 z2 z3,.slice y1 y2 y3]:=o13';have o8Y:WI h5 (inC (zB 0 h13)) p8 [zR (.slice (some ⟨gf,0,none⟩) nf 5) ((a.frs.length-1)*5),.pointer (some ⟨gq,0,none⟩)]:=o8;have saY:Wd (inC (zB 0 h13)) (.slice z1 z2 z3) x.args:=sva2;have svY:BA (inC (zB 0 h13)) (.slice w1 w2 w3) (zJ a).regs:=sv12;have pcY:Wl (inC (zB 0 h13)) _ _ _:=(pcG _ e713).2;have pvY:Wl (inC (zB 0 h13)) _ _ _:=(pcV0 _ e713).2;have o9Y:WI h7 (inC (zB 0 h13)) (.pointer (some ⟨g9,0,none⟩)) (Z7 ((ps.take i).map (ZF (zJ a)))):=o9C;have o9Z:WI h7 (zB 0 h13) (.pointer (some ⟨g9,0,none⟩)) (Z7 ((ps.take i).map (ZF (zJ a)))):=o9C;refine Wg ?_;refine XJ (i:=i) o9Y (by omega) ?_;refine nQ ?_;refine Wg ?_;refine XN (hB:=h7) (hS:=h13) (j:=i*4) (cs:=vc (ZF (zJ a) x)) o9Z e713 (by rw[e713.mark,e07.mark];exact QO hm e07.n) rfl ?_ (by rw[zCc (by rw[hlm];omega)];show _+4<=_;omega);intro h14 e14 o14 u14;rw[hput]at o14;refine go ?_;refine zA (i+1) (by omega) ⟨⟨e14,?_⟩,⟨BG,?_⟩,by omega,?_⟩
   ·exact o14
   ·rw[hal2];exact WN
   ·rw[htk,Gu,hall];simpa using hin
 ·have hii:i=ps.length:=by omega
  rw[hii,Gf]at hall s10 o910;by_cases hz:(ps.all fun x=>decide (ZF (zJ a) x≠v0))=true;case neg=>
   have hz:(ps.all fun x=>decide (ZF (zJ a) x≠v0))=false:=by simpa using hz
   rw[hz,QC Bool.false_ne_true]at s10;rw[QC (by rw[hall];decide),QG hz]at hen;refine go ?_;refine WO.as (r:= .tuple #[I 6,.bool true]) (by kernel_rfl) ?_ (hx:=by exact zY);refine go ?_;refine VF (cs:=[.slice none 0 0,.slice none 0 0,.slice none 0 0,I 0,.slice none 0 0,I 0,I 0,.int .u8 0,I 0,I 0]) o6 (e27.trans e710) ?_;intro h14 e14 o14 u14;refine go ?_;refine rt ?_ (VL WN o14 rfl (W0.cons WN W0.nil));exact fin2 hen rfl e14
  rw[hz,QG rfl]at s10;rw[QC (by rw[hall];decide),QC (by rw[hz];decide)]at hen;refine go ?_;refine WO.as (r:= .tuple #[I 0,.bool false]) (by kernel_rfl) ?_ (hx:=by exact zY);refine go ?_;have o810:=o87.ext e710;have M10:=M7.ext e710;have oq10:=oq7.ext e710;have e410:=(e5.trans e7).trans e710;generalize hRG:zCP (zJ a).regs (zAl T F (zJ a).fn blk').toNat (ps.map (ZF (zJ a)))=RG at *;refine VK (fun t' h'=>(WL h4 h'/\WI h5 h' p8 [zR (.slice (some ⟨gf,0,none⟩) nf 5) ((a.frs.length-1)*5),.pointer (some ⟨gq,0,none⟩)])/\WI h4 h' (.pointer (some ⟨gq,0,none⟩)) [.slice m1 m2 m3,.slice (some ⟨gf,0,none⟩) nf 5,.slice i1 i2 i3,I a.used,.slice v1 v2 v3,I a.steps,I a.heaps,.int .u8 a.state,I a.trap,I a.exit]/\OM h4.n h' (.slice (some ⟨gf,0,none⟩) nf 5) (.slice i1 i2 i3) xs' {a with frs:=a.frs.set (a.frs.length-1) {zJ a with regs:=RG}}) ?_ ?_
  ·by_cases hn:0<ps.length;case neg=>
    refine go ?_;have hp0:ps=[]:=GH (by omega);refine zD ⟨⟨e410,o810⟩,oq10,?_⟩;have hRG':RG=(zJ a).regs:=by rw[<-hRG,hp0];exact zM3 (a:=a) _ _
    have hh:=zNF (a:=a) (i:=a.frs.length-1) (by omega);rw[hRG'];rw[show({a with frs:=a.frs.set (a.frs.length-1) {zJ a with regs:=(zJ a).regs}}:Wb)=a from hh];exact M10
   have o3Z:WI h (inC (zB 0 h10)) p3 [.slice t1 t2 t3,.slice f1 f2 f3]:=o3;have o8Z:WI h5 (inC (zB 0 h10)) p8 [zR (.slice (some ⟨gf,0,none⟩) nf 5) ((a.frs.length-1)*5),.pointer (some ⟨gq,0,none⟩)]:=o810;have pcZ:Wl (inC (zB 0 h10)) _ _ _:=(pcG _ e710).2;refine go ?_;refine VC 0 rfl rfl ?_;refine Wg ?_;refine VA (zKm ((E.ext (e07.trans e710)).as 0) hp hfn0 blk' 0 ⟨by omega,by rw[hLL];omega⟩ ⟨by omega,by rw[hLL];omega⟩) ?_;rintro _ Y ⟨rfl,eY⟩;refine nE eY ?_;have e101':WL h10 (zx h10 Y):=(zO 0 h10).trans (yT (h:=h10) eY);have e101:WL h10 (zx h10 (inC Y)):=e101';clear e101' o3Z o8Z pcZ;refine Wg ?_;generalize zx h10 (inC Y)=h11 at *;have e711:=e710.trans e101;have o81:=o810.ext e101;have M11:=M7.ext e711;have oq11:=oq7.ext e711;have o911:=o910.ext e101;have ow11:=M11.rg (a.frs.length-1) (by omega);have hset:=fun(h':WG) (o':WZ 4 W5 h4.n h' (xs'.getD (a.frs.length-1) default).v RG) (u:UpB (xs'.getD (a.frs.length-1) default).v h11 h') (hl:RG.length<=1000)=>M11.setR (i:=a.frs.length-1) (l:=RG) (by omega) hl o' u;replace hset:=Wt.mk hset;have dqi:=dq3 (a.frs.length-1) (by omega);have hw8:=(M'.rg (a.frs.length-1) (by omega)).within;rw[hw]at ow11 hset dqi hw8;rw[<-tf]at ow11;obtain⟨N0,hN0⟩:∃ N0:Nat,zAl T F (zJ a).fn blk'=N0:=⟨(zAl T F (zJ a).fn blk').toNat,by have:=Z9 ((z0 F (zJ a).fn).take blk'.toNat);unfold zAl;omega⟩;have hroom:N0+ps.length<=(zJ a).regs.length:=by
    have q1:=zIB (L:=L) (i:=blk'.toNat) hbl;have q2:Zx T F (zJ a).fn=((zAi T F (zJ a).fn).length:Int)+yI (z0 F (zJ a).fn):=rfl;unfold zAl at hN0;rw[hLL]at hN0 q2;omega
   rw[hN0,Q2]at hRG;rcases id ow11 with⟨e,_⟩|⟨gw,row,D,g1,g2,e,g3,g4,_⟩
   ·have hz0:(zJ a).regs.length=0:=by
     obtain⟨_,s2,_⟩:=ow11.sl;rw[e]at s2;obtain⟨_,⟨s3,_⟩|⟨_,_,_,s3,_⟩⟩:=s2
     ·exact s3
     ·cases s3
    omega
   cases e;obtain⟨_,_,hg9n,e9,hg9⟩:=id o911;cases e9;have hml:(ps.map (ZF (zJ a))).length=ps.length:=by simp
   have h0add:zAl T F (zJ a).fn blk'+0=(N0:Int):=by omega
   have hm11:h11.mark<=h4.n:=by rw[e711.mark,e07.mark];exact QO hm e04.n
   have o8Z:WI h5 (inC (zB 0 h11)) p8 [zR (.slice (some ⟨gf,0,none⟩) nf 5) ((a.frs.length-1)*5),.pointer (some ⟨gq,0,none⟩)]:=o81;have pcZ:Wl (inC (zB 0 h11)) _ _ _:=(pcG _ e711).2;have sr11:=BK.ext sr7 e711;have srZ:BK (inC (zB 0 h11)) (.slice q1 q2 q3) ps:=sr11;refine go ?_;refine VC 0 rfl rfl ?_;refine Wg ?_;refine Vi (i:=N0) (r:= .slice (some ⟨gw,0+N0*4,none⟩) ((zJ a).regs.length-N0) 4) (zA0 (by omega)) ?_ (hx:=by exact zY) (hy:=by rw[<-h0add];exact zY);refine nQ ?_;refine Wg ?_;refine Xt (g:=g9) (row:=Z7 (ps.map (ZF (zJ a)))) (n:=ps.length) hg9 (by omega) (by rw[zCc (by omega)];omega) ?_;refine nQ ?_;refine Wg ?_;refine Ue (q:=gw) (off:=0+N0*4) (n:=(zJ a).regs.length-N0) (k:=ps.length) (row:=row) (ys:=Bo (ps.map (ZF (zJ a)))) g3 (QO hm11 g1) (zQH (h:=inC (zB 0 h11)) hg9 hg9n hml.symm) (by decide) hn (by omega) (by rw[Zl,g4];omega) (zKO _) ?_;intro H nH kH gH wH mH wrH;rw[Qk]at gH;have u11:UpB (.slice (some ⟨gw,0,none⟩) (zJ a).regs.length 4) h11 H:=⟨by rw[nH];exact QE _,fun k hk hne=>kH k (fun e=>hne (by rw[e];rfl))⟩;have ownH:=zNQ (h':=H) (k:=N0) (ys:=ps.map (ZF (zJ a))) (row:=row) ow11 g3 (by omega) nH gH;rw[hRG]at ownH;have hRl:RG.length<=1000:=by
    have:=M11.lr (a.frs.length-1) (by omega);rw[<-tf]at this;rw[<-hRG];unfold zCP;simp;omega
   have MH:=hset.out H ownH u11 hRl;have e411:=e410.trans e101;have e4H:WL h4 H:=⟨by rw[nH];exact e411.n,fun k hk=>(kH k (by omega)).trans (e411.get k hk),fun w=>wH (e411.wf w),mH.trans e411.mark,fun hmk=>wrH.trans (e411.wr hmk)⟩;have o8H:=o81.upB u11 ((VI (h:=h5) hp8' hw8).symm);have oqH:=oq11.upB u11 dqi.symm;refine go ?_;exact zD ⟨⟨e4H,o8H⟩,oqH,MH⟩
  rintro t' h15 hsame2 ⟨⟨e415,o815⟩,oq15,M15⟩;have hx15:=M15.lx;have hxl15:a.frs.length-1<xs'.length:=by omega
  obtain⟨g,row,g1,g2,e,g4,g5,g6⟩:=zCS (i:=a.frs.length-1) (off:=1) (cs:=[I blk']) (a:={xs'.getD (a.frs.length-1) default with block:=blk'}) M15.f hxl15 (by simp) (fun old hx r hl=>by
   obtain⟨r1,r2⟩:=r;subst r1;exact⟨rfl,r2⟩)
  cases e;obtain⟨g8,g8a,g8b,rfl,g8c⟩:=id o815;have b8:¬g8=gf:=fun e=>by
   have:=(VI (h:=h5) hp8' M'.f.within).symm gf rfl;exact this (by rw[<-e];rfl)
  have bq:¬gq=gf:=dq1;have hm15:h15.mark<=h4.n:=by rw[e415.mark,e04.mark];exact QO hm e04.n
  have o8Y:WI h5 (inC (zB 0 h15)) (.pointer (some ⟨g8,0,none⟩)) [zR (.slice (some ⟨gf,0,none⟩) xs'.length 5) ((a.frs.length-1)*5),.pointer (some ⟨gq,0,none⟩)]:=o815;have sr15:=BK.ext sr4 e415;have srZ:BK (inC (zB 0 h15)) (.slice q1 q2 q3) ps:=sr15;refine go ?_;refine VY (fun k=>k=gf) 0 rfl rfl ?_;refine goV ?_;refine UE (q:=gf) (row:=row) (off:=0+((a.frs.length-1)*5+1)) (cs:=[I blk']) g4 (QO hm15 g1) (.inr rfl) ?_ (by rw[Qk];exact g5) (hx:=by show WR _ _ (zR (.slice (some ⟨gf,0,none⟩) xs'.length 5) ((a.frs.length-1)*5+1));exact zY);intro X nX kX gX wX;rw[Qk]at gX;have oX:=g6 X (Nat.le_of_eq nX.symm) gX (fun k _ hne=>kX k hne);obtain⟨g',row2,h1',h2',e',h4',h5',h6'⟩:=zCS (i:=a.frs.length-1) (off:=2) (cs:=[I (ps.length:Int)]) (a:={xs'.getD (a.frs.length-1) default with block:=blk',pos:=(ps.length:Int)}) oX (by rw[Q7];exact hxl15) (by simp) (fun old hx r hl=>by
   rw[yS hxl15,QG rfl]at r;obtain⟨r1,r2⟩:=r;subst r1;exact⟨rfl,r2⟩)
  rw[Q7]at e';cases e';refine goV ?_;refine XH (q:=gf) (row:=row2) (off:=0+((a.frs.length-1)*5+2)) (cs:=[I (ps.length:Int)]) h4' (QO hm15 g1) (.inl rfl) ?_ (by rw[Qk];exact h5') (hx:=by show WR _ _ (zR (.slice (some ⟨gf,0,none⟩) xs'.length 5) ((a.frs.length-1)*5+2));exact zY);intro H nH kH gH wH mH wrH;rw[Qk]at gH;have oY:=h6' H (Nat.le_of_eq nH.symm) gH (fun k _ hne=>kH k hne);rw[List.set_set]at oY;have kHX:∀ k,k≠gf->H.get k=h15.get k:=fun k hne=>(kH k hne).trans (kX k hne);have nH15:H.n=h15.n:=nH.trans nX;have MF:=U1 (a:={a with frs:=a.frs.set (a.frs.length-1) {zJ a with regs:=RG}}) (fr':={zJ a with regs:=RG,block:=blk',pos:=(ps.length:Int)}) M15 (by simp;omega) oY (fun k _ hne=>kHX k (fun e=>hne (by rw[e];rfl))) (Nat.le_of_eq nH15.symm) rfl (by simp only;rw[yS (by omega),QG rfl]) ⟨r1,rfl,rfl,r4⟩;simp only[List.set_set]at MF;have e4H:WL h4 H:=⟨by rw[nH15];exact e415.n,fun k hk=>(kHX k (by omega)).trans (e415.get k hk),fun w=>wH (wX (e415.wf w)),mH.trans e415.mark,fun hmk=>wrH.trans (e415.wr hmk)⟩;have oqH:WI h4 H (.pointer (some ⟨gq,0,none⟩)) [.slice m1 m2 m3,.slice (some ⟨gf,0,none⟩) xs'.length 5,.slice i1 i2 i3,I a.used,.slice v1 v2 v3,I a.steps,I a.heaps,.int .u8 a.state,I a.trap,I a.exit]:=by
   obtain⟨q,z1,z2,z3,z4⟩:=oq15;cases z3;exact⟨gq,z1,by omega,rfl,(kHX gq bq).trans z4⟩
  have o8H:WI h5 H (.pointer (some ⟨g8,0,none⟩)) [zR (.slice (some ⟨gf,0,none⟩) xs'.length 5) ((a.frs.length-1)*5),.pointer (some ⟨gq,0,none⟩)]:=⟨g8,g8a,by omega,rfl,(kHX g8 b8).trans g8c⟩;have e2H:WL h2 H:=(e3.trans e4).trans e4H;refine go ?_;refine VF (cs:=[.slice m1 m2 m3,.slice (some ⟨gf,0,none⟩) xs'.length 5,.slice i1 i2 i3,I a.used,.slice v1 v2 v3,I a.steps,I a.heaps,.int .u8 a.state,I a.trap,I a.exit]) (o64.ext e4H) e2H ?_;intro h16 e16 o16 u16;refine go ?_;refine rt ?_ (VL WN o16 rfl (W0.cons WN W0.nil));rw[hen];refine⟨⟨_,rfl,((OM.upd MF (fun k k1 k2=>u16.2 k k2 fun e=> ?_) u16.1).base e04.n).fm nb'⟩,(e1.trans e2).trans e16⟩;have:=hp6 k (by rw[e];rfl);have:=e4.n;omega
end
structure Bn where
 kind:Int
 n:Int
 into:Int
 v:Wi
 args:List Wi
deriving Inhabited
def RAct(h:WG)(cs:List Value)(x:Bn):Prop:=∃ va,cs=[.int .u8 x.kind,I x.n,I x.into,.int .u8 x.v.kind,I x.v.n,I x.v.block,I x.v.pos,va]/\BA h va x.args/\(x.args.length:Int)<=1152921504606846976/\0<=x.kind/\x.kind<=255
abbrev SlA(h:WG)(v:Value)(l:List Bn):Prop:=Wy 8 RAct h v l
theorem RAct.ext{h h':WG}{cs:List Value}{x:Bn}(r:RAct h cs x)(e:WL h h'):RAct h' cs x:=let⟨va,a,b,c⟩:=r;⟨va,a,b.ext e,c⟩
theorem SlA.ext{h h':WG}{v:Value}{l:List Bn}(s:SlA h v l)(e:WL h h'):SlA h' v l:=Wy.ext (fun _ _ r=>RAct.ext r e) s e
def Yn(T:List WK)(F:List Wk)(a:Wb)(x:Bn):Wb×Int:=
 if x.kind % 5=0 then B8 a x.n x.v else if x.kind % 5=1 then Zy T F a x.n else if x.kind % 5=2 then zA8 T F a x.n x.args x.into else if x.kind % 5=3 then Zd a x.v else zAp a x.n
structure BL(T:List WK)(F:List Wk)(k:Nat)(a:Wb):Prop where
 fl:a.frs.length<=k
 fn:∀ i,i<a.frs.length->(0<=(a.frs.getD i default).fn/\(a.frs.getD i default).fn<(F.length:Int))/\((a.frs.getD i default).regs.length:Int)=Zx T F (a.frs.getD i default).fn
 into:∀ i,i+1<a.frs.length->0<=(a.frs.getD (i+1) default).into/\(a.frs.getD (i+1) default).into<((a.frs.getD i default).regs.length:Int)
theorem VO{T:List WK}{F:List Wk}{k:Nat}{a:Wb}(h:a.frs=[]):BL T F k a:=⟨by rw[h];simp,fun i hi=>by rw[h]at hi;simp at hi,fun i hi=>by rw[h]at hi;simp at hi⟩
theorem BL.put{T:List WK}{F:List Wk}{k:Nat}{a:Wb}(o:BL T F k a){f:BT}(hne:0<a.frs.length)(h1:f.fn=(zJ a).fn)(h2:f.regs.length=(zJ a).regs.length)(h3:f.into=(zJ a).into):BL T F k (putF a f):=by
 have hs:∀ j,(a.frs.set (a.frs.length-1) f).getD j default=if j=a.frs.length-1 then f else a.frs.getD j default:=fun j=>yS (by omega);have tf:zJ a=a.frs.getD (a.frs.length-1) default:=rfl;rw[tf]at h1 h2 h3;refine⟨by show(a.frs.set _ _).length<=_;simpa using o.fl,fun i hi=> ?_,fun i hi=> ?_⟩
 ·have hi:i<a.frs.length:=by have hi:i<(a.frs.set (a.frs.length-1) f).length:=hi;simpa using hi
  show(0<=((a.frs.set (a.frs.length-1) f).getD i default).fn/\((a.frs.set (a.frs.length-1) f).getD i default).fn<_)/\(((a.frs.set (a.frs.length-1) f).getD i default).regs.length:Int)=Zx T F ((a.frs.set (a.frs.length-1) f).getD i default).fn;rw[hs];by_cases e:i=a.frs.length-1
  ·rw[QG e,h1,h2,<-e];exact o.fn i hi
  ·rw[QC e];exact o.fn i hi
 ·have hi:i+1<a.frs.length:=by have hi:i+1<(a.frs.set (a.frs.length-1) f).length:=hi;simpa using hi
  show 0<=((a.frs.set (a.frs.length-1) f).getD (i+1) default).into/\((a.frs.set (a.frs.length-1) f).getD (i+1) default).into<(((a.frs.set (a.frs.length-1) f).getD i default).regs.length:Int);rw[hs,hs,QC (show ¬i=a.frs.length-1 by omega)];by_cases e:i+1=a.frs.length-1
  ·rw[QG e,h3,<-e];exact o.into i hi
  ·rw[QC e];exact o.into i hi
theorem BL.mono{T:List WK}{F:List Wk}{k k':Nat}{a:Wb}(o:BL T F k a)(h:k<=k'):BL T F k' a:=⟨QO o.fl h,o.fn,o.into⟩
theorem zJJ{T:List WK}{F:List Wk}(hp:yl T F=0){a:Wb}{b:Int}(hf:0<=(zJ a).fn/\(zJ a).fn<(F.length:Int))(hr:((zJ a).regs.length:Int)=Zx T F (zJ a).fn)(hb:¬(b<0\/((z0 F (zJ a).fn).length:Int)<=b)):(zAl T F (zJ a).fn b).toNat+(psA F a b).length<=(zJ a).regs.length:=by
 have q1:=zIB (L:=z0 F (zJ a).fn) (i:=b.toNat) (by omega);have q2:Zx T F (zJ a).fn=((zAi T F (zJ a).fn).length:Int)+yI (z0 F (zJ a).fn):=rfl;have q3:(psA F a b).length<=((z0 F (zJ a).fn).getD b.toNat default).ins.length:=by unfold psA zBc;exact(List.takeWhile_prefix _).length_le
 have q4:=Z9 ((z0 F (zJ a).fn).take b.toNat);unfold zAl;omega
theorem zP2{T:List WK}{F:List Wk}{k:Nat}{a:Wb}(o:BL T F k a)(r:Int)(v:Wi):BL T F k (B8 a r v).1:=by
 unfold B8;split
 ·exact VO rfl
 ·rename_i hr;split
  ·exact o.put (Zt (by simpa using hr)) rfl (by simp) rfl
  ·exact VO rfl
theorem zPF{T:List WK}{F:List Wk}{k:Nat}{a:Wb}(o:BL T F k a)(e:Int):BL T F k (zAp a e).1:=by
 unfold zAp;split
 ·exact VO rfl
 ·split
  ·exact⟨o.fl,o.fn,o.into⟩
  ·exact VO rfl
theorem zNr{T:List WK}{F:List Wk}(hp:yl T F=0){k:Nat}{a:Wb}(o:BL T F k a)(b:Int):BL T F k (Zy T F a b).1:=by
 unfold Zy;split
 ·exact VO rfl
 rename_i hr;have hne:=Zt (a:=a) (by simpa using hr);split
 ·exact VO rfl
 rename_i hb;split
 ·exact VO rfl
 split
 ·exact VO rfl
 have h1:=o.fn (a.frs.length-1) (by omega);have h2:=zJJ (a:=a) (b:=b) hp h1.1 h1.2 hb;refine o.put hne rfl ?_ rfl;show(zCP _ _ _).length=_;unfold zCP;simp;omega
theorem zOp{T:List WK}{F:List Wk}(hp:yl T F=0){k:Nat}{a:Wb}(o:BL T F k a)(f:Int)(args:List Wi)(into:Int):BL T F (k+1) (zA8 T F a f args into).1:=by
 unfold zA8;split
 ·exact VO rfl
 rename_i hr;have hne:=Zt (a:=a) (by simpa using hr);split;case isFalse=>exact VO rfl
 rename_i hk;have hk':=hk;unfold B0 at hk;simp only[QI,QY]at hk;obtain⟨⟨⟨hf,hl⟩,_⟩,hi⟩:=hk;have hrg:=zBK hp (f:=f) (by omega);have hpl:((zAi T F f).length:Int)<=Zx T F f:=by
  have:=zEP (F.getD f.toNat default).blocks;unfold Zx zAi;omega
 unfold Yv at hi;simp only[QI,QY]at hi;have hs:∀ j,(a.frs++[ZX T F f args into]).getD j default=if j<a.frs.length then a.frs.getD j default else if j=a.frs.length then ZX T F f args into else default:=fun j=>by
  simp only[QL];by_cases q:j<a.frs.length
  ·rw[QG q,Qf q]
  ·rw[QC q,Qu (by omega)];by_cases e:j=a.frs.length
   ·subst e;simp
   ·rw[QC e,GV (by simp;omega)];rfl
 have hfl:=o.fl;refine⟨by simp;omega,fun i hi'=> ?_,fun i hi'=> ?_⟩
 ·simp only[QW,QZ]at hi';show(0<=((a.frs++[ZX T F f args into]).getD i default).fn/\_)/\_;simp only[hs];by_cases q:i<a.frs.length
  ·rw[QG q];exact o.fn i q
  ·rw[QC q,QG (by omega)];refine⟨hf,?_⟩;show((args++List.replicate _ v0).length:Int)=Zx T F f;simp;omega
 ·simp only[QW,QZ]at hi';show 0<=((a.frs++[ZX T F f args into]).getD (i+1) default).into/\_;simp only[hs];rw[QG (show i<a.frs.length by omega)];by_cases q:i+1<a.frs.length
  ·rw[QG q];exact o.into i q
  ·rw[QC q,QG (by omega)];have tf:zJ a=a.frs.getD (a.frs.length-1) default:=rfl;rw[tf,show a.frs.length-1=i by omega]at hi;exact hi
theorem zPj{T:List WK}{F:List Wk}{k:Nat}{a:Wb}(o:BL T F k a)(v:Wi):BL T F k (Zd a v).1:=by
 unfold Zd;split
 ·exact VO rfl
 split
 ·exact VO rfl
 split;case isFalse=>exact VO rfl
 rename_i h1;have hfl:=o.fl;have hbl:(YV a v).length=a.frs.length-1:=by unfold YV;simp
 have hs:∀ j,j<a.frs.length-1->(YV a v).getD j default=if j=a.frs.length-2 then {a.frs.getD (a.frs.length-2) default with regs:=(a.frs.getD (a.frs.length-2) default).regs.set (zJ a).into.toNat v} else a.frs.getD j default:=fun j hj=>by
  unfold YV;have:=yS (l:=a.frs) (i:=a.frs.length-2) (j:=j) (a:={a.frs.getD (a.frs.length-2) default with regs:=(a.frs.getD (a.frs.length-2) default).regs.set (zJ a).into.toNat v}) (by omega);rw[<-this];simp only[QL];rw[List.getElem?_take_of_lt hj]
 refine⟨by show(YV a v).length<=_;omega,fun i hi=> ?_,fun i hi=> ?_⟩
 ·have hi:i<a.frs.length-1:=by have hi:i<(YV a v).length:=hi;omega
  show(0<=((YV a v).getD i default).fn/\_)/\_;have h2:=o.fn i (by omega);rw[hs i hi];by_cases e:i=a.frs.length-2
  ·subst e;rw[QG rfl];simpa using h2
  ·rw[QC e];exact h2
 ·have hi:i+1<a.frs.length-1:=by have hi:i+1<(YV a v).length:=hi;omega
  show 0<=((YV a v).getD (i+1) default).into/\_;have h2:=o.into i (by omega);rw[hs _ hi,hs i (by omega),QC (show ¬i=a.frs.length-2 by omega)];by_cases e:i+1=a.frs.length-2
  ·rw[QG e];rw[e]at h2;exact h2
  ·rw[QC e];exact h2
theorem zPp{T:List WK}{F:List Wk}(hp:yl T F=0){k:Nat}{a:Wb}(o:BL T F k a)(x:Bn):BL T F (k+1) (Yn T F a x).1:=by
 unfold Yn;split
 ·exact(zP2 o _ _).mono (GO _)
 split
 ·exact(zNr hp o _).mono (GO _)
 split
 ·exact zOp hp o _ _ _
 split
 ·exact(zPj o _).mono (GO _)
 ·exact(zPF o _).mono (GO _)
end Go.Proofs.YtmilpkdhbdgjfaaGreatDoor
set_option maxRecDepth 100000
namespace Go.Proofs.YtmilpkdhbdgjfaaGreatDoor
open Go.Am
section
variable {h:WG}{vt vf:Value}{T:List WK}{F:List Wk}
theorem FM.shape{b:Nat}{h:WG}{cs:List Value}{a:Wb}(o:FM b h cs a):∃ a1 a2 a3 b1 b2 b3 c1 c2 c3 d1 d2 d3,cs=mC (.slice a1 a2 a3) (.slice b1 b2 b3) (.slice c1 c2 c3) (.slice d1 d2 d3) a:=by
 obtain⟨vm,vf,vi,ve,rfl,⟨n1,n2⟩,k⟩:=o.ex;obtain⟨k1,k2⟩:=k h (fun _ _ _=>rfl) (QE _);obtain⟨a1,a2,a3,rfl⟩:=n1.shape;obtain⟨d1,d2,d3,rfl⟩:=n2.shape;obtain⟨b1,b2,b3,rfl⟩:=zb k1;obtain⟨c1,c2,c3,rfl⟩:=Wv.shape k2;exact⟨_,_,_,_,_,_,_,_,_,_,_,_,rfl⟩
theorem BL.ret{k:Nat}{a:Wb}(o:BL T F k a)(h1:1<a.frs.length):0<=(zJ a).into/\(zJ a).into<((a.frs.getD (a.frs.length-2) default).regs.length:Int):=by
 have:=o.into (a.frs.length-2) (by omega);rw[show a.frs.length-2+1=a.frs.length-1 by omega]at this;exact this
theorem BL.top{k:Nat}{a:Wb}(o:BL T F k a)(hr:yo a=true):(0<=(zJ a).fn/\(zJ a).fn<(F.length:Int))/\((zJ a).regs.length:Int)=Zx T F (zJ a).fn:=by
 have:=Zt hr;exact o.fn (a.frs.length-1) (by omega)
theorem zPm(E:B3 h vt vf T F)(hp:yl T F=0)(ca:List Value)(a:Wb){b k:Nat}(ra:FM b h ca a)(o:BL T F k a)(hk:k<=99)(cx:List Value)(x:Bn)(rx:RAct h cx x)(h10:x.args.length<=10):
  WC Tryz.prog tb 24 [.agg #[vt,vf],.agg ca.toArray,.agg cx.toArray] h fun w h'=>(∃ cs,w=.tuple #[.agg cs.toArray,I (Yn T F a x).2]/\FM h.n h' cs (Yn T F a x).1)/\WL h h':=by
 have hm:=E.hm;have om0:=ra;obtain⟨am,af,ai,ae,rfl,_,_⟩:=ra.ex;obtain⟨va,rfl,sa,hla,hk0,hk255⟩:=rx;obtain⟨t1,t2,t3,rfl⟩:=zQ E.st;obtain⟨f1,f2,f3,rfl⟩:=zQ E.sf;obtain⟨a1,a2,a3,rfl⟩:=zb sa;refine en ?_;refine VG ?_;intro p3 h1 e1 o3;replace o3:WI h h1 p3 [.slice t1 t2 t3,.slice f1 f2 f3]:=o3;refine go ?_;refine VG ?_;intro p4 h2 e2 o4;replace o4:WI h1 h2 p4 [am,af,ai,I a.used,ae,I a.steps,I a.heaps,.int .u8 a.state,I a.trap,I a.exit]:=o4;refine go ?_;refine VG ?_;intro p5 h3 e3 o5;replace o5:WI h2 h3 p5 [.int .u8 x.kind,I x.n,I x.into,.int .u8 x.v.kind,I x.v.n,I x.v.block,I x.v.pos,.slice a1 a2 a3]:=o5;refine go ?_;refine VJ ?_;intro p6 h4 e4 o6;have o3:=o3.ext (e2.trans (e3.trans e4));have o4:=o4.ext (e3.trans e4);have o5:=o5.ext e4;have e04:=e1.trans (e2.trans (e3.trans e4));refine go ?_;have hrem:yB .rem (.int .u8 x.kind) (.int .u8 5)=some (.int .u8 (x.kind % 5)):=by
  simp only[yB,Q8];rw[QC (by decide),Int.tmod_eq_emod_of_nonneg hk0]
 refine WO.bin (vx:= .int .u8 x.kind) (vy:= .int .u8 5) (by exact zY) rfl hrem ?_;have hm4:h4.mark<=h4.n:=by rw[e04.mark];exact QO hm e04.n
 have fm4:=om0.ext e04;have E4:=E.ext e04;have sa4:=BA.ext sa e04;have hr0:0<=x.kind % 5:=by omega
 have hr5:x.kind % 5<5:=by omega
 generalize hk5:x.kind % 5=k5 at *;have hcs:k5=0\/k5=1\/k5=2\/k5=3\/k5=4:=by omega
 rcases hcs with rfl|rfl|rfl|rfl|rfl
 ·skip;rw[show Yn T F a x=B8 a x.n x.v from by unfold Yn;rw[hk5];rfl];refine go ?_;refine VA (zJ9 h4 _ a fm4 hm4 x.n x.v) ?_;rintro _ h5 ⟨⟨cs,rfl,fm⟩,e5⟩;obtain⟨x1,x2,x3,y1,y2,y3,z1,z2,z3,w1,w2,w3,rfl⟩:=fm.shape;refine go ?_;refine VF (cs:=mC (.slice x1 x2 x3) (.slice y1 y2 y3) (.slice z1 z2 z3) (.slice w1 w2 w3) _) (o6.ext e5) (e4.trans e5) ?_;intro h6 e6 o7 u7;refine go ?_;refine rt ?_ (VL WN o7 rfl (W0.cons WN W0.nil));have e06:=(e1.trans (e2.trans e3)).trans e6;refine⟨⟨_,rfl,(fm.upd (fun q q1 q2=>u7.2 q q2 fun e=> ?_) u7.1).base e04.n⟩,e06⟩;have:=o6.within q (by rw[e];rfl);omega
 ·skip;rw[show Yn T F a x=Zy T F a x.n from by unfold Yn;rw[hk5];rfl];refine go ?_;refine VA (zLc E4 a (fun _=>hp) _ fm4 o.top x.n) ?_;rintro _ h5 ⟨⟨cs,rfl,fm⟩,e5⟩;obtain⟨x1,x2,x3,y1,y2,y3,z1,z2,z3,w1,w2,w3,rfl⟩:=fm.shape;refine go ?_;refine VF (cs:=mC (.slice x1 x2 x3) (.slice y1 y2 y3) (.slice z1 z2 z3) (.slice w1 w2 w3) _) (o6.ext e5) (e4.trans e5) ?_;intro h6 e6 o7 u7;refine go ?_;refine rt ?_ (VL WN o7 rfl (W0.cons WN W0.nil));have e06:=(e1.trans (e2.trans e3)).trans e6;refine⟨⟨_,rfl,(fm.upd (fun q q1 q2=>u7.2 q q2 fun e=> ?_) u7.1).base e04.n⟩,e06⟩;have:=o6.within q (by rw[e];rfl);omega
 ·skip;rw[show Yn T F a x=zA8 T F a x.n x.args x.into from by unfold Yn;rw[hk5];rfl];refine go ?_;refine VA (zLz E4 a (fun _=>hp) _ fm4 (by have:=o.fl;omega) x.n _ x.args sa4 h10 x.into) ?_;rintro _ h5 ⟨⟨cs,rfl,fm⟩,e5⟩;obtain⟨x1,x2,x3,y1,y2,y3,z1,z2,z3,w1,w2,w3,rfl⟩:=fm.shape;refine go ?_;refine VF (cs:=mC (.slice x1 x2 x3) (.slice y1 y2 y3) (.slice z1 z2 z3) (.slice w1 w2 w3) _) (o6.ext e5) (e4.trans e5) ?_;intro h6 e6 o7 u7;refine go ?_;refine rt ?_ (VL WN o7 rfl (W0.cons WN W0.nil));have e06:=(e1.trans (e2.trans e3)).trans e6;refine⟨⟨_,rfl,(fm.upd (fun q q1 q2=>u7.2 q q2 fun e=> ?_) u7.1).base e04.n⟩,e06⟩;have:=o6.within q (by rw[e];rfl);omega
 ·skip;rw[show Yn T F a x=Zd a x.v from by unfold Yn;rw[hk5];rfl];refine go ?_;refine VA (zI5 h4 _ a fm4 hm4 x.v o.ret) ?_;rintro _ h5 ⟨⟨cs,rfl,fm⟩,e5⟩;obtain⟨x1,x2,x3,y1,y2,y3,z1,z2,z3,w1,w2,w3,rfl⟩:=fm.shape;refine go ?_;refine VF (cs:=mC (.slice x1 x2 x3) (.slice y1 y2 y3) (.slice z1 z2 z3) (.slice w1 w2 w3) _) (o6.ext e5) (e4.trans e5) ?_;intro h6 e6 o7 u7;refine go ?_;refine rt ?_ (VL WN o7 rfl (W0.cons WN W0.nil));have e06:=(e1.trans (e2.trans e3)).trans e6;refine⟨⟨_,rfl,(fm.upd (fun q q1 q2=>u7.2 q q2 fun e=> ?_) u7.1).base e04.n⟩,e06⟩;have:=o6.within q (by rw[e];rfl);omega
 ·skip;rw[show Yn T F a x=zAp a x.n from by unfold Yn;rw[hk5];rfl];refine go ?_;refine VA (zMD h4 _ a fm4 hm4 x.n) ?_;rintro _ h5 ⟨⟨cs,rfl,fm⟩,e5⟩;obtain⟨x1,x2,x3,y1,y2,y3,z1,z2,z3,w1,w2,w3,rfl⟩:=fm.shape;refine go ?_;refine VF (cs:=mC (.slice x1 x2 x3) (.slice y1 y2 y3) (.slice z1 z2 z3) (.slice w1 w2 w3) _) (o6.ext e5) (e4.trans e5) ?_;intro h6 e6 o7 u7;refine go ?_;refine rt ?_ (VL WN o7 rfl (W0.cons WN W0.nil));have e06:=(e1.trans (e2.trans e3)).trans e6;refine⟨⟨_,rfl,(fm.upd (fun q q1 q2=>u7.2 q q2 fun e=> ?_) u7.1).base e04.n⟩,e06⟩;have:=o6.within q (by rw[e];rfl);omega
end
end Go.Proofs.YtmilpkdhbdgjfaaGreatDoor
