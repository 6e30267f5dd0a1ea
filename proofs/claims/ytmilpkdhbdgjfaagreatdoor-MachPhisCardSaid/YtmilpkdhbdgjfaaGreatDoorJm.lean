/- Walks of functions, plain laws; proves no statement. -/
import Derived.Test.YtmilpkdhbdgjfaaGreatDoorJl
set_option linter.all false
set_option maxHeartbeats 4000000
namespace Go.Proofs.YtmilpkdhbdgjfaaGreatDoor
open Go.Am
section
variable {H:Type}{h:WF}
theorem zPu{n:Int}(h:(Lit.int .i64 n).wf=true): -9223372036854775808<=n/\n<=9223372036854775807:=by
 simp[Lit.wf,IntKind.wrap,IntKind.signed,IntKind.bits]at h;have h1:IntKind.min .i64= -9223372036854775808:=by decide
 have h2:IntKind.max .i64=9223372036854775807:=by decide
 omega
theorem zJg(cs:List Value)(d:DataW H)(r:Rd Tryz.prog h 37 cs d)(hw:BB Tryz.prog 37 d):∃ a:Wi,cs=[.int .u8 a.kind,I a.n,I a.block,I a.pos]/\ -9223372036854775808<=a.block/\a.block<=9223372036854775807:=by
 obtain⟨hl,hr⟩:=Zb r Tryz.underlying37 hw;have hc:Tryz.prog.cellsOf 37=4:=by kernel_rfl
 rw[hc]at hl;obtain⟨x0,x1,x2,x3,rfl⟩:∃ x0 x1 x2 x3,cs=[x0,x1,x2,x3]:=by
  exact zP0 hl
 obtain⟨d0,r0,w0⟩:=hr 0 _ rfl;have c0:Tryz.prog.cellsOf 5=1:=by kernel_rfl
 replace r0:Rd Tryz.prog h 5 (([x0,x1,x2,x3].drop 0).take (Tryz.prog.cellsOf 5)) d0:=r0;replace w0:BB Tryz.prog 5 d0:=w0;rw[c0]at r0;replace r0:Rd Tryz.prog h 5 [x0] d0:=r0;obtain⟨d1,r1,w1⟩:=hr 1 _ rfl;have c1:Tryz.prog.cellsOf 2=1:=by kernel_rfl
 replace r1:Rd Tryz.prog h 2 (([x0,x1,x2,x3].drop 1).take (Tryz.prog.cellsOf 2)) d1:=r1;replace w1:BB Tryz.prog 2 d1:=w1;rw[c1]at r1;replace r1:Rd Tryz.prog h 2 [x1] d1:=r1;obtain⟨d2,r2,w2⟩:=hr 2 _ rfl;have c2:Tryz.prog.cellsOf 3=1:=by kernel_rfl
 replace r2:Rd Tryz.prog h 3 (([x0,x1,x2,x3].drop 2).take (Tryz.prog.cellsOf 3)) d2:=r2;replace w2:BB Tryz.prog 3 d2:=w2;rw[c2]at r2;replace r2:Rd Tryz.prog h 3 [x2] d2:=r2;obtain⟨d3,r3,w3⟩:=hr 3 _ rfl;have c3:Tryz.prog.cellsOf 3=1:=by kernel_rfl
 replace r3:Rd Tryz.prog h 3 (([x0,x1,x2,x3].drop 3).take (Tryz.prog.cellsOf 3)) d3:=r3;replace w3:BB Tryz.prog 3 d3:=w3;rw[c3]at r3;replace r3:Rd Tryz.prog h 3 [x3] d3:=r3;obtain⟨k,e0,f0⟩:=yq r0 Tryz.underlying5;cases e0;obtain⟨n,e1,f1⟩:=yq r1 Tryz.underlying2;cases e1;obtain⟨b,e2,f2⟩:=yq r2 Tryz.underlying3;cases e2;obtain⟨p,e3,f3⟩:=yq r3 Tryz.underlying3;cases e3;exact⟨⟨k,n,b,p⟩,rfl,zPu f2⟩
theorem zP7(cs:List Value)(d:DataW H)(r:Rd Tryz.prog h 37 cs d)(hw:BB Tryz.prog 37 d):∃ a,W6 h cs a:=let⟨a,e,_⟩:=zJg cs d r hw;⟨a,e⟩
theorem zQu{cs:List Value}(h:cs.length=8):∃ x0 x1 x2 x3 x4 x5 x6 x7,cs=[x0,x1,x2,x3,x4,x5,x6,x7]:=by
 match cs,h with
 |[a,b,c,d,e,f,g,i],_=>exact⟨_,_,_,_,_,_,_,_,rfl⟩
theorem zQK(cs:List Value)(d:DataW H)(r:Rd Tryz.prog h 58 cs d)(hw:BB Tryz.prog 58 d):∃ a,RAct h cs a:=by
 obtain⟨hl,hr⟩:=Zb r Tryz.underlying58 hw;have hc:Tryz.prog.cellsOf 58=8:=by kernel_rfl
 rw[hc]at hl;obtain⟨x0,x1,x2,x3,x4,x5,x6,x7,rfl⟩:∃ x0 x1 x2 x3 x4 x5 x6 x7,cs=[x0,x1,x2,x3,x4,x5,x6,x7]:=by
  exact zQu hl
 obtain⟨d0,r0,w0⟩:=hr 0 _ rfl;have c0:Tryz.prog.cellsOf 5=1:=by kernel_rfl
 replace r0:Rd Tryz.prog h 5 (([x0,x1,x2,x3,x4,x5,x6,x7].drop 0).take (Tryz.prog.cellsOf 5)) d0:=r0;replace w0:BB Tryz.prog 5 d0:=w0;rw[c0]at r0;replace r0:Rd Tryz.prog h 5 [x0] d0:=r0;obtain⟨d1,r1,w1⟩:=hr 1 _ rfl;have c1:Tryz.prog.cellsOf 3=1:=by kernel_rfl
 replace r1:Rd Tryz.prog h 3 (([x0,x1,x2,x3,x4,x5,x6,x7].drop 1).take (Tryz.prog.cellsOf 3)) d1:=r1;replace w1:BB Tryz.prog 3 d1:=w1;rw[c1]at r1;replace r1:Rd Tryz.prog h 3 [x1] d1:=r1;obtain⟨d2,r2,w2⟩:=hr 2 _ rfl;have c2:Tryz.prog.cellsOf 3=1:=by kernel_rfl
 replace r2:Rd Tryz.prog h 3 (([x0,x1,x2,x3,x4,x5,x6,x7].drop 2).take (Tryz.prog.cellsOf 3)) d2:=r2;replace w2:BB Tryz.prog 3 d2:=w2;rw[c2]at r2;replace r2:Rd Tryz.prog h 3 [x2] d2:=r2;obtain⟨d3,r3,w3⟩:=hr 3 _ rfl;have c3:Tryz.prog.cellsOf 37=4:=by kernel_rfl
 replace r3:Rd Tryz.prog h 37 (([x0,x1,x2,x3,x4,x5,x6,x7].drop 3).take (Tryz.prog.cellsOf 37)) d3:=r3;replace w3:BB Tryz.prog 37 d3:=w3;rw[c3]at r3;replace r3:Rd Tryz.prog h 37 [x3,x4,x5,x6] d3:=r3;obtain⟨d4,r4,w4⟩:=hr 4 _ rfl;have c4:Tryz.prog.cellsOf 46=1:=by kernel_rfl
 replace r4:Rd Tryz.prog h 46 (([x0,x1,x2,x3,x4,x5,x6,x7].drop 7).take (Tryz.prog.cellsOf 46)) d4:=r4;replace w4:BB Tryz.prog 46 d4:=w4;rw[c4]at r4;replace r4:Rd Tryz.prog h 46 [x7] d4:=r4;obtain⟨k,e0,f0⟩:=yq r0 Tryz.underlying5;cases e0;obtain⟨n,e1,f1⟩:=yq r1 Tryz.underlying3;cases e1;obtain⟨i,e2,f2⟩:=yq r2 Tryz.underlying3;cases e2;obtain⟨a,e3,_⟩:=zJg _ d3 r3 w3;cases e3;obtain⟨vc,lc,e4,s4,b4⟩:=zAS r4 Tryz.underlying46 (c:=4) (by kernel_rfl) (by decide+kernel) w4 zP7;cases e4;simp[Lit.wf,IntKind.wrap,IntKind.signed,IntKind.bits]at f0;have u0:IntKind.min .u8=0:=by decide
 have u1:IntKind.max .u8=255:=by decide
 exact⟨⟨k,n,i,a,lc⟩,_,rfl,s4,by simp only;omega,by simp only;omega,by simp only;omega⟩
end
end Go.Proofs.YtmilpkdhbdgjfaaGreatDoor
set_option maxRecDepth 100000
namespace Go.Proofs.YtmilpkdhbdgjfaaGreatDoor
open Go.Am
theorem zL8{l:List BY}(h:zDn l=false):l.length<=50/\∀ x∈l,x.args.length<=10:=by
 unfold zDn at h;rw[Bool.or_eq_false_iff]at h;have h2:¬30<l.length:=by simpa using h.2
 refine⟨by omega,fun x hx=> ?_⟩;have h1:=Gy.1 h.1 x (by rw[Qo (by omega)];exact hx);have:¬10<x.args.length:=by simpa using h1
 omega
theorem FM.frs{b:Nat}{h:WF}{vm vf vi ve:Value}{a:Wa}(o:FM b h (mC vm vf vi ve a) a):BW h vf a.frs:=by
 obtain⟨vm',vf',vi',ve',e,_,k⟩:=o.ex;simp only[JB]at e;obtain⟨rfl,rfl,rfl,_⟩:=e;exact(k h (fun _ _ _=>rfl) (QE _)).1
theorem zIF{T:List WJ}{F:List Wj}{inn:List Int}{l:List BY}(h:ZN (Ye T F inn l).1=true):yl T F=0:=by
 unfold Ye at h;split at h
 ·rename_i hB;exact zHF.1 hB
 ·rename_i hB;unfold Zj at h hB;split at h
  ·cases h
  ·rename_i hs;exact(zAf (by simpa using hs)).1
theorem zNp{a:Wa}(f:BQ)(hne:0<a.frs.length):zJ (putF a f)=f:=by
 show(a.frs.set (a.frs.length-1) f).getD ((a.frs.set (a.frs.length-1) f).length-1) default=f;rw[GL,yb (by omega),QG rfl]
theorem zFp{T:List WJ}{F:List Wj}{inn:List Int}{l:List BY}(h:(Ye T F inn l).2=true):zAA T F=0:=by
 unfold Ye at h;split at h
 ·rename_i hB;unfold Zj at hB;split at hB
  ·rename_i hs;exact absurd hB hs
  ·rename_i hs;simpa using hs
 ·cases h
theorem zNK{T:List WJ}{F:List Wj}{a:Wa}{b:Int}(h:(ZR T F a b).2=0):ZN a=true/\¬(b<0\/((zp F (zJ a).fn).length:Int)<=b)/\(∀ x∈Bm F a b,(zJ a).block∈x.frm)/\
  (ZR T F a b).1=putF a {zJ a with regs:=B3 (zJ a).regs (Zw T F (zJ a).fn b).toNat ((Bm F a b).map (yd (zJ a))),block:=b,pos:=((Bm F a b).length:Int)}:=by
 unfold ZR at h |-;split at h
 ·cases h
 rename_i h1;rw[QC h1];split at h
 ·cases h
 rename_i h2;rw[QC h2];split at h
 ·cases h
 rename_i h3;rw[QC h3];split at h
 ·cases h
 rename_i h4;rw[QC h4];refine⟨by simpa using h1,h2,fun x hx=> ?_,rfl⟩;have h5:((Bm F a b).all fun x=>decide ((zJ a).block∈x.frm))=true:=by simpa using h3
 have:=QV.1 h5 x hx;exact Gv this
def ZT(fr:BQ)(base:Int)(ps:List Wo)(i r:Nat):Wi:=if base<=(r:Int)/\(r:Int)<base+i then yd fr (ps.getD ((r:Int)-base).toNat default)else fr.regs.getD r default
theorem zOu{l ys:List Wi}{k r:Nat}(h:k+ys.length<=l.length):(B3 l k ys).getD r default=if k<=r/\r<k+ys.length then ys.getD (r-k) default else l.getD r default:=by
 unfold B3;have hk:(l.take k).length=k:=by rw[Ql];omega
 simp only[QL];by_cases h1:r<k
 ·rw[QC (by omega),Q3,Qc (by omega),List.getElem?_take_of_lt h1]
 ·by_cases h2:r<k+ys.length
  ·rw[QG ⟨by omega,h2⟩,Q3,Qm (by omega),hk,Qc (by omega)]
  ·rw[QC (by omega),Qm (by rw[QT];omega),QT,hk,Q8,show k+ys.length+(r-(k+ys.length))=r by omega]
theorem zKI:∀ {l:List Int} {n:Int},l.Nodup->n∈l->zBP l n<l.length/\∀ k,k<l.length->(l.getD k 0=n↔k=zBP l n)
 |[],_,_,h=>by cases h
 |x::l,n,hn,hm=>by
  obtain⟨h1,h2⟩:=List.nodup_cons.1 hn;unfold zBP;by_cases e:x=n
  ·subst e;rw[QG rfl];refine⟨by simp,fun k hk=> ?_⟩;cases k with
   |zero=>simp
   |succ k=>
    have hk:k<l.length:=by simpa using hk
    have:¬l.getD k 0=x:=fun q=>h1 (by rw[<-q];exact zL (l:=l) hk);simpa using this
  ·rw[QC e];have hm:n∈l:=by rcases GI.1 hm with q|q;exact absurd q.symm e;exact q
   obtain⟨i1,i2⟩:=zKI h2 hm;refine⟨by simp;exact i1,fun k hk=> ?_⟩;cases k with
   |zero=>simp[e]
   |succ k=>
    have hk:k<l.length:=by simpa using hk
    have:=i2 k hk;simpa using this
theorem zIA(L:List Wl)(b:Int)(n:Nat):(zV L b n).Nodup:=by
 unfold zV;exact List.Pairwise.map (R:=(·≠·)) (S:=(·≠·)) (fun(i:Nat)=>(i:Int)) (fun a b hne (e:(a:Int)=b)=>hne (by omega)) (List.Pairwise.filter _ List.nodup_range)
theorem zFt:∀ {l:List Wo} {i:Nat},i<(ZW l).length->(ZW l).getD i default=l.getD i default/\i<l.length/\(l.getD i default).op=22
 |[],i,h=>by simp[ZW]at h
 |x::l,i,h=>by
  unfold ZW at h |-;rw[List.takeWhile_cons]at h |-;split at h
  ·rename_i hx;rw[QG hx];cases i with
   |zero=>exact⟨rfl,by simp,by simpa [Z8]using hx⟩
   |succ i=>
    have h':i<(ZW l).length:=by simpa [ZW]using h
    obtain⟨h1,h2,h3⟩:=zFt h';exact⟨by simpa [ZW]using h1,by simpa using h2,by simpa using h3⟩
  ·simp at h
theorem zH4:∀ {l:List Wo},(ZW l).length<l.length->(l.getD (ZW l).length default).op≠22
 |[],h=>by simp at h
 |x::l,h=>by
  unfold ZW at h |-;rw[List.takeWhile_cons]at h |-;split at h
  ·rename_i hx;rw[QG hx];have h':(ZW l).length<l.length:=by simpa [ZW]using h
   have:=zH4 h';simpa [ZW]using this
  ·rename_i hx;rw[QC hx];simpa [Z8]using hx
theorem zNy{fr:BQ}{base:Int}{ps:List Wo}{i r:Nat}(h:¬base+(i:Int)=(r:Int)):ZT fr base ps (i+1) r=ZT fr base ps i r:=by
 unfold ZT;by_cases q:base<=(r:Int)/\(r:Int)<base+i
 ·rw[QG q,QG ⟨q.1,by push_cast;omega⟩]
 ·rw[QC q,QC (by push_cast;omega)]
theorem zOT{fr:BQ}{base:Int}{ps:List Wo}{i r:Nat}(h:base+(i:Int)=(r:Int)):ZT fr base ps (i+1) r=yd fr (ps.getD i default):=by
 unfold ZT;rw[QG ⟨by omega,by push_cast;omega⟩,show((r:Int)-base).toNat=i by omega]
theorem zLF{fr:BQ}{base:Int}{ps:List Wo}{r:Nat}:ZT fr base ps 0 r=fr.regs.getD r default:=by
 unfold ZT;rw[QC (by omega)]
theorem zL2{fr:BQ}{base:Int}{ps:List Wo}{r:Nat}(h0:0<=base)(h:base.toNat+ps.length<=fr.regs.length):(B3 fr.regs base.toNat (ps.map (yd fr))).getD r default=ZT fr base ps ps.length r:=by
 rw[zOu (by simpa using h)];unfold ZT;simp only[GR];by_cases q:base.toNat<=r/\r<base.toNat+ps.length
 ·rw[QG q,QG ⟨by omega,by omega⟩,show((r:Int)-base).toNat=r-base.toNat by omega];simp only[QL,GY];rw[QB (show r-base.toNat<ps.length by omega)];rfl
 ·rw[QC q,QC (by omega)]
theorem zHU(h:WF)(vt vf:Value)(T:List WJ)(F:List Wj)(vx:Value)(l:List BY)(blk':Int)(tt:By h)(hm:h.mark<=h.n)(st:Bc h vt T)(sf:W7 h vf F)(sl:SlA h vx l)(hT:(T.length:Int)<=1152921504606846976)(hF:(F.length:Int)<=1152921504606846976)(hl:(l.length:Int)<=1152921504606846976):
  WC Tryz.prog tb 5 [.agg #[vt,vf],vx,I blk'] h fun r h'=>r=.bool true:=by
 refine en ?_;refine VG ?_;intro p3 h3 e3 o3;replace o3:WH h h3 p3 [vt,vf]:=o3;refine go ?_;refine VA (zME h3 (tt.ext e3).1) ?_;rintro _ _ ⟨rfl,rfl⟩;refine go ?_;refine VA (zKu h3 vt vf T F 100 (by omega) (st.ext e3) (W7.ext sf e3) (by omega) (by omega)) ?_;rintro rr h4 ⟨hr,e4⟩;rcases hr with rfl|⟨rfl,sm,smi⟩
 ·refine go ?_;refine gr ?_;rfl
 have e04:=e3.trans e4;have o3:=o3.ext e4;refine go ?_;refine VA (zLt h4 vx l (sl.ext e04) hl) ?_;rintro _ _ ⟨rfl,rfl⟩;cases hhv:zDn l with
 |true=>
  refine go ?_;refine gr ?_;rfl
 |false=>
  obtain⟨hl50,hx10⟩:=zL8 hhv;have E4:B4 h4 vt vf T F:=⟨tt.ext e04,yN e04 hm,sm,st.ext e04,W7.ext sf e04⟩;obtain⟨t1,t2,t3,rfl⟩:=zN E4.st;obtain⟨f1,f2,f3,rfl⟩:=zN E4.sf;refine go ?_;refine VA (zKS E4 (.slice none 0 0) [] ⟨by simp,.inl ⟨rfl,.inl rfl⟩⟩ (by simp) vx l (sl.ext e04) hl50 hx10) ?_;rintro _ h5 ⟨⟨csA,rfl,fmA,okA⟩,e5⟩;have hrp:=zIF (T:=T) (F:=F) (inn:=[]) (l:=l);have hsd:=zFp (T:=T) (F:=F) (inn:=[]) (l:=l);generalize Ye T F [] l=A at *;obtain⟨m1,m2,m3,n1,n2,n3,i1,i2,i3,v1,v2,v3,rfl⟩:=fmA.shape;refine go ?_;refine VJ ?_;intro p8 h6 e6 o8;refine go ?_;refine VF (cs:=mC (.slice m1 m2 m3) (.slice n1 n2 n3) (.slice i1 i2 i3) (.slice v1 v2 v3) A.1) o8 e6 ?_;intro h7 e7 o8' u7;have e47:=e5.trans e7;have e07:=e04.trans e47;have o3:=o3.ext e47;have fmA7:=fmA.ext e7;have E7:=E4.ext e47;refine go ?_;refine VA (zE6 E7 A.1 hrp _ fmA7 okA.top blk') ?_;rintro _ h8 ⟨⟨csS,rfl,fmS⟩,e8⟩;have hent:= @zNK T F A.1 blk';generalize ZR T F A.1 blk'=S at *;obtain⟨c1,c2,c3,d1,d2,d3,g1,g2,g3,k1,k2,k3,rfl⟩:=fmS.shape;refine go ?_;refine VJ ?_;intro p10 h9 e9 o10;refine go ?_;refine VF (cs:=mC (.slice c1 c2 c3) (.slice d1 d2 d3) (.slice g1 g2 g3) (.slice k1 k2 k3) S.1) o10 e9 ?_;intro h10 e10 o10' u10;have e710:=e8.trans e10;have o3:=o3.ext e710;have o8:=o8'.ext e710;have fmA10:=fmA7.ext e710;have fmS10:=fmS.ext e10;have frA:=fmA10.frs;have frS:=fmS10.frs;have E10:=E7.ext e710;cases hA:A.2 with
  |false=>
   refine go ?_;refine gr ?_;rfl
  |true=>
   by_cases hS:S.2=0;case neg=>
    refine go ?_;refine gr ?_;rfl
   obtain⟨hrA,hbb,hpA,hSe⟩:=hent hS;obtain⟨hp,hw⟩:=zAf (hsd hA);have hne:=Yf hrA;have hlA:=okA.fl;obtain⟨hfn,hrg⟩:=okA.top hrA;have Z:=zNb hp hfn;have hroom:=zD8 hp hfn hrg hbb;have hwf:=(hw _ hfn.1 hfn.2).2.2 blk' (by omega) (by omega);have hlS:S.1.frs.length=A.1.frs.length:=by rw[hSe];show(A.1.frs.set _ _).length=_;simp
   have hgr:zJ S.1={zJ A.1 with regs:=B3 (zJ A.1).regs (Zw T F (zJ A.1).fn blk').toNat ((Bm F A.1 blk').map (yd (zJ A.1))),block:=blk',pos:=((Bm F A.1 blk').length:Int)}:=by rw[hSe,zNp _ hne]
   have hbase:0<=Zw T F (zJ A.1).fn blk':=by
    have:=zA8 ((zp F (zJ A.1).fn).take blk'.toNat);unfold Zw;omega
   have hti:((A.1.frs.length:Int)-1).toNat=A.1.frs.length-1:=by omega
   have htj:((S.1.frs.length:Int)-1).toNat=S.1.frs.length-1:=by omega
   have hrl:=fmA10.lr (A.1.frs.length-1) (by omega);obtain⟨cs,⟨w,rfl,kw,hwl⟩,pcA,hsl⟩:=zg frA (i:=((A.1.frs.length:Int)-1).toNat) (by omega);obtain⟨w1,w2,w3,rfl⟩:=zc kw;have hfA:A.1.frs.getD ((A.1.frs.length:Int)-1).toNat default=zJ A.1:=by rw[hti];rfl
   have hfA':A.1.frs.getD (A.1.frs.length-1) default=zJ A.1:=rfl;rw[hfA]at kw pcA hwl;rw[hfA']at hrl;obtain⟨cs2,⟨w',rfl,kw',hwl'⟩,pcS,hsl'⟩:=zg frS (i:=((S.1.frs.length:Int)-1).toNat) (by omega);obtain⟨w1',w2',w3',rfl⟩:=zc kw';have hfS:S.1.frs.getD ((S.1.frs.length:Int)-1).toNat default=zJ S.1:=by rw[htj];rfl
   rw[hfS]at kw' pcS hwl';have hg1:(zJ S.1).regs.length=(zJ A.1).regs.length:=by
    rw[hgr];show(B3 _ _ _).length=_;unfold B3;simp;omega
   have hg2:(zJ S.1).block=blk':=by rw[hgr]
   have hg3:∀ r,(zJ S.1).regs.getD r default=ZT (zJ A.1) (Zw T F (zJ A.1).fn blk') (Bm F A.1 blk') (Bm F A.1 blk').length r:=fun r=>by
    rw[hgr];exact zL2 hbase hroom
   have hl1:(S.1.frs.length:Int)=(A.1.frs.length:Int):=by omega
   have hl2:¬(A.1.frs.length:Int)=0:=by omega
   have hps:Bm F A.1 blk'=ZW ((zp F (zJ A.1).fn).getD blk'.toNat default).ins:=rfl;obtain⟨csF,⟨vb,rfl,sb,hlb⟩,pxF,hsF⟩:=zg E10.sf (i:=(zJ A.1).fn.toNat) (by omega);obtain⟨b1,b2,b3,rfl⟩:=zN sb;have hL:(F.getD (zJ A.1).fn.toNat default).blocks=zp F (zJ A.1).fn:=rfl;rw[hL]at sb hlb;have hbl:blk'.toNat<(zp F (zJ A.1).fn).length:=by omega
   obtain⟨csB,⟨vi,rfl,si,hli⟩,pxB,hsB⟩:=zg sb (i:=blk'.toNat) hbl;obtain⟨i1',i2',i3',rfl⟩:=zN si;have hBm:=zL (l:=zp F (zJ A.1).fn) (i:=blk'.toNat) hbl;have hUB:=Z.U _ hBm;have h128:((zp F (zJ A.1).fn).getD blk'.toNat default).ins.length<=128:=by
    have h1:=Z.many;have:=zIe hBm;omega
   have hdis:∀ i,i<(Bm F A.1 blk').length->((Bm F A.1 blk').getD i default).frm.Nodup:=fun i hi=>by
    rw[hps]at hi |-;obtain⟨q1,q2,q3⟩:=zFt hi;rw[q1,((hwf.1 i q2).2.2.1 q3).2.1];exact zIA _ _ _
   have hreg:((ksF T F (zJ A.1).fn).length:Int)=((zJ A.1).regs.length:Int):=by rw[hrg];exact Z.reg
   have hen1:=Z.hf.1;have hen2:=Z.hf.2;have hb0:¬blk'<0:=by omega
   have hb1:blk'<((zp F (zJ A.1).fn).length:Int):=by omega
   have frA0:=frA;have frS0:=frS;have sf0:=E10.sf;have pcA0:=(pcA _ (WK.refl _)).1;have pcS0:=(pcS _ (WK.refl _)).1;have pcF0:=(pxF _ (WK.refl _)).1;have pcB0:=(pxB _ (WK.refl _)).1;generalize zJ S.1=gF at *;clear hgr hSe hroom hwf hent;refine go ?_;refine VJ ?_;intro p12 h11 e11 o12;refine go ?_;refine VF (cs:=[I (zJ A.1).fn,I (zJ A.1).block,I (zJ A.1).pos,.slice w1 w2 w3,I (zJ A.1).into]) o12 e11 ?_;intro h12 e12 o12' u12;generalize hFR:zJ A.1=fr at *;have o3:=o3.ext e12;have o8:=o8.ext e12;have o10:=o10'.ext e12;have frA1:=BW.ext frA e12;have frS1:=BW.ext frS e12;have sf1:=(E10.ext e12).sf;have pcS1:=(pcS _ e12).1;have pcF1:=(pxF _ e12).1;have pcB1:=(pxB _ e12).1;have sb1:=BN.ext sb e12;have kw1:=W9.ext kw e12;have kw1':=W9.ext kw' e12;refine go ?_;refine VJ ?_;intro p13 h13 e13 o13;refine go ?_;refine VF (cs:=[I gF.fn,I gF.block,I gF.pos,.slice w1' w2' w3',I gF.into]) o13 e13 ?_;intro h14 e14 o13' u14;have e1014:=e12.trans e14;have o3:=o3.ext e14;have o12:=o12'.ext e14;have sf2:=(E10.ext e1014).sf;have pcF2:=(pxF _ e1014).1;have pcB2:=(pxB _ e1014).1;have sb2:=BN.ext sb e1014;have kw2:=W9.ext kw e1014;have kw2':=W9.ext kw' e1014;have hg1':(fr.regs.length:Int)=(gF.regs.length:Int):=by omega
   have hE:=E10.ext e1014;clear frA1 frS1 frA0 frS0 sf0 pcA0 pcS0 pcF0 pcB0 pcS1 pcF1 pcB1 sb1 kw1 kw1' sf1 frA frS pcA pcS;refine go ?_;generalize hPS:Bm F A.1 blk'=ps at *;generalize hBL:(zp F fr.fn).getD blk'.toNat default=B at *;generalize hBS:Zw T F fr.fn blk'=base at *;have hpl:ps.length<=B.ins.length:=by rw[hps];exact(List.takeWhile_prefix _).length_le
   refine VE (fun r=>fr.regs.length-r) (fun r t h1=>WK h14 h1/\zC t 15=I r/\r<=fr.regs.length) 0 ?_ ?_
   ·exact⟨WK.refl _,WM,QU _⟩
   rintro r t h20 hsame ⟨e20,s15,hr⟩;have o12a:=o12.ext e20;have kw20:=W9.ext kw2 e20;refine go ?_;refine VD (fun hb=> ?_) (fun hb=> ?_)<;>simp only[DB]at hb;case refine_2=>
    refine gr ?_;rfl
   have hr':r<fr.regs.length:=by omega
   obtain⟨cv,hcv,pv,hvs⟩:=zg kw20 (i:=r) hr';have hcv:cv=[.int .u8 (fr.regs.getD r default).kind,I (fr.regs.getD r default).n,I (fr.regs.getD r default).block,I (fr.regs.getD r default).pos]:=hcv;subst hcv;have pv20:=(pv _ (WK.refl _)).1;refine go ?_;refine VJ ?_;intro p16 h21 e21 o16;obtain⟨g16,g16a,g16b,rfl,g16c⟩:=id o16;refine go ?_;refine VF (cs:=vc (fr.regs.getD r default)) o16 e21 ?_;intro h22 e22 o16' u22;refine go ?_;refine VE (fun i=>ps.length-i) (fun i t h1=>(WK h20 h1/\WH h20 h1 (.pointer (some ⟨g16,0,none⟩)) (vc (ZT fr base ps i r)))/\zC t 17=I i/\i<=ps.length) 0 ?_ ?_
   ·exact⟨⟨e22,by rw[zLF];exact o16'⟩,WM,QU _⟩
   rintro i tr2 h30 hsame2 ⟨⟨e30,o30⟩,s17,hi⟩;have e1430:=e20.trans e30;have o12b:=o12.ext e1430;have o13b:=o13'.ext e1430;have si30:=BD.ext si (e1014.trans e1430);have kw30':=W9.ext kw2' e1430;by_cases hip:i<ps.length;case neg=>
    have hii:i=ps.length:=by omega
    subst hii;obtain⟨cg,hcg,pg,hgs⟩:=zg kw30' (i:=r) (by omega);have hcg:cg=vc (gF.regs.getD r default):=hcg;rw[hg3 r]at hcg;subst hcg;have pg30:=(pg _ (WK.refl _)).1;generalize ZT fr base ps ps.length r=wv at *;by_cases hx:ps.length<B.ins.length
    ·have hop:¬(B.ins.getD ps.length default).op=22:=by rw[hps];exact zH4 (by rw[<-hps];exact hx)
     obtain⟨csI,⟨va,vf',rfl,sva,svf,hla,hlf⟩,pcI,hsI⟩:=zg si30 (i:=ps.length) hx;have pcI0:=(pcI _ (WK.refl _)).1;refine go ?_;refine Vl (zMF (xs:=#[.int .u8 wv.kind,I wv.n,I wv.block,I wv.pos]) (ys:=#[.int .u8 wv.kind,I wv.n,I wv.block,I wv.pos]) (b:=true) (by kernel_rfl) (by rw[zIO,QX rfl])) ?_;refine go ?_;exact zA (r+1) (by omega) ⟨e1430,BF,by omega⟩
    ·refine go ?_;refine Vl (zMF (xs:=#[.int .u8 wv.kind,I wv.n,I wv.block,I wv.pos]) (ys:=#[.int .u8 wv.kind,I wv.n,I wv.block,I wv.pos]) (b:=true) (by kernel_rfl) (by rw[zIO,QX rfl])) ?_;refine go ?_;exact zA (r+1) (by omega) ⟨e1430,BF,by omega⟩
   obtain⟨hxe,hil,hop⟩:ps.getD i default=B.ins.getD i default/\i<B.ins.length/\(B.ins.getD i default).op=22:=by rw[hps]at hip |-;exact zFt hip
   obtain⟨csI,⟨va,vf',rfl,sva,svf,hla,hlf⟩,pcI,hsI⟩:=zg si (i:=i) hil;obtain⟨z1,z2,z3,rfl⟩:=Wt.shape sva;obtain⟨y1,y2,y3,rfl⟩:=Wt.shape svf;obtain⟨ux1,ux2,ux3⟩:=(hUB.ins _ (zL (l:=B.ins) hil)).phi hop;have ua:=(hUB.ins _ (zL (l:=B.ins) hil)).args;have uf:=(hUB.ins _ (zL (l:=B.ins) hil)).frm;have hnd:=hdis i hip;have hin:=hpA _ (zL (l:=ps) hip);rw[hxe]at hnd hin;obtain⟨hfst,hiff⟩:=zKI hnd hin;have hwi:base+(i:Int)=(r:Int)->ZT fr base ps (i+1) r=yd fr (B.ins.getD i default):=fun q=>by rw[zOT q,hxe]
   generalize hX:B.ins.getD i default=x at *;have pcI30:=(pcI _ (e1014.trans e1430)).1;refine go ?_;refine VE (fun k=>x.frm.length-k) (fun k t h1=>(WK h20 h1/\WH h20 h1 (.pointer (some ⟨g16,0,none⟩)) (vc (if base+(i:Int)=(r:Int)/\zBP x.frm fr.block<k then ZT fr base ps (i+1) r else ZT fr base ps i r)))/\zC t 18=I k/\k<=x.frm.length) 0 ?_ ?_
   ·exact⟨⟨e30,by rw[QC (by omega)];exact o30⟩,WM,QU _⟩
   rintro k tr3 h40 hsame3 ⟨⟨e40,o40⟩,s18,hk⟩;clear o12b o13b si30 kw30' pcI30 o30 o16 g16c o16' pv20 pv kw20 o12a;have e1440:=e20.trans e40;have o3c:=o3.ext e1440;have o12c:=o12.ext e1440;have si40:=BD.ext si (e1014.trans e1440);have svf40:=svf.ext (e1014.trans e1440);have sva40:=sva.ext (e1014.trans e1440);have kw40:=W9.ext kw2 e1440;have pcI40:=(pcI _ (e1014.trans e1440)).1;have E40:=hE.ext e1440;refine go ?_;refine VD (fun hb2=> ?_) (fun hb2=> ?_)<;>simp only[DB]at hb2;case refine_2=>
    have hkk:k=x.frm.length:=by omega
    have hv:(if base+(i:Int)=(r:Int)/\zBP x.frm fr.block<k then ZT fr base ps (i+1) r else ZT fr base ps i r)=ZT fr base ps (i+1) r:=by
     by_cases q:base+(i:Int)=(r:Int)
     ·rw[QG ⟨q,by omega⟩]
     ·rw[QC (fun z=>q z.1),zNy q]
    rw[hv]at o40;refine go ?_;exact zA (i+1) (by omega) ⟨⟨e40,o40⟩,BF,by omega⟩
   have hkl:k<x.frm.length:=by omega
   refine go ?_;refine VC 0 rfl rfl ?_;have o3Y:WH h (inC (zB 0 h40)) p3 [.slice t1 t2 t3,.slice f1 f2 f3]:=o3c;have o12Y:WH h10 (inC (zB 0 h40)) p12 [I fr.fn,I fr.block,I fr.pos,.slice w1 w2 w3,I fr.into]:=o12c;have hnum:=zPE (E40.as 0) Z blk' i ⟨by omega,hb1⟩ ⟨by omega,by omega⟩;rw[hBS]at hnum;refine Wc ?_;refine VA hnum ?_;rintro _ X ⟨rfl,eX⟩;refine nE eX ?_;have e45':WK h40 (zq h40 X):=(zQ 0 h40).trans (yP (h:=h40) eX);have e45:WK h40 (zq h40 (inC X)):=e45';have o12X:WH h10 (inC X) p12 [I fr.fn,I fr.block,I fr.pos,.slice w1 w2 w3,I fr.into]:=by have:=o12Y.ext eX;exact this
   have siX:BD (inC X) (.slice i1' i2' i3') B.ins:=by have:=BD.ext si40 e45;exact this
   have svfX:Wd (inC X) (.slice y1 y2 y3) x.frm:=by have:=svf40.ext e45;exact this
   have pcX:Wh (inC X) (.slice i1' i2' i3') (i*7) [.int .u8 x.op,I x.ty,I x.a,I x.b,I x.n,.slice z1 z2 z3,.slice y1 y2 y3]:=by have:=(pcI _ ((e1014.trans e1440).trans e45)).2;exact this
   clear o3Y o12Y;by_cases hq1:base+(i:Int)=(r:Int);case neg=>
    refine Wc ?_;generalize zq h40 (inC X)=h50 at *;refine go ?_;refine zA (k+1) (by omega) ⟨⟨e40.trans e45,?_⟩,BF,by omega⟩;rw[QC (fun z=>hq1 z.1)]at o40 |-;exact o40.ext e45
   by_cases hq2:x.frm.getD k 0=fr.block;case neg=>
    have hkf:¬k=zBP x.frm fr.block:=fun q=>hq2 ((hiff k hkl).2 q);refine Wc ?_;generalize zq h40 (inC X)=h50 at *;refine go ?_;refine zA (k+1) (by omega) ⟨⟨e40.trans e45,?_⟩,BF,by omega⟩;have:(if base+(i:Int)=(r:Int)/\zBP x.frm fr.block<k+1 then ZT fr base ps (i+1) r else ZT fr base ps i r)=(if base+(i:Int)=(r:Int)/\zBP x.frm fr.block<k then ZT fr base ps (i+1) r else ZT fr base ps i r):=by
     by_cases q:zBP x.frm fr.block<k
     ·rw[QG ⟨hq1,by omega⟩,QG ⟨hq1,q⟩]
     ·rw[QC (fun z=>by omega),QC (fun z=>q z.2)]
    rw[this];exact o40.ext e45
   have hkf:k=zBP x.frm fr.block:=(hiff k hkl).1 hq2;refine Wc ?_;generalize zq h40 (inC X)=h50 at *;clear eX siX svfX pcX o12X;have o12d:=o12c.ext e45;have o50:=o40.ext e45;have kw50:=W9.ext kw40 e45;have si50:=BD.ext si40 e45;have sva50:=sva40.ext e45;have e2050:=e40.trans e45;have hargs:0<=x.args.getD k 0/\x.args.getD k 0<(fr.regs.length:Int):=by
    have q1:=ux2 _ (zL (l:=x.args) (i:=k) (by omega));rw[<-hreg];exact q1
   obtain⟨har0,har1⟩:=hargs;have hval:yd fr x=fr.regs.getD (x.args.getD k 0).toNat default:=by unfold yd;rw[<-hkf]
   obtain⟨cw,hcw,pw,hws⟩:=zg kw50 (i:=(x.args.getD k 0).toNat) (by omega);have hcw:cw=vc (fr.regs.getD (x.args.getD k 0).toNat default):=hcw;rw[<-hval]at hcw;subst hcw;refine go ?_;refine VC 0 rfl rfl ?_;have o12Y:WH h10 (inC (zB 0 h50)) p12 [I fr.fn,I fr.block,I fr.pos,.slice w1 w2 w3,I fr.into]:=o12d;have o16Z:WH h20 (zB 0 h50) (.pointer (some ⟨g16,0,none⟩)) (vc (if base+(i:Int)=(r:Int)/\zBP x.frm fr.block<k then ZT fr base ps (i+1) r else ZT fr base ps i r)):=o50;have siY:BD (inC (zB 0 h50)) (.slice i1' i2' i3') B.ins:=si50;have saY:Wd (inC (zB 0 h50)) (.slice z1 z2 z3) x.args:=sva50;have kwY:W9 (inC (zB 0 h50)) (.slice w1 w2 w3) fr.regs:=kw50;have pcY:Wh (inC (zB 0 h50)) _ _ _:=(pcI _ ((e1014.trans e1440).trans e45)).2;have pwY:Wh (inC (zB 0 h50)) _ _ _:=(pw _ (WK.refl _)).2;refine Wc ?_;refine V3 (hB:=h20) (hS:=h50) (j:=0) (cs:=vc (yd fr x)) o16Z e2050 ?_ rfl ?_ (by show 0+4<=4;omega) (hx:=by show WQ _ _ (.pointer (some ⟨g16,0,none⟩));exact zX)
   ·rw[e2050.mark,(e04.trans (e47.trans (e710.trans (e1014.trans e20)))).mark];exact QN hm (e04.trans (e47.trans (e710.trans (e1014.trans e20)))).n
   intro h60 e60 o60 u60;have o60:WH h20 h60 (.pointer (some ⟨g16,0,none⟩)) (vc (yd fr x)):=o60;refine go ?_;refine zA (k+1) (by omega) ⟨⟨e60,?_⟩,BF,by omega⟩;rw[QG ⟨hq1,by omega⟩,hwi hq1];exact o60
end Go.Proofs.YtmilpkdhbdgjfaaGreatDoor
