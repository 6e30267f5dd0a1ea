/- Walks of functions, plain laws; proves no statement. -/
import Derived.Test.YtmejfcakhpihlaaGreatDoorJi
set_option linter.unusedVariables false
set_option linter.unusedSimpArgs false
set_option maxHeartbeats 2000000
namespace Go.Proofs.YtmejfcakhpihlaaGreatDoor
noncomputable section
open Go.Am
set_option maxRecDepth 100000
theorem zCh(h h':U2)(cs:List Value)(a:Int×Int)(r:RPl h cs a):RPl h' cs a:=r
structure FO(hB h:U2)(p:Value)(vt vf:Value)(f:Int)(ks:List Int)(ps:List (Int×Int))(rs:List Int)(vk vp vr:Value):Prop where
 own:U6 hB h p [vt,vf,I f,vk,vp,vr]
 k:WJ hB h vk ks
 q:WR 2 RPl hB.n h vp ps
 r:WJ hB h vr rs
 kp:WK vk vp
 kr:WK vk vr
 pr:WK vp vr
 ok:WK p vk
 op:WK p vp
 or:WK p vr
 s:(∃ a n k,vk=.slice a n k)/\(∃ a n k,vp=.slice a n k)/\(∃ a n k,vr=.slice a n k)
section
variable {hB h h' h2:U2}{p vt vf:Value}{f:Int}{ks:List Int}{ps:List (Int×Int)}{rs:List Int}{vk vp vr v':Value}
theorem FO.ext(F:FO hB h p vt vf f ks ps rs vk vp vr)(e:U8 h h'):FO hB h' p vt vf f ks ps rs vk vp vr:=⟨F.own.ext e,F.k.ext e,F.q.ext e,F.r.ext e,F.kp,F.kr,F.pr,F.ok,F.op,F.or,F.s⟩
theorem FO.putK{ks':List Int}(F:FO hB h p vt vf f ks ps rs vk vp vr)(u:BN vk h h')(hn:hB.n<=h.n)(o:We h h' v' ks')(oc:U6 hB h2 p [vt,vf,I f,v',vp,vr])(u2:Wc p h' h2):FO hB h2 p vt vf f ks' ps rs v' vp vr:=by
 have hs:zAo h v':=(WJ.since' (.inr o));have u1:=u.upB;have u2:=u2.upB;have o1:=VF hs F.own.within;have o2:=VF hs F.q.within;have o3:=VF hs F.r.within;have ob:WJ hB h' v' ks':= .inr (let⟨g,a,b⟩:=o;⟨g,QO hn a,b⟩);exact⟨oc,ob.upB u2 o1.symm,(F.q.upB zCh u1 F.kp).upB zCh u2 F.op,(F.r.upB u1 F.kr).upB u2 F.or,o2,o3,F.pr,o1.symm,F.op,F.or,⟨Wb.shape ob.sl,F.s.2⟩⟩
theorem FO.putP{ps':List (Int×Int)}(F:FO hB h p vt vf f ks ps rs vk vp vr)(u:UpB vp h h')(hs:zAo h v')(hsl:∃ a n k,v'=.slice a n k)(o:WR 2 RPl hB.n h' v' ps')(oc:U6 hB h2 p [vt,vf,I f,vk,v',vr])(u2:Wc p h' h2):FO hB h2 p vt vf f ks ps' rs vk v' vr:=by
 have u2:=u2.upB;have o1:=VF hs F.own.within;have o2:=VF hs F.k.within;have o3:=VF hs F.r.within;exact⟨oc,(F.k.upB u F.kp.symm).upB u2 F.ok,o.upB zCh u2 o1.symm,(F.r.upB u F.pr).upB u2 F.or,o2.symm,F.kr,o3,F.ok,o1.symm,F.or,⟨F.s.1,hsl,F.s.2.2⟩⟩
end
theorem zSD{h:U2}{b g k:Nat}{x y:Int}(h1:b<=g)(h2:g<h.n)(hg:h.get g=some (.row (zY [I x,I y] k) true 0)):WR 2 RPl b h (.slice (some ⟨g,0,none⟩) k 2) (List.replicate k (x,y)):=by
 refine .inr ⟨g,zY [I x,I y] k,fun _=>False,h1,h2,by rw[List.length_replicate],hg,by rw[zw,List.length_replicate];rfl,id,fun _ h=>h.elim,fun i a ha hx _ _=> ?_⟩;rw[List.getElem?_replicate]at ha;split at ha;case isFalse=>cases ha
 rename_i hi;cases ha;show _=_;have h3:List.drop (i*2) (zY [I x,I y] k)=zY [I x,I y] (k-i):=zBd (z:=[I x,I y]);rw[h3,show k-i=(k-i-1)+1 by omega];rfl
theorem zDJ{L:List WW}(h:∀ b∈L,b.ins.length<=1000):∀ n,n<=L.length->(Zc L n).length<=1000*n
 |0,_=>QT _
 |n+1,hn=>by
  have:=zDJ h n (by omega);have h2:=h _ (zJ (l:=L) (i:=n) (by omega));show(Zc L n++_).length<=_;rw[QM,Qp,List.length_range];omega
theorem zEO{L:List WW}(h:∀ b∈L,b.ins.length<=1000):∀ n,n<=L.length->(yn (L.take n)).length<=1000*n
 |0,_=>by simp[yn]
 |n+1,hn=>by
  have:=zEO h n (by omega);have h2:=h _ (zJ (l:=L) (i:=n) (by omega));rw[zBK (by omega),QM,Qp];omega
theorem zJY{α:Type}[Inhabited α]{l:List α}{n:Nat}(h:n<l.length):l.take (n+1)=l.take n++[l.getD n default]:=by
 rw[Q4,QB h,QK,QB h];rfl
def zTR:U3:=(oV (oR [oZ 2]) (oV (oR [oM 3 0,o1 4 136 3,⟨some 5,none,(.part false 5 1 (.tmp 4))⟩,oM 2 5]) .ret))
theorem zHb(h:U2)(op:Int)(tt:Be h)(h0:0<=op)(h1:op<=255):WC Tryz.prog tb 84 [.int .u8 op] h fun r h'=>r=.bool (zW op).2.2.2.2.2/\U8 h h':=by
 refine en 6 [(2,none)] zTR ?_;refine VA (zPd h op tt h0 h1) ?_;rintro _ h2 ⟨rfl,e2⟩;refine gr ?_;exact⟨rfl,e2⟩
def zN3:U3:=(oV (oR [oB .lss 63 62 61]) (oV (oT 63 2) (oV (o5 3 (oV (oR [oM 64 62,oI 7 65 60 62,oA 7 66 65,⟨some 9,none,(.alloc [(.int .u8 0),(.int .i64 0),(.int .i64 0),(.int .i64 0),(.int .i64 0),(.slice none 0 0),(.slice none 0 0)])⟩,oM 8 64,oS 7 9 66]) (oV (oR [oM 67 5,oM 68 5,⟨some 69,none,(.nilCheck (.tmp 68))⟩,oF 4 70 69,oL 71 70,oM 72 6,oM 73 8,⟨some 74,none,(.build [(.int .i64 0),(.int .i64 0)] [(0,1,(.tmp 72)),(1,1,(.tmp 73))])⟩,⟨some 75,none,(.buildSlice 1 2 [(.int .i64 0),(.int .i64 0)] [(0,2,(.tmp 74))])⟩,oY 2 76 71 75,⟨some 77,none,(.nilCheck (.tmp 67))⟩,oF 4 78 77,oS 1 78 76]) (oV (oR [oN 10 (-1)]) (oV (oV (oR [oF 0 79 9,oL 80 79,o1 81 84 80]) (oJ 81 (oR [oF 1 82 9,oL 83 82,oM 10 83]) .skip)) (oR [oM 84 5,oM 85 5,⟨some 86,none,(.nilCheck (.tmp 85))⟩,oF 3 87 86,oL 88 87,oM 89 10,⟨some 90,none,(.buildSlice 1 1 [(.int .i64 0)] [(0,1,(.tmp 89))])⟩,oY 1 91 88 90,⟨some 92,none,(.nilCheck (.tmp 84))⟩,oF 3 93 92,oS 1 93 91])))))) (oR [oC .add 94 62 1,oM 62 94]))))
def zOi:U3:=(oV (oR [oB .lss 55 54 53]) (oV (oT 55 0) (oV (o5 1 (oV (oR [oM 56 54,oI 5 57 52 54,oA 5 58 57,⟨some 7,none,(.alloc [(.slice none 0 0),(.int .u8 0),(.int .i64 0),(.int .i64 0),(.int .i64 0)])⟩,oM 6 56,oS 5 7 58]) (oV (oR [oF 0 59 7,oL 60 59,oQ 61 60,oN 62 0]) (o5 2 (.loop zN3))))) (oR [oC .add 95 54 1,oM 54 95]))))
def zTg:U3:=(oV (oR [oX 2 0,oK 4 (.pointer none)]) (oV (o6 [oA 2 11 2,oM 12 1,oF 0 13 2,oL 14 13,oF 1 15 2,oL 16 15,oM 17 1,oI 2 18 16 17,oF 0 19 18,oL 20 19,oI 4 21 14 20,oF 3 22 21,oL 23 22,(o1 24 50 23,[0]),(⟨some 25,none,(.build [(.slice none 0 0),(.slice none 0 0),(.int .i64 0),(.slice none 0 0),(.slice none 0 0),(.slice none 0 0)] [(0,2,(.tmp 11)),(2,1,(.tmp 12)),(3,1,(.tmp 24))])⟩,[]),oX 26 25,oM 5 26]) (oV (oR [oM 28 5,oA 2 29 2,oM 30 1,o2 31 82 29 30,oM 27 31,oE 32 27 0,oE 33 27 1,⟨some 34,none,(.nilCheck (.tmp 28))⟩,oF 5 35 34,oS 1 35 32]) (oV (oR [oM 36 5,⟨some 37,none,(.build [(.int .i64 0),(.int .i64 0)] [(0,1,(.const (.int .i64 (-1)))),(1,1,(.const (.int .i64 (-1))))])⟩,⟨some 38,none,(.buildSlice 1 2 [(.int .i64 0),(.int .i64 0)] [(0,2,(.tmp 37))])⟩,oM 39 5,⟨some 40,none,(.nilCheck (.tmp 39))⟩,oF 3 41 40,oL 42 41,oQ 43 42,o2 44 83 38 43,⟨some 45,none,(.nilCheck (.tmp 36))⟩,oF 4 46 45,oS 1 46 44]) (oV (oV (oR [oF 1 47 2,oL 48 47,oM 49 1,oI 2 50 48 49,oF 1 51 50,oL 52 51,oQ 53 52,oN 54 0]) (o5 0 (.loop zOi))) (oV (oR [oM 96 5,oM 4 96]) .ret))))))
theorem zKP(h:U2)(vt vf:Value)(T:List U5)(F:List WP)(f:Int)(E:Env h vt vf T F)(ha:Yt T F f 0=0)(hf:0<=f/\f<(F.length:Int))(hsig:0<=(F.getD f.toNat default).sig/\(F.getD f.toNat default).sig<(T.length:Int))(hL:(F.getD f.toNat default).blocks.length<=16):
  WC Tryz.prog tb 48 [.agg #[vt,vf],I f] h fun r h'=>(∃ g xs,r=.pointer (some ⟨g,0,none⟩)/\Rul (nxF T F f) xs/\
   W6 h' g vt vf T F f (zAz (T.getD (F.getD f.toNat default).sig.toNat default).parts (F.getD f.toNat default).blocks) (zHE (T.getD (F.getD f.toNat default).sig.toNat default).parts.length (F.getD f.toNat default).blocks) (YM xs (F.getD f.toNat default).blocks.length))/\U8 h h':=by
 have hI:=E.sm.ins _ (zJ (l:=F) (i:=f.toNat) (by omega));have hP:=E.sm.parts _ (zJ (l:=T) (i:=(F.getD f.toNat default).sig.toNat) (by omega));have hI:=Wa.mk hI;refine en 97 [(4,none)] zTg ?_;refine VH ?_;intro p0 h1 e1 o1;have E1:=E.ext e1;refine go ?_;refine VC 1 rfl rfl ?_;have ea:=za 1 h1;have o1X:=Vk (o1.ext ea);obtain⟨cs,⟨vb,rfl,sb,hlb⟩,pc,hsl⟩:=yA (i:=f.toNat) E1.sf (by omega);have pc1:=(pc _ ea).2;obtain⟨cst,⟨vat,rfl,sat,hlat⟩,pct,hslt⟩:=yA (i:=(F.getD f.toNat default).sig.toNat) E1.st (by omega);have pct1:=(pct _ ea).2;have satX:=Va (sat.ext ea);have stX0:=Wv.ext E1.st ea;have stX:Wv (inC (zC 1 h1)) vt T:=stX0;have sfX0:=Wr.ext E1.sf ea;have sfX:Wr (inC (zC 1 h1)) vf F:=sfX0;refine WT ?_;refine VA (zIC _ vat _ satX (by omega)) ?_;rintro vk X2 ⟨ok,e2⟩;obtain⟨k1,k2,k3,rfl⟩:=Wb.shape ok.sl;have hlt:h1.n<X2.n:=e2.n;refine nE e2 ?_;refine WT ?_;refine Xw E1.hm ?_;intro X3 n3 g3;have e3:=zDw ((za 1 h1).trans (yr (h:=h1) e2)) n3 g3 (QE _) hlt;have o5:U6 h1 (yu h1 (inC X3)) (.pointer (some ⟨h1.n,0,none⟩)) [vt,vf,I f,(.slice k1 k2 k3),.slice none 0 0,.slice none 0 0]:=⟨h1.n,QE _,by show h1.n<X3.n;omega,rfl,by show X3.get _=_;rw[g3,QI rfl];rfl⟩;have ok5:WJ h1 (yu h1 (inC X3)) (.slice k1 k2 k3) (T.getD (F.getD f.toNat default).sig.toNat default).parts:=by
  rcases ok with ok|⟨g,g1,g2,g4,g5⟩
  ·exact .inl ok
  ·have g1:h1.n+1<=g:=g1;exact .inr ⟨g,by omega,by show g<X3.n;omega,g4,by show X3.get g=_;rw[g3,QC (by omega)];exact g5⟩
 have f5:WK (.pointer (some ⟨h1.n,0,none⟩)) (.slice k1 k2 k3):=fun b hb hk=>by
  cases hb;have:=WJ.since' ok _ hk;have:h1.n+1<=h1.n:=this;omega
 refine WT ?_;have e4:U8 h1 (yu h1 (inC X3)):=e3;generalize yu h1 (inC X3)=h4 at *;clear g3 n3 e3 e2 ok hlt X2;have E4:=E1.ext e4;have e04:=e1.trans e4;have o14:=o1.ext e4;refine go ?_;refine VA (zRN h4 vt vf T F f E4) ?_;rintro _ h5 ⟨⟨vr,rs,rfl,orr,hlr,hrs,_⟩,e5⟩;obtain⟨r1,r2,r3,rfl⟩:=Wb.shape orr.sl;obtain⟨xs,hRul,rfl⟩:=hrs ha;have o55:=o5.ext e5;have e45:=e4.trans e5;rw[ha];refine go ?_;refine VW (cs:=[.slice r1 r2 r3]) (j:=5) (hl:=by simp) o55 e45 ?_;intro h6 e6 o6 u6;replace o6:U6 h1 h6 (.pointer (some ⟨h1.n,0,none⟩)) [vt,vf,I f,.slice k1 k2 k3,.slice none 0 0,.slice r1 r2 r3]:=o6;have fr:=VF (WJ.since' orr) o5.within;have ok6:=(ok5.ext e5).upB u6.upB f5;have or6:=orr.upB u6.upB fr.symm;have fkr:=(VF (WJ.since' orr) ok5.within).symm;refine go ?_;refine UZ (cs:=[I (-1),I (-1)]) ?_;intro h7 e7 n7 s7 _;have ok7:=ok6.ext e7;have o7:=o6.ext e7;refine go ?_;refine VA (zJj h7 _ (-1) (-1) (T.getD (F.getD f.toNat default).sig.toNat default).parts.length s7 (yO (e6.trans e7) E1.hm) (by omega)) ?_;rintro _ h8 ⟨⟨gp,gp1,gp2,rfl,gp3⟩,e8⟩;have e68:=e7.trans e8;have e18:=e6.trans e68;have o8:=o6.ext e68;have n17:h1.n<=h7.n:=(e6.trans e7).n;have op8:=zSD (b:=h1.n) (by omega) gp2 gp3;have ok8:=ok6.ext e68;have or8:=or6.ext e68;have hsp:zAo h7 (.slice (some ⟨gp,0,none⟩) (T.getD (F.getD f.toNat default).sig.toNat default).parts.length 2):=fun b hb=>by cases hb;exact gp1
 have fp1:=VF hsp (o6.ext e7).within;have fp2:=VF hsp (ok6.ext e7).within;have fp3:=VF hsp (or6.ext e7).within;refine go ?_;refine VW (cs:=[.slice (some ⟨gp,0,none⟩) (T.getD (F.getD f.toNat default).sig.toNat default).parts.length 2]) (j:=4) (hl:=by simp) o8 e18 ?_;intro h9 e9 o9 u9;have n4:h1.n<=h4.n:=e4.n;have FO9:FO h1 h9 (.pointer (some ⟨h1.n,0,none⟩)) vt vf f (T.getD (F.getD f.toNat default).sig.toNat default).parts (List.replicate (T.getD (F.getD f.toNat default).sig.toNat default).parts.length (-1,-1)) (YM xs (F.getD f.toNat default).blocks.length) (.slice k1 k2 k3) (.slice (some ⟨gp,0,none⟩) (T.getD (F.getD f.toNat default).sig.toNat default).parts.length 2) (.slice r1 r2 r3):=
  ⟨o9,ok8.upB u9.upB f5,op8.upB zCh u9.upB fp1.symm,(or8.since e4).upB u9.upB fr.symm,fp2.symm,fkr,fp3,f5,fp1.symm,fr.symm,⟨⟨_,_,_,rfl⟩,⟨_,_,_,rfl⟩,⟨_,_,_,rfl⟩⟩⟩
 have o19:=o1.ext e9;have pc9:=(pc _ e9).1;have sb9:=BF.ext sb e9;have sf9:=Wr.ext E1.sf e9;clear o9 u9 o8 op8 ok8 or8 fp1 fp2 fp3 hsp gp3 gp1 gp2 o7 ok7 s7 o6 ok6 or6 u6 o55 orr ok5 o5 E4 o14 fr fkr f5 pc1 pct1 satX stX sfX stX0 sfX0 o1X ea pct hslt sat;have hI2:=hI.out;generalize hLd:(F.getD f.toNat default).blocks=L at *;generalize hpd:(T.getD (F.getD f.toNat default).sig.toNat default).parts=par at *;refine go ?_;refine VD [55,56,57,58,7,6,59,60,61,62,63,64,65,66,9,8,67,68,69,70,71,72,73,74,75,76,77,78,10,79,80,81,82,83,10,84,85,86,87,88,89,90,91,92,93,94,62,95,54] (by kernel_rfl) (fun i=>L.length-i) (fun i t h'=>U8 h1 h'/\zB t 54=I i/\i<=L.length/\∃ vk vp,FO h1 h' (.pointer (some ⟨h1.n,0,none⟩)) vt vf f (par++yn (L.take i)) (List.replicate par.length (-1,-1)++Zc L i) (YM xs L.length) vk vp (.slice r1 r2 r3)) 0 ?_ ?_
 ·exact⟨e9,WA,QT _,_,_,by simpa [yn,Zc]using FO9⟩
 rintro i t h10 hsame ⟨e10,s54,hi,vk,vp,G10⟩;refine go ?_;refine VE (fun hb=> ?_) (fun hb=> ?_)<;>simp only[DB]at hb;rotate_left 1
 ·have hii:i=L.length:=by omega
  subst hii;rw[Q5]at G10;refine gr ?_;exact⟨⟨h1.n,xs,rfl,hRul,⟨h1,_,_,_,G10.own,G10.k.sl,G10.q.sl,G10.r.sl⟩,Wv.ext E1.st e10,Wr.ext E1.sf e10,yO e10 E1.hm⟩,e1.trans e10⟩
 have hi':i<L.length:=by omega
 obtain⟨csb,⟨vi,rfl,si,hli⟩,pcb,hsb⟩:=yA (i:=i) sb (by omega);have pcb10:=(pcb _ e10).1;have sb10:=BF.ext sb e10;have hil:=hI2 _ (zJ hi');have hkl:=zEO hI2 i (by omega);have hpl:=zDJ hI2 i (by omega);generalize hBd:L.getD i default=B at *;obtain⟨ia,iN,ik,rfl⟩:=zF si;refine go ?_;refine WO.al ?_;intro p7 h11 e11 o7;refine go ?_;refine VG (cs:=[.slice ia iN ik,.int .u8 B.fin.kind,I B.fin.a,I B.fin.to,I B.fin.els]) o7 e11 ?_;intro h12 e12 o7 u7;have e1_12:=e10.trans e12;have si12:=BW.ext si e1_12;refine go ?_;refine VD [63,64,65,66,9,8,67,68,69,70,71,72,73,74,75,76,77,78,10,79,80,81,82,83,10,84,85,86,87,88,89,90,91,92,93,94,62] (by kernel_rfl) (fun j=>B.ins.length-j) (fun j t h'=>U8 h1 h'/\zB t 62=I j/\j<=B.ins.length/\∃ vk vp,FO h1 h' (.pointer (some ⟨h1.n,0,none⟩)) vt vf f (par++yn (L.take i)++(B.ins.take j).map Zu) (List.replicate par.length (-1,-1)++Zc L i++(List.range j).map fun(a:Nat)=>((i:Int),(a:Int))) (YM xs L.length) vk vp (.slice r1 r2 r3)) 0 ?_ ?_
 ·exact⟨e1_12,WA,QT _,_,_,by simpa using G10.ext e12⟩
 rintro j t h13 hsame2 ⟨e13,s62,hj,vk,vp,G13⟩;refine go ?_;refine VE (fun hb=> ?_) (fun hb=> ?_)<;>simp only[DB]at hb;rotate_left 1
 ·have hjj:j=B.ins.length:=by omega
  subst hjj;refine go ?_;refine zA (i+1) (by omega) ⟨e13,Wx,by omega,vk,vp,?_⟩;rw[zBK hi',hBd,show Zc L (i+1)=Zc L i++(List.range B.ins.length).map fun(a:Nat)=>((i:Int),(a:Int)) by rw[<-hBd];rfl];rw[Q5,QZ,QZ]at G13;exact G13
 have hj':j<B.ins.length:=by omega
 obtain⟨csx,hR,pcx,hsx⟩:=yA (i:=j) si (by omega);have pcx13:=(pcx _ e13).1;have si13:=BW.ext si e13;have hsucc:(B.ins.take (j+1)).map Zu=(B.ins.take j).map Zu++[Zu (B.ins.getD j default)]:=by rw[zJY hj',GA];rfl
 generalize hxd:B.ins.getD j default=x at *;obtain⟨xa,xf,rfl,sxa,sxf,hla,hlf,ho⟩:=id hR;obtain⟨xa1,xa2,xa3,rfl⟩:=Wb.shape sxa;obtain⟨xf1,xf2,xf3,rfl⟩:=Wb.shape sxf;refine go ?_;refine WO.al ?_;intro p9 h14 e14 o9;refine go ?_;refine VG (cs:=[.int .u8 x.op,I x.ty,I x.a,I x.b,I x.n,.slice xa1 xa2 xa3,.slice xf1 xf2 xf3]) o9 e14 ?_;intro h15 e15 o9 u9;have G15:=G13.ext e15;have e1_15:=e13.trans e15;have own15:=G15.own;refine go ?_;refine UI (a:=((i:Int),(j:Int))) (Dn:=fun _=>False) G15.q e1_15 (QE _) e1_15.n (by decide) (by simp only[QM,List.length_replicate,Qp,List.length_range];omega) (fun hx _ _=>rfl) (fun _ h=>h.elim) (fun _ _ _ _ h=>h) ?_;intro v8 h16 lit e16 op16 n16 k16 fr16;have hs16:zAo h15 v8:=fun b hb=>by obtain⟨n,k,g,rfl,hg⟩:=fr16;cases hb;exact hg
 have sh16:∃ a n k,v8=.slice a n k:=let⟨n,k,g,e,_⟩:=fr16;⟨_,n,k,e⟩;have uB16:=zRq n16 k16;have own16:=own15.upB uB16 G15.op.symm;have o9_16:=o9.upB uB16 (VF o9.since' G13.q.within).symm;obtain⟨w1,w2,w3,rfl⟩:=sh16;refine go ?_;refine VW (cs:=[.slice w1 w2 w3]) (j:=4) (hl:=by simp) own16 e16 ?_;intro h17 e17 own17 u17;replace own17:U6 h1 h17 (.pointer (some ⟨h1.n,0,none⟩)) [vt,vf,I f,vk,.slice w1 w2 w3,.slice r1 r2 r3]:=own17;have G17:=G15.putP uB16 hs16 ⟨_,_,_,rfl⟩ op16 own17 u17;have o9_17:=o9_16.upB u17.upB (VF o9.since' G13.own.within).symm;refine go ?_;refine VA (zHb h17 x.op (E1.ext e17).tt ho.1 ho.2) ?_;rintro _ h18 ⟨rfl,e18⟩;have G18:=G17.ext e18;have own18:=G18.own;have o9_18:=o9_17.ext e18;have e1_18:=e17.trans e18;have hk:Zu x=if(zW x.op).2.2.2.2.2 then x.ty else -1:=rfl;have ok18:=G18.k;obtain⟨⟨q1,q2,q3,rfl⟩,_⟩:=G18.s;cases hb2:(zW x.op).2.2.2.2.2 with
 |true=>
  have hk1:Zu x=x.ty:=by rw[hk,hb2];rfl
  refine go ?_;refine WO.bl [x.ty] ?_;intro v19 h19 e19 ol19;refine go ?_;refine Vo (ok18.ext e19) ol19.sl (e1_18.trans e19) (by simp) (by simp only[QM,Qp,Q8,Qa];omega) ?_;intro v20 h20 e20 oi20 u20;have own20:=(own18.ext e19).upB u20.upB G18.ok.symm;obtain⟨y1,y2,y3,rfl⟩:=Wb.shape oi20.sl;refine go ?_;refine VW (cs:=[.slice y1 y2 y3]) (j:=3) (hl:=by simp) own20 e20 ?_;intro h21 e21 own21 u21;replace own21:U6 h1 h21 (.pointer (some ⟨h1.n,0,none⟩)) [vt,vf,I f,.slice y1 y2 y3,.slice w1 w2 w3,.slice r1 r2 r3]:=own21;have G21:=(G18.ext e19).putK u20 (e1_18.trans e19).n oi20 own21 u21;refine go ?_;refine zA (j+1) (by omega) ⟨e21,Wx,by omega,.slice y1 y2 y3,.slice w1 w2 w3,?_⟩;rw[hsucc,hk1,Gy,GA,<-QZ,<-QZ];exact G21
 |false=>
  have hk1:Zu x= -1:=by rw[hk,hb2];rfl
  refine go ?_;refine WO.bl [-1] ?_;intro v19 h19 e19 ol19;refine go ?_;refine Vo (ok18.ext e19) ol19.sl (e1_18.trans e19) (by simp) (by simp only[QM,Qp,Q8,Qa];omega) ?_;intro v20 h20 e20 oi20 u20;have own20:=(own18.ext e19).upB u20.upB G18.ok.symm;obtain⟨y1,y2,y3,rfl⟩:=Wb.shape oi20.sl;refine go ?_;refine VW (cs:=[.slice y1 y2 y3]) (j:=3) (hl:=by simp) own20 e20 ?_;intro h21 e21 own21 u21;replace own21:U6 h1 h21 (.pointer (some ⟨h1.n,0,none⟩)) [vt,vf,I f,.slice y1 y2 y3,.slice w1 w2 w3,.slice r1 r2 r3]:=own21;have G21:=(G18.ext e19).putK u20 (e1_18.trans e19).n oi20 own21 u21;refine go ?_;refine zA (j+1) (by omega) ⟨e21,Wx,by omega,.slice y1 y2 y3,.slice w1 w2 w3,?_⟩;rw[hsucc,hk1,Gy,GA,<-QZ,<-QZ];exact G21
theorem zD9{O:List Int}{n:Nat}(h:O.Nodup)(hr:∀ c∈O,0<=c/\c<(n:Int)):O.length<=n:=by
 have hs:O ⊆ (List.range n).map fun(i:Nat)=>(i:Int):=fun c hc=>by
  have:=hr c hc;exact Qt.2 ⟨c.toNat,GJ.2 (by omega),by omega⟩
 have:=h.length_le_of_subset hs;simpa using this
theorem zK9(n:Nat):((List.range n).map fun(i:Nat)=>(i:Int)).Nodup:=by
 exact List.Pairwise.map (R:=(·≠·)) (S:=(·≠·)) (fun(i:Nat)=>(i:Int)) (fun a b hne (e:(a:Int)=b)=>hne (by omega)) List.nodup_range
theorem zMQ{T:List U5}{F:List WP}{f:Int}(h:(zD T F f 0).2=0):(yS T F f).1.length=(zD T F f 0).1.length↔∀ c,0<=c->c<((zD T F f 0).1.length:Int)->Wk (Wp (zD T F f 0).1) 0 c:=by
 obtain⟨h1,_,_,h4,_,h6,_⟩:=zBi h;have hnd:=zDQ h;have hle:=zD9 hnd h6;rw[<-h1];constructor
 ·intro he c c0 c1;refine(YY h).1 (Gk fun hc=> ?_);have hco:c∉(zU T F f).1:=fun hm=>hc (by
   unfold zU at hm;unfold yS;rw[QC (fun e=>e h)]at hm |-;exact zC5.2 (List.mem_reverse.1 hm))
  have:=zD9 (O:=c::(zU T F f).1) (n:=(zD T F f 0).1.length) (List.nodup_cons.2 ⟨hco,hnd⟩) (fun d hd=>by
   rcases GL.1 hd with rfl|hd
   ·exact⟨c0,c1⟩
   ·exact h6 d hd)
  rw[GT]at this;omega
 ·intro hw;have hs:((List.range (zD T F f 0).1.length).map fun(i:Nat)=>(i:Int)) ⊆ (zU T F f).1:=fun c hc=>by
   obtain⟨i,hi,rfl⟩:=Qt.1 hc;exact h4 _ ((YY h).2 (hw _ (by omega) (by have:=GJ.1 hi;omega)))
  have:=(zK9 _).length_le_of_subset hs;simp at this;omega
def zL(F:List WP)(f:Int):List WW:=(F.getD f.toNat default).blocks
def z8(T:List U5)(F:List WP)(f:Int):U5:=T.getD (F.getD f.toNat default).sig.toNat default
def Wu(T:List U5)(F:List WP)(f:Int):List Int:=zAz (z8 T F f).parts (zL F f)
def psF(T:List U5)(F:List WP)(f:Int):List (Int×Int):=zHE (z8 T F f).parts.length (zL F f)
def zSv(T:List U5)(F:List WP)(f b:Int):Prop:=
 (∀ i,i<((zL F f).getD b.toNat default).ins.length->YI T F (Wu T F f) (psF T F f) (Wp (zL F f)) (zL F f) (zR (zL F f) b (zL F f).length) b i)/\Ym T F f (Wu T F f) (psF T F f) (Wp (zL F f)) (zL F f) b
def zI3(T:List U5)(F:List WP)(f:Int):Prop:=
 (∀ c,0<=c->c<((zL F f).length:Int)->Wk (Wp (zL F f)) 0 c)/\(f=0->(z8 T F f).parts=[]/\Ws T 1 (z8 T F f).elem=true)/\∀ b,0<=b->b<((zL F f).length:Int)->zSv T F f b
def WfP(T:List U5)(F:List WP):Prop:=∀ f,0<=f->f<(F.length:Int)->zI3 T F f
theorem zF5(L:List WW):∀ n,n<=L.length->(yn (L.take n)).length=(Zc L n).length
 |0,_=>by simp[yn,Zc]
 |n+1,hn=>by
  rw[zBK (by omega),QM,zF5 L n (by omega)];show _=(Zc L n++_).length;rw[QM,Qp,Qp,List.length_range]
theorem zJi(L:List WW):((yn L).length:Int)=zI L:=by
 unfold yn zI;induction L with
 |nil=>rfl
 |cons b L ih=>rw[List.flatMap_cons,QM,Qm,G9,Qp,<-ih];omega
theorem zGA{L:List WW}:∀ n,∀ p∈Zc L n,(0<=p.1/\p.1<(n:Int))/\0<=p.2/\p.2<((L.getD p.1.toNat default).ins.length:Int)
 |0,p,hp=>by cases hp
 |n+1,p,hp=>by
  have hp:p∈Zc L n++(List.range (L.getD n default).ins.length).map fun(i:Nat)=>((n:Int),(i:Int)):=hp;rcases Qi.1 hp with hp|hp
  ·have:=zGA n p hp;omega
  ·obtain⟨i,hi,rfl⟩:=Qt.1 hp;have:=GJ.1 hi;exact⟨⟨by show(0:Int)<=(n:Int);omega,by show(n:Int)<_;omega⟩,by show(0:Int)<=(i:Int);omega,by show(i:Int)<((L.getD (n:Int).toNat default).ins.length:Int);rw[QU];omega⟩
structure FnIn(T:List U5)(F:List WP)(f:Int):Prop where
 hf:0<=f/\f<(F.length:Int)
 hc:yq T=0
 bl:∀ b,0<=b->b<((zL F f).length:Int)->zD T F f b=(zL F f,0)
 n1:1<=(zL F f).length
 n16:(zL F f).length<=16
 many:zI (zL F f)<=128
 sig:0<=(F.getD f.toNat default).sig/\(F.getD f.toNat default).sig<(T.length:Int)
 sigF:∀ g∈F,BI T g.sig
 ks:∀ t∈Wu T F f,BI T t
 par:∀ t∈(z8 T F f).parts,PlT T t
 el:PlT T (z8 T F f).elem
 par4:(z8 T F f).parts.length<=4
 len:(Wu T F f).length=(psF T F f).length
 reg:((Wu T F f).length:Int)=zCd ((z8 T F f).parts.length:Int) (zL F f)
 U:∀ B∈zL F f,BlkU B (Wu T F f).length (zL F f).length
 V:∀ B∈zL F f,∀ x∈B.ins,InsT T F x
 pl:∀ i,i<(psF T F f).length->((psF T F f).getD i default).1= -1\/0<=((psF T F f).getD i default).1
 nx:∀ c,0<=c/\c<((zL F f).length:Int)->∀ d∈Wp (zL F f) c,0<=d/\d<((zL F f).length:Int)
theorem Bo{T:List U5}{F:List WP}{f:Int}(h:Zq T F=0)(hf:0<=f/\f<(F.length:Int)):FnIn T F f:=by
 obtain⟨hc,hF1,hF8,hfn⟩:=yX h;have hm:=zJ (l:=F) (i:=f.toNat) (by omega);have hfn1:=hfn _ hm;have hlen:=zUI hfn1;have hsg:=zDA hfn1;have hask:zu T F f=(((z8 T F f).parts.length:Int),0):=by
  unfold zu;rw[QC (fun e=>e h),QI (by unfold zS;simp;omega)];rfl
 have hreg:(Y7 T F f).2=0:=by unfold Y7;rw[hask];rfl
 have hbl:∀ b,0<=b->b<((zL F f).length:Int)->zD T F f b=(zL F f,0):=fun b b0 b1=>by
  unfold zD;rw[QC (fun e=>e hreg),QC (by unfold zL at b1;omega)];rfl
 have hmay:=zBV hc hsg.1 hsg.2;have hk3:(z8 T F f).kind=3:=by
  unfold BX at hfn1;split at hfn1
  ·cases hfn1
  ·rename_i hb;unfold zBl at hb;simp only[GB,GZ,Gg,not_or,Bool.not_eq_false,Gh,Decidable.not_not]at hb;exact hb.1.1.2
 have hfnT:zIj T (z8 T F f):=by
  have hk3':(T.getD (F.getD f.toNat default).sig.toNat default).kind=3:=hk3;rcases hmay with⟨k,_⟩|⟨k,_⟩|⟨_,k⟩|⟨k,_⟩|⟨k,_⟩
  ·omega
  ·omega
  ·exact k
  ·omega
  ·omega
 have hV:∀ B∈zL F f,∀ x∈B.ins,InsT T F x:=fun B hB x hx=>by
  refine zTh (f:=F.getD f.toNat default) (by omega) ?_;have h0:BX T F.length (F.getD f.toNat default)=true:=hfn1;unfold BX at h0;split at h0
  ·cases h0
  ·have h0:((F.getD f.toNat default).blocks.any fun b=>zCc b (szL T F.length (F.getD f.toNat default)))=false:=by simpa using h0
   have hb:=G2.1 h0 B hB;have hb:zCc B (szL T F.length (F.getD f.toNat default))=false:=by simpa using hb
   unfold zCc at hb;rw[Bool.or_eq_false_iff]at hb;have:=G2.1 hb.1 x hx;simpa using this
 have hkm:((Wu T F f).length:Int)=zCd ((z8 T F f).parts.length:Int) (zL F f):=by
  unfold Wu zAz zCd;rw[QM,<-zJi];omega
 have hkl:(Wu T F f).length=(psF T F f).length:=by
  unfold Wu psF zAz zHE;rw[QM,QM,List.length_replicate,<-zF5 _ _ (QE _),Q5]
 refine⟨hf,hc,hbl,hlen.1,hlen.2.1,hlen.2.2,hsg,fun g hg=> .inr (zDA (hfn g hg)),?_,hfnT.1,hfnT.2.1,hfnT.2.2.1,hkl,hkm,?_,hV,?_,?_⟩
 ·intro t ht;rcases Qi.1 ht with ht|ht
  ·have:=hfnT.1 t ht;exact .inr ⟨this.1,this.2.1⟩
  ·obtain⟨B,hB,ht⟩:=List.mem_flatMap.1 ht;obtain⟨x,hx,rfl⟩:=Qt.1 ht;unfold Zu;split
   ·exact(hV B hB x hx).ty
   ·exact .inl rfl
 ·intro B hB;rw[hkm];exact zVW hfn1 B hB
 ·intro i hi;have hp:=zJ (l:=psF T F f) hi;rcases Qi.1 hp with hp|hp
  ·rw[(List.mem_replicate.1 hp).2];exact .inl rfl
  ·exact .inr (zGA _ _ hp).1.1
 ·intro c hcc d hd;have hU:=zVW hfn1 _ (zJ (l:=zL F f) (i:=c.toNat) (by omega));exact hU.next d hd
set_option maxRecDepth 100000
def zNK:U3:=(oV (oR [oB .lss 69 68 67]) (oV (oT 69 0) (oV (o5 1 (oV (oR [oM 70 68,oM 9 70]) (oV (oR [oM 71 5,oM 72 9,o2 73 77 71 72,oM 10 73]) (oV (oR [oM 74 10,⟨some 75,none,(.isNil 4 true (.tmp 74))⟩]) (oJ 75 (oV (oR [oM 76 10,oM 4 76]) .ret) .skip))))) (oR [oC .add 77 68 1,oM 68 77]))))
def zUp:U3:=(oV (oR [oX 2 0,⟨some 4,none,(.mov (.const .nilIface))⟩]) (oV (oR [oA 2 11 2,oM 12 1,o2 13 48 11 12,oM 5 13]) (oV (oR [oA 2 15 2,oM 16 1,o2 17 75 15 16,oM 14 17,oE 18 14 0,oE 19 14 1,oM 6 18,oM 7 19]) (oV (oV (o6 [oF 0 20 2,oL 21 20,oF 1 22 2,oL 23 22,oM 24 1,oI 2 25 23 24,oF 0 26 25,oL 27 26,oI 4 28 21 27,oA 4 29 28,(⟨some 8,none,(.alloc [(.int .u8 0),(.int .i64 0),(.int .i64 0),(.slice none 0 0)])⟩,[]),oS 4 8 29]) (oV (oR [oM 30 6,oQ 31 30,oF 1 32 2,oL 33 32,oM 34 1,oI 2 35 33 34,oF 1 36 35,oL 37 36,oQ 38 37,oB .neq 39 31 38,oM 40 39,oH 40 (oM 41 1),oH 40 (oC .eql 42 41 0),oH 40 (oM 43 42),oG 43 (oF 3 44 8),oG 43 (oL 45 44),oG 43 (oQ 46 45),oG 43 (oC .gtr 47 46 0),oG 43 (oM 48 47),oH 48 (oM 49 5),oH 48 (oF 1 50 8),oH 48 (oL 51 50),⟨some 52,some (48,false),(.buildSlice 1 1 [(.int .i64 0)] [(0,1,(.tmp 51))])⟩,⟨some 53,some (48,false),(.call (.func 76) [(.tmp 49),(.const (.int .u8 1)),(.tmp 52)])⟩,oH 48 (oW 54 53),oG 43 (oO 55 48 54),oH 40 (oP 56 43 55),oO 57 40 56]) (oJ 57 (oV (oR [oM 58 1,⟨some 59,none,(.build [(.int .i64 0),(.int .i64 0),(.int .i64 0)] [(0,1,(.tmp 58)),(1,1,(.const (.int .i64 0))),(2,1,(.const (.int .i64 120)))])⟩,⟨some 60,none,(.mkIface 130 (.tmp 59))⟩,oM 4 60]) .ret) .skip))) (oV (oV (oR [oF 1 61 2,oL 62 61,oM 63 1,oI 2 64 62 63,oF 1 65 64,oL 66 65,oQ 67 66,oN 68 0]) (o5 0 (.loop zNK))) (oV (oR [⟨some 4,none,(.mov (.const .nilIface))⟩]) .ret))))))
theorem zGn(h:U2)(vt vf:Value)(T:List U5)(F:List WP)(f:Int)(E:Env h vt vf T F)(hp:Zq T F=0)(hf:0<=f/\f<(F.length:Int)):
  WC Tryz.prog tb 38 [.agg #[vt,vf],I f] h fun r h'=>(r=.nilIface/\zI3 T F f\/(∃ b,r=Bt f b)/\¬zI3 T F f)/\U8 h h':=by
 have Z:=Bo hp hf;have hb0:=Z.bl 0 (Qk 0) (by have:=Z.n1;omega);have hbe:(zD T F f 0).2=0:=by rw[hb0]
 have ha:Yt T F f 0=0:=by
  unfold Yt;rw[QC (fun e=>e hbe),QC (by rw[hb0];have:=Z.n1;show ¬(_\/((zL F f).length:Int)<=0);omega),QI ((YY hbe).2 (by rw[hb0];exact Wk.here))]
 have hra:=zMQ hbe;have hre:(yS T F f).2=0:=by rw[zFm];exact hbe
 have hn16:=Z.n16;have hn1:=Z.n1;have hsg:=Z.sig;have hpar:=Z.par4;have hnx:nxF T F f=Wp (zL F f):=by unfold nxF;rw[hb0]
 rw[hb0]at hra;replace hra:(yS T F f).1.length=(zL F f).length↔∀ c,0<=c->c<((zL F f).length:Int)->Wk (Wp (zL F f)) 0 c:=hra;refine en 78 [(4,none)] zUp ?_;refine VH ?_;intro p2 h1 e1 o1;replace o1:U6 h h1 p2 [vt,vf]:=o1;have E1:=E.ext e1;refine go ?_;refine VA (zKP h1 vt vf T F f E1 ha hf Z.sig hn16) ?_;rintro _ h2 ⟨⟨g,xs,rfl,hR,M⟩,e2⟩;rw[hnx]at hR;have E2:=E1.ext e2;have o2:=o1.ext e2;refine go ?_;refine VA (zH6 h2 vt vf T F f E2.tt E2.hm E2.sm E2.st E2.sf) ?_;rintro _ h3 ⟨⟨vr,rfl,orr⟩,e3⟩;rw[hre];have E3:=E2.ext e3;have o3:=o2.ext e3;have M3:=M.ext e3;refine go ?_;refine VC 1 rfl rfl ?_;have ea:=za 1 h3;have o3X:=Vk (o3.ext ea);obtain⟨cs,⟨vb,rfl,sb,hlb⟩,pc,hsl⟩:=yA (i:=f.toNat) E3.sf (by omega);have pc1:=(pc _ ea).2;obtain⟨cst,⟨vat,rfl,sat,hlat⟩,pct,hslt⟩:=yA (i:=(F.getD f.toNat default).sig.toNat) E3.st (by omega);have pct1:=(pct _ ea).2;have stX0:=Wv.ext E3.st ea;have stX:Wv (inC (zC 1 h3)) vt T:=stX0;have sfX0:=Wr.ext E3.sf ea;have sfX:Wr (inC (zC 1 h3)) vf F:=sfX0;obtain⟨va1,va2,va3,rfl⟩:=Wb.shape sat;refine WT ?_;refine XH (X:=inC (zC 1 h3)) (cs:=[.int .u8 (z8 T F f).kind,I (z8 T F f).elem,I (z8 T F f).many,.slice va1 va2 va3]) (U8.refl _) E3.hm ?_;intro h4 p8 e4 o8;have E4:=E3.ext e4;have o4:=o3.ext e4;have M4:=M3.ext e4;have or4:=orr.ext e4;have pc4:=(pc _ e4).1;have sb4:=BF.ext sb e4;have sf4:=E4.sf;have sat4:=WM.ext sat e4;have st4:=E4.st;have e04:=e1.trans (e2.trans (e3.trans e4));have bad:∀ (b:Int) {h'},¬zI3 T F f->U8 h h'->(Bt f b=.nilIface/\zI3 T F f\/(∃ b',Bt f b=Bt f b')/\¬zI3 T F f)/\U8 h h':=fun b h' hn e=>⟨.inr ⟨⟨b,rfl⟩,hn⟩,e⟩;have bad:=Wa.mk @bad;clear stX0 sfX0 stX sfX o3X pc1 pct1 ea pct sat hslt;have hLb:(F.getD f.toNat default).blocks=zL F f:=rfl;rw[hLb]at sb4;have hgo:(f=0->(z8 T F f).parts=[]/\Ws T 1 (z8 T F f).elem=true)\/¬(f=0->(z8 T F f).parts=[]/\Ws T 1 (z8 T F f).elem=true):=Classical.em _;refine YJ ?_;refine VJ [30,31,32,33,34,35,36,37,38,39,40,41,42,43,44,45,46,47,48,49,50,51,52,53,54,55,56,57,58,59,60,4] (by kernel_rfl) (fun t h'=>U8 h4 h'/\(yS T F f).1.length=(zL F f).length/\(f=0->(z8 T F f).parts=[]/\Ws T 1 (z8 T F f).elem=true)) ?_ ?_
 ·by_cases hr:(yS T F f).1.length=(zL F f).length;case neg=>
   have hrI:¬(((yS T F f).1.length:Int)=((zL F f).length:Int)):=by omega
   refine go ?_;refine VQ ?_;refine go ?_;refine zCn ?_;refine gr ?_;exact bad.out 0 (fun q=>hr (hra.2 q.1)) e04
  have hrI:(((yS T F f).1.length:Int)=((zL F f).length:Int)):=by omega
  refine go ?_;by_cases f0:f=0;case neg=>
   refine go ?_;exact zG ⟨U8.refl _,hr,fun e=>absurd e f0⟩
  refine go ?_;by_cases hpl:((T.getD (F.getD f.toNat default).sig.toNat default).parts.length:Int)>0
  ·refine go ?_;refine VQ ?_;refine go ?_;refine zCn ?_;refine gr ?_;exact bad.out 0 (fun q=>by have q1:(T.getD (F.getD f.toNat default).sig.toNat default).parts=[]:=(q.2.1 f0).1;rw[q1]at hpl;simp at hpl) e04
  ·have hpn:(T.getD (F.getD f.toNat default).sig.toNat default).parts=[]:=List.eq_nil_of_length_eq_zero (by omega);refine go ?_;refine WO.bl [(T.getD (F.getD f.toNat default).sig.toNat default).elem] ?_;intro v5 h5 e5 o5;refine go ?_;refine VA (yt h5 1 v5 [(T.getD (F.getD f.toNat default).sig.toNat default).elem] (M4.ext e5) o5.sl (by simp) (fun t ht=>by rw[QW.1 ht];exact .inr ⟨Z.el.1,Z.el.2.1⟩)) ?_;rintro _ h6 ⟨rfl,e6⟩;rw[ZC];cases c1:Ws T 1 (T.getD (F.getD f.toNat default).sig.toNat default).elem with
   |false=>
    refine go ?_;refine VQ ?_;refine go ?_;refine zCn ?_;refine gr ?_;exact bad.out 0 (fun q=>by have q1:Ws T 1 (T.getD (F.getD f.toNat default).sig.toNat default).elem=true:=(q.2.1 f0).2;rw[q1]at c1;cases c1) (e04.trans (e5.trans e6))
   |true=>
    refine go ?_;exact zG ⟨e5.trans e6,hr,fun _=>⟨hpn,c1⟩⟩
 rintro t h5 hsame ⟨e5,hr,hmain⟩;have hway:=hra.1 hr;have hin:∀ c,Wk (Wp (zL F f)) 0 c->0<=c/\c<((zL F f).length:Int):=fun c w=>by
  induction w with
  |here=>omega
  |step _ hm ih=>exact Z.nx _ ih _ hm
 have G:Gr F f (Wp (zL F f)) xs (psF T F f) (zL F f):=⟨hf,rfl,hn16,hR,hway,hin,Z.pl⟩;have hil:∀ i,i<(zL F f).length->((zL F f).getD i default).ins.length<=1000:=fun i hi=>E.sm.ins _ (zJ (l:=F) (i:=f.toNat) (by omega)) _ (zJ (l:=zL F f) hi);have sb5:=BF.ext sb4 e5;have sf5:=Wr.ext sf4 e5;have o5:=o4.ext e5;have pc5:=(pc _ (e4.trans e5)).1;have M5:W6 h5 g vt vf T F f (Wu T F f) (psF T F f) (YM xs (zL F f).length):=M4.ext e5;have E5:=E4.ext e5;have e05:=e04.trans e5;replace hway:=Wa.mk hway;replace hin:=Wa.mk hin;replace hil:=Wa.mk hil;clear pc sb4 sf4 st4 sat4 o4 M4 E4 or4 o8 orr E3 E2 E1;refine go ?_;refine VD [69,70,9,71,72,73,10,74,75,76,4,77,68] (by kernel_rfl) (fun i=>(zL F f).length-i) (fun i t h'=>U8 h5 h'/\zB t 68=I i/\i<=(zL F f).length/\Wa (∀ b:Int,0<=b->b<(i:Int)->zSv T F f b)) 0 ?_ ?_
 ·exact⟨U8.refl _,WA,QT _,⟨fun b b0 b1=>by omega⟩⟩
 rintro i t6 h6 hsame6 ⟨e6,s68,hi,hI⟩;have M6:=M5.ext e6;have e06:=e05.trans e6;refine go ?_;refine VE (fun hb=> ?_) (fun hb=> ?_)<;>simp only[DB]at hb
 ·have hi':i<(zL F f).length:=by omega
  refine go ?_;refine VA (zME h6 i M6 G (E5.ext e6) Z.hc Z.ks Z.sigF Z.sig Z.len Z.U Z.V ⟨by omega,by omega⟩ (by rw[QU];exact hil.out i hi')) ?_;have hP:(YO T F f (i:Int)).1=zR (zL F f) i (zL F f).length:=by
   have:=Z.bl i (by omega) (by omega);unfold YO;rw[this];rfl
  rw[hP];rintro q h7 ⟨hq,e7⟩;rcases hq with⟨rfl,hq1,hq2⟩|⟨rfl,hq⟩
  ·refine go ?_;simp only[Q2,QY];refine go ?_;refine zA (i+1) (by omega) ⟨e6.trans e7,Wx,by omega,⟨fun b b0 b1=> ?_⟩⟩;by_cases hbi:b=i
   ·subst hbi;exact⟨hq1,hq2⟩
   ·exact hI.out b b0 (by omega)
  ·unfold Bt;refine go ?_;simp only[Q2,Qf];refine gr ?_;exact bad.out i (fun q=>hq (q.2.2 i (by omega) (by omega))) (e06.trans e7)
 ·have hii:i=(zL F f).length:=by omega
  refine gr ?_;exact⟨.inl ⟨rfl,hway.out,hmain,fun b b0 b1=>hI.out b b0 (by omega)⟩,e06⟩
set_option maxRecDepth 100000
section
variable {P:Program}{tab:Wi}{t:U7 Value}{ds:List Deferred}{rd:Option Nat}{h:U2}{Q:WF->U2->Prop}{l:List U4}{d:Nat}{ty:TypeId}{x:Operand}{v r:Value}
theorem UU{ok:Bool}(hr:zD4 P ty ok v=some r)(k:WO P tab l ⟨t.set d r,ds,rd⟩ h Q)(hx:WI t x v:=by exact zM):WO P tab (⟨some d,none,.assert ty ok x⟩::l) ⟨t,ds,rd⟩ h Q:=
 WO.op _ _ rfl (by unfold WI at *;simp only[WE,hx,hr,QL]) k
theorem UR(hr:zDv P ty v=some r)(k:WO P tab l ⟨t.set d r,ds,rd⟩ h Q)(hx:WI t x v:=by exact zM):WO P tab (⟨some d,none,.typeOf ty x⟩::l) ⟨t,ds,rd⟩ h Q:=
 WO.op _ _ rfl (by unfold WI at *;simp only[WE,hx,hr,QL]) k
theorem Uv{f:FuncId}{name:String}{u:Value}(hm:Yo P ty name=some f)(k:WC P tab f [u] h fun v h'=>WO P tab l ⟨t.set d v,ds,rd⟩ h' Q)(hx:WI t x (.iface ty u):=by exact zM):WO P tab (⟨some d,none,.invoke x name []⟩::l) ⟨t,ds,rd⟩ h Q:=
 WO.invoke hx hm rfl k
theorem Up{G rt:Nat}{b:Bool}(hb:Yf P G rt ty=some b)(k:WO P tab l ⟨t.set d (.bool b),ds,rd⟩ h Q)(hx:WI t x (zHP G rt ty):=by exact zM):WO P tab (⟨some d,none,.invoke x "Comparable" []⟩::l) ⟨t,ds,rd⟩ h Q:=
 V9 hx hb k
end
abbrev tyE:Nat:=29
abbrev zMb:Value:= .iface tyE (I 120)
def zQ8:U3:=(oV (oR [oX 1 0,⟨some 2,none,(.mov (.const .nilIface))⟩]) (oV (oR [oF 2 3 1,oL 4 3,⟨some 5,none,(.mkIface 29 (.tmp 4))⟩,oM 2 5]) .ret))
theorem zJC(h:U2)(f b:Int):WC Tryz.prog tb 276 [.agg #[I f,I b,I 120]] h fun r h'=>r=zMb/\U8 h h':=by
 refine en 6 [(2,none)] zQ8 ?_;refine VH ?_;intro p h1 e1 o1;replace o1:U6 h h1 p [I f,I b,I 120]:=o1;refine go ?_;refine VQ ?_;refine gr ?_;exact⟨rfl,e1⟩
def zN6:U3:=(oV (oR [oB .lss 46 45 44]) (oV (oT 46 3) (oV (o5 4 (oV (oR [oI 1 47 43 45,oL 48 47,oM 12 48]) (oV (oR [oM 49 12,oM 50 1,oM 51 2,o3 52 79 49 50 51]) (oJ 52 (oV (oR [oK 6 (.bool true)]) .ret) .skip)))) (oR [oC .add 53 45 1,oM 45 53]))))
def zN1:U3:=(o5 1 (oV (oV (oR [oM 14 2,oM 15 14,oG 15 (oM 16 0),oG 15 (oM 17 1),⟨some 18,some (15,true),(.binP .eql 85 (.tmp 16) (.tmp 17))⟩,oP 19 15 18]) (oJ 19 (oV (oR [oK 6 (.bool true)]) .ret) .skip)) (oV (oV (oR [oM 21 0,⟨some 22,none,(.assert 187 true (.tmp 21))⟩,oM 20 22,oE 23 20 0,oE 24 20 1,oM 7 23,oM 8 24]) (oV (oR [oM 25 8,oM 26 25,oG 26 (oM 27 7),oG 26 (oM 28 1),⟨some 29,some (26,true),(.invoke (.tmp 27) "Is" [(.tmp 28)])⟩,oP 30 26 29]) (oJ 30 (oV (oR [oK 6 (.bool true)]) .ret) .skip))) (oV (oR [oM 31 0]) (o5 2 (oV (oR [⟨some 32,none,(.assert 190 true (.tmp 31))⟩,oE 33 32 1,oE 34 32 0]) (oJ 33 (oV (oR [oM 9 34]) (oV (oR [oM 35 9,⟨some 36,none,(.invoke (.tmp 35) "Unwrap" [])⟩,oM 0 36]) (oV (oR [oM 37 0,⟨some 38,none,(.isNil 4 false (.tmp 37))⟩]) (oJ 38 (oV (oR [oZ 6]) .ret) .skip)))) (oV (oR [⟨some 39,none,(.assert 192 true (.tmp 31))⟩,oE 40 39 1,oE 41 39 0]) (oJ 40 (oV (oR [oM 10 41]) (oV (oV (oR [oM 42 10,⟨some 43,none,(.invoke (.tmp 42) "Unwrap" [])⟩,oQ 44 43,oN 45 0]) (o5 3 (.loop zN6))) (oV (oR [oZ 6]) .ret))) (oV (oR [oM 13 31]) (oV (oR [oZ 6]) .ret)))))))))))
def zUD:U3:=(oV (oR [oZ 6]) (o5 0 (.loop zN1)))
theorem zUz(h:U2)(f b:Int):WC Tryz.prog tb 79 [Bt f b,zMb,.bool true] h fun r h'=>r=.bool true/\U8 h h':=by
 refine en 54 [(6,none)] zUD ?_;refine VD [14,15,16,17,18,19,6,21,22,20,23,24,7,8,25,26,27,28,29,30,6,31,32,33,34,9,35,36,0,37,38,6,39,40,41,10,42,43,44,45,46,47,48,12,49,50,51,52,6,53,45,6,13,6] (by kernel_rfl) (fun i=>2-i) (fun i t h'=>U8 h h'/\((i=0/\zB t 0=Bt f b)\/(i=1/\zB t 0=zMb))) 0 ?_ ?_
 ·exact⟨U8.refl _,.inl ⟨rfl,WA⟩⟩
 rintro i t h1 hsame ⟨e1,⟨rfl,s0⟩|⟨rfl,s0⟩⟩
 ·unfold Bt at s0;refine go ?_;refine Vu (v:= .bool false) (by kernel_rfl) ?_;refine go ?_;refine UU (r:= .tuple #[.nilIface,.bool false]) (by kernel_rfl) ?_;refine go ?_;refine UU (r:= .tuple #[.iface tyF (.agg #[I f,I b,I 120]),.bool true]) (by kernel_rfl) ?_;refine go ?_;refine Uv (f:=276) (by kernel_rfl) ?_;refine WC.mono (zJC h1 f b) ?_;rintro _ h2 ⟨rfl,e2⟩;refine go ?_;simp only[Gi,Qn];refine go ?_;exact zA 1 (by omega) ⟨e1.trans e2,.inr ⟨rfl,WA⟩⟩
 ·refine go ?_;refine Vu (v:= .bool true) (by kernel_rfl) ?_;refine gr ?_;exact⟨rfl,e1⟩
def zOb:U3:=(oV (oR [oZ 4]) (oV (oV (oR [oM 6 0,⟨some 7,none,(.isNil 4 false (.tmp 6))⟩,oM 8 7,oH 8 (oM 9 1),⟨some 10,some (8,false),(.isNil 4 false (.tmp 9))⟩,oO 11 8 10]) (oJ 11 (oV (oR [oM 12 0,oM 13 1,⟨some 14,none,(.binP .eql 85 (.tmp 12) (.tmp 13))⟩,oM 4 14]) .ret) .skip)) (oV (oR [oM 15 1,⟨some 16,none,(.typeOf 185 (.tmp 15))⟩,⟨some 17,none,(.invoke (.tmp 16) "Comparable" [])⟩,oM 5 17]) (oV (oR [oM 18 0,oM 19 1,oM 20 5,o3 21 79 18 19 20,oM 4 21]) .ret))))
theorem zTu(h:U2)(f b:Int):WC Tryz.prog tb 39 [Bt f b,zMb] h fun r h'=>r=.bool true/\U8 h h':=by
 unfold Bt;refine en 22 [(4,none)] zOb ?_;simp only[Gi,Qn];refine go ?_;simp only[Gi,Qn];refine go ?_;refine UR (v:=zMb) rfl ?_;refine go ?_;refine Up (b:=true) (by kernel_rfl) ?_;refine go ?_;have hk:=zUz h f b;unfold Bt at hk;refine VA hk ?_;rintro _ h2 ⟨rfl,e2⟩;refine gr ?_;exact⟨rfl,e2⟩
theorem zQr(h:U2):WC Tryz.prog tb 39 [.nilIface,zMb] h fun r h'=>r=.bool false/\h=h':=by
 refine en 22 [(4,none)] zOb ?_;simp only[Gi,Qn];refine go ?_;refine Vu (v:= .bool false) (by kernel_rfl) ?_;refine gr ?_;exact⟨rfl,rfl⟩
def zc(T:List U5)(F:List WP):Int:=open Classical in if Zq T F≠0 then Zq T F else if WfP T F then 0 else 120
def zNZ:U3:=(oV (oR [oB .lss 15 14 13]) (oV (oT 15 0) (oV (o5 1 (oV (oR [oM 16 14,oM 4 16]) (oV (oR [oA 2 17 1,oM 18 4,o2 19 38 17 18,oM 5 19]) (oV (oR [oM 20 5,⟨some 21,none,(.mkIface 29 (.const (.int .i64 120)))⟩,o2 22 39 20 21]) (oJ 22 (oV (oR [oN 2 120]) .ret) .skip))))) (oR [oC .add 23 14 1,oM 14 23]))))
def zUy:U3:=(oV (oR [oX 1 0,oN 2 0]) (oV (oV (oR [oA 2 6 1,o1 7 37 6,oM 3 7]) (oV (oR [oM 8 3,oC .neq 9 8 0]) (oJ 9 (oV (oR [oM 10 3,oM 2 10]) .ret) .skip))) (oV (oV (oR [oF 1 11 1,oL 12 11,oQ 13 12,oN 14 0]) (o5 0 (.loop zNZ))) (oV (oR [oN 2 0]) .ret))))
theorem zFr(h:U2)(vt vf:Value)(T:List U5)(F:List WP)(E:Env h vt vf T F):
  WC Tryz.prog tb 16 [.agg #[vt,vf]] h fun r h'=>r=I (zc T F)/\U8 h h':=by
 unfold zc;have hF:=E.sm.funcs;refine en 24 [(2,none)] zUy ?_;refine VH ?_;intro p1 h1 e1 o1;replace o1:U6 h h1 p1 [vt,vf]:=o1;have E1:=E.ext e1;refine go ?_;refine VA (zKv h1 vt vf T F E1.tt E1.hm E1.sm E1.st E1.sf) ?_;rintro _ h2 ⟨rfl,e2⟩;have o2:=o1.ext e2;have E2:=E1.ext e2;have sf2:=E2.sf;by_cases hp:Zq T F=0;case neg=>
  rw[QI hp];refine gr ?_;exact⟨rfl,e1.trans e2⟩
 rw[QC (fun e=>e hp),hp];refine go ?_;refine VD [15,16,4,17,18,19,5,20,21,22,2,23,14] (by kernel_rfl) (fun i=>F.length-i) (fun i t h'=>U8 h2 h'/\zB t 14=I i/\i<=F.length/\Wa (∀ f:Int,0<=f->f<(i:Int)->zI3 T F f)) 0 ?_ ?_
 ·exact⟨U8.refl _,WA,QT _,⟨fun f f0 f1=>by omega⟩⟩
 rintro i t h3 hsame ⟨e3,s14,hi,hI⟩;have o3:=o2.ext e3;have e03:=e1.trans (e2.trans e3);refine go ?_;refine VE (fun hb=> ?_) (fun hb=> ?_)<;>simp only[DB]at hb
 ·have hi':i<F.length:=by omega
  refine go ?_;refine VA (zGn h3 vt vf T F i (E2.ext e3) hp ⟨by omega,by omega⟩) ?_;rintro q h4 ⟨⟨rfl,hq⟩|⟨⟨b,rfl⟩,hq⟩,e4⟩
  ·refine go ?_;refine VQ ?_;refine go ?_;refine VA (zQr h4) ?_;rintro _ _ ⟨rfl,rfl⟩;refine go ?_;refine zA (i+1) (by omega) ⟨e3.trans e4,Wx,by omega,⟨fun f f0 f1=> ?_⟩⟩;by_cases hfi:f=i
   ·subst hfi;exact hq
   ·exact hI.out f f0 (by omega)
  ·refine go ?_;refine VQ ?_;refine go ?_;refine VA (zTu h4 i b) ?_;rintro _ h5 ⟨rfl,e5⟩;refine gr ?_;refine⟨?_,e03.trans (e4.trans e5)⟩;rw[QC (fun w=>hq (w i (by omega) (by omega)))];rfl
 ·have hii:i=F.length:=by omega
  refine gr ?_;refine⟨?_,e03⟩;rw[QI (show WfP T F from fun f f0 f1=>hI.out f f0 (by omega))];rfl
def zIN(T:List U5)(F:List WP)(f r:Int):Int×Int:=
 if zc T F≠0 then(0,zc T F)else if(Z1 T F f r).2.2≠0 then(0,(Z1 T F f r).2.2)else if(Wu T F f).getD r.toNat 0= -1 then(0,6)else((Wu T F f).getD r.toNat 0,0)
theorem zk{T:List U5}{F:List WP}(h:zc T F=0):Zq T F=0/\WfP T F:=by
 unfold zc at h;split at h
 ·rename_i hp;exact absurd h hp
 ·rename_i hp;split at h
  ·rename_i hw;exact⟨Classical.not_not.1 hp,hw⟩
  ·cases h
theorem zBY{α:Type}{a b:List α}{i:Nat}{d:α}(h:i<a.length):(a++b).getD i d=a.getD i d:=by
 rw[QK,QK,Qx h]
theorem zAn{α:Type}{a b:List α}{i:Nat}{d:α}(h:a.length<=i):(a++b).getD i d=b.getD (i-a.length) d:=by
 rw[QK,QK,GG h]
theorem zAl{α β:Type}{l:List α}{i:Nat}{f:α->β}{a:α}{b:β}(h:i<l.length):(l.map f).getD i b=f (l.getD i a):=by
 rw[QK,QK,GU,QB h];rfl
theorem zFh{T:List U5}{F:List WP}{f r:Int}(hp:Zq T F=0):Z1 T F f r=if f<0\/(F.length:Int)<=f\/r<0\/zCd ((z8 T F f).parts.length:Int) (zL F f)<=r then(0,0,2)else
  if r<((z8 T F f).parts.length:Int)then(-1,r,0)else((ZR (zL F f) (r-((z8 T F f).parts.length:Int))).1,(ZR (zL F f) (r-((z8 T F f).parts.length:Int))).2,0):=by
 unfold Z1;by_cases hf:0<=f/\f<(F.length:Int)
 ·have hask:zu T F f=(((z8 T F f).parts.length:Int),0):=by
   unfold zu;rw[QC (fun e=>e hp),QI (by unfold zS;simp;omega)];rfl
  rw[hask];rw[QC (fun e=>e rfl)];show(if r<0\/((z8 T F f).parts.length:Int)+zI (F.getD f.toNat default).blocks<=r then(0,0,2)else if r<((z8 T F f).parts.length:Int)then(-1,r,0)else((ZR (zL F f) (r-((z8 T F f).parts.length:Int))).1,(ZR (zL F f) (r-((z8 T F f).parts.length:Int))).2,0))=_;by_cases h1:r<0\/((z8 T F f).parts.length:Int)+zI (F.getD f.toNat default).blocks<=r
  ·rw[QI h1,QI (by unfold zCd zL;omega)]
  ·rw[QC h1,QC (c:=f<0\/_) (by unfold zCd zL;omega)]
 ·have hask:zu T F f=(0,2):=by
   unfold zu;rw[QC (fun e=>e hp),QC (by unfold zS;simp;omega)]
  rw[hask,QI (by decide),QI (by omega)]
set_option maxRecDepth 100000
theorem zNe{T:List U5}{F:List WP}{f:Int}(hp:Zq T F=0)(hf:0<=f/\f<(F.length:Int)):Yt T F f 0=0:=by
 have Z:=Bo hp hf;have hb0:=Z.bl 0 (Qk 0) (by have:=Z.n1;omega);have hbe:(zD T F f 0).2=0:=by rw[hb0]
 unfold Yt;rw[QC (fun e=>e hbe),QC (by rw[hb0];have:=Z.n1;show ¬(_\/((zL F f).length:Int)<=0);omega),QI ((YY hbe).2 (by rw[hb0];exact Wk.here))]
def zUo:U3:=(oV (oR [oX 3 0,oN 6 0,oN 7 0]) (oV (oV (oR [oA 2 13 3,o1 14 16 13,oM 8 14]) (oV (oR [oM 15 8,oC .neq 16 15 0]) (oJ 16 (oV (oR [oM 17 8,oN 6 0,oM 7 17]) .ret) .skip))) (oV (oV (oR [oA 2 19 3,oM 20 1,oM 21 2,o3 22 18 19 20 21,oM 18 22,oE 23 18 0,oE 24 18 1,oE 25 18 2,oM 9 23,oM 10 24,oM 11 25]) (oV (oR [oM 26 11,oC .neq 27 26 0]) (oJ 27 (oV (oR [oM 28 11,oN 6 0,oM 7 28]) .ret) .skip))) (oV (oR [oA 2 29 3,oM 30 1,o2 31 48 29 30,⟨some 32,none,(.nilCheck (.tmp 31))⟩,oF 3 33 32,oL 34 33,oM 35 2,oI 1 36 34 35,oL 37 36,oM 12 37]) (oV (oV (oR [oM 38 12,oC .eql 39 38 (-1)]) (oJ 39 (oV (oR [oN 6 0,oN 7 6]) .ret) .skip)) (oV (oR [oM 40 12,oM 6 40,oN 7 0]) .ret))))))
theorem zOu(h:U2)(vt vf:Value)(T:List U5)(F:List WP)(f r:Int)(E:Env h vt vf T F):
  WC Tryz.prog tb 21 [.agg #[vt,vf],I f,I r] h fun q h'=>q=.tuple #[I (zIN T F f r).1,I (zIN T F f r).2]/\U8 h h':=by
 unfold zIN;refine en 41 [(6,none),(7,none)] zUo ?_;refine VH ?_;intro p1 h1 e1 o1;replace o1:U6 h h1 p1 [vt,vf]:=o1;have E1:=E.ext e1;refine go ?_;refine VA (zFr h1 vt vf T F E1) ?_;rintro _ h2 ⟨rfl,e2⟩;have o2:=o1.ext e2;have E2:=E1.ext e2;by_cases hs:zc T F=0;case neg=>
  have hs':zc T F≠0:=hs;rw[QI hs];refine gr ?_;exact⟨rfl,e1.trans e2⟩
 obtain⟨hp,hw⟩:=zk hs;rw[QC (fun e=>e hs),hs];refine go ?_;refine VA (zOH h2 vt vf T F f r E2) ?_;rintro _ h3 ⟨rfl,e3⟩;have o3:=o2.ext e3;have E3:=E2.ext e3;have e03:=e1.trans (e2.trans e3);have hpl:=zFh (f:=f) (r:=r) hp;by_cases hq:(Z1 T F f r).2.2=0;case neg=>
  have hq':(Z1 T F f r).2.2≠0:=hq;rw[QI hq];refine gr ?_;exact⟨rfl,e03⟩
 rw[QC (fun e=>e hq)];have hin:¬(f<0\/(F.length:Int)<=f\/r<0\/zCd ((z8 T F f).parts.length:Int) (zL F f)<=r):=fun hb=>by
  rw[hpl,QI hb]at hq;cases hq
 have hf:0<=f/\f<(F.length:Int):=by omega
 have Z:=Bo hp hf;have hreg:=Z.reg;have hn16:=Z.n16;generalize Z1 T F f r=pl at *;rw[hq];refine go ?_;refine VA (zKP h3 vt vf T F f E3 (zNe hp hf) hf Z.sig hn16) ?_;rintro _ h4 ⟨⟨g,xs,rfl,hR,⟨⟨hB,vk,vp,vr,oc,sk,sp,sr⟩,st,sf,hm⟩⟩,e4⟩;have sk:WM h4 vk (Wu T F f):=sk;have hlt:r.toNat<(Wu T F f).length:=by omega
 obtain⟨k,hk⟩:∃ k,(Wu T F f).getD r.toNat 0=k:=⟨_,rfl⟩;refine go ?_;rw[hk];by_cases hk1:k= -1
 ·rw[QI hk1];refine gr ?_;exact⟨rfl,e03.trans e4⟩
 ·rw[QC hk1];refine gr ?_;exact⟨rfl,e03.trans e4⟩
set_option maxRecDepth 100000
theorem zHi{α:Type}{l:List α}{f:α->List Int}(h:∀ x∈l,(f x).length<=32):(l.map f).flatten.length<=32*l.length:=by
 induction l with
 |nil=>simp
 |cons a l ih=>
  have:=h a (by simp);have:=ih fun x hx=>h x (by simp[hx]);simp only[Qm,GP,QM,GT];omega
theorem zLc{α:Type}[Inhabited α]{l:List α}{f:α->List Int}{i:Nat}(h:i<l.length):((l.take (i+1)).map f).flatten=((l.take i).map f).flatten++f (l.getD i default):=by
 rw[Q4,QB h,GA,List.flatten_append];simp[List.getD,QB h]
set_option maxRecDepth 100000
def zRT:U3:=(oV (oR [oN 4 0]) (oV (oV (oR [oM 6 0,o1 7 71 6,oM 5 7]) (oV (oR [oM 8 5,oC .neq 9 8 0]) (oJ 9 (oV (oR [oM 10 5,oM 4 10]) .ret) .skip))) (oV (oV (oR [oM 11 0,oQ 12 11,oM 13 1,⟨some 14,none,(.buildSlice 1 1 [(.int .i64 0)] [(0,1,(.tmp 13))])⟩,o2 15 167 12 14,oW 16 15]) (oJ 16 (oV (oR [oN 4 2]) .ret) .skip)) (oV (oR [oN 4 0]) .ret))))
theorem zFy(h:U2)(vt:Value)(T:List U5)(k:Int)(st:Wv h vt T)(hT:T.length<=100)(hp:∀ x∈T,x.parts.length<=100)(hc:yq T=0)(hk:0<=k/\k<(T.length:Int)):
  WC Tryz.prog tb 190 [vt,I k] h fun r h'=>r=I 0/\U8 h h':=by
 obtain⟨t1,t2,t3,rfl⟩:=zF st;have ht:yd (T.length:Int) [k]=true:=by unfold yd;simp[hk.1,hk.2]
 refine en 17 [(4,none)] zRT ?_;refine VA (zHm h _ T st hT hp) ?_;rintro _ h2 ⟨rfl,e2⟩;rw[hc];have st2:=Wv.ext st e2;refine go ?_;refine WO.bl [k] ?_;intro v3 h3 e3 o3;refine go ?_;refine VA (zAZ h3 v3 (T.length:Int) [k] o3.sl (by simp)) ?_;rintro _ h4 ⟨rfl,e4⟩;rw[ht];refine gr ?_;exact⟨rfl,e2.trans (e3.trans e4)⟩
end
end Go.Proofs.YtmejfcakhpihlaaGreatDoor
