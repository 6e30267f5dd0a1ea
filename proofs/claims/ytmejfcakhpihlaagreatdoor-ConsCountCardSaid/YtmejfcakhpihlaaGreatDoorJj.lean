/- What functions of the program come to in the abstract machine, and plain laws about it; no statement of the seat is proved in this text. -/
import Derived.Test.YtmejfcakhpihlaaGreatDoorJi
import Derived.Test.YtmejfcakhpihlaaGreatDoorJh
import Derived.Test.YtmejfcakhpihlaaGreatDoorJh
import Derived.Test.YtmejfcakhpihlaaGreatDoorAmV
import Derived.Test.YtmejfcakhpihlaaGreatDoorJf
import Derived.Test.YtmejfcakhpihlaaGreatDoorJg
import Derived.Test.YtmejfcakhpihlaaGreatDoorJb
import Derived.Test.YtmejfcakhpihlaaGreatDoorAmU
import Derived.Test.YtmejfcakhpihlaaGreatDoorJa
set_option linter.unusedVariables false
set_option linter.unusedSimpArgs false
set_option maxHeartbeats 2000000
namespace Go.Proofs.YtmejfcakhpihlaaGreatDoor
noncomputable section
open Go.Am
set_option maxRecDepth 100000
theorem zCs (h h':Uz)(cs:List Value)(a:Int×Int)(r:RPl h cs a):RPl h' cs a:=r
structure FO (hB h:Uz)(p:Value)(vt vf:Value)(f:Int)(ks:List Int)(ps:List (Int×Int))(rs:List Int)(vk vp vr:Value):Prop where
 own:U3 hB h p [vt,vf,I f,vk,vp,vr]
 k:WH hB h vk ks
 q:WR 2 RPl hB.n h vp ps
 r:WH hB h vr rs
 kp:WI vk vp
 kr:WI vk vr
 pr:WI vp vr
 ok:WI p vk
 op:WI p vp
 or:WI p vr
 s:(∃ a n k,vk= .slice a n k)/\(∃ a n k,vp= .slice a n k)/\(∃ a n k,vr= .slice a n k)
section
variable {hB h h' h2:Uz}{p vt vf:Value}{f:Int}{ks:List Int}{ps:List (Int×Int)}{rs:List Int}{vk vp vr v':Value}
theorem FO.ext (F:FO hB h p vt vf f ks ps rs vk vp vr)(e:U5 h h'):FO hB h' p vt vf f ks ps rs vk vp vr:=⟨F.own.ext e,F.k.ext e,F.q.ext e,F.r.ext e,F.kp,F.kr,F.pr,F.ok,F.op,F.or,F.s⟩
theorem FO.putK {ks':List Int}(F:FO hB h p vt vf f ks ps rs vk vp vr)(u:BP vk h h')(hn:hB.n<=h.n)(o:Wc h h' v' ks')(oc:U3 hB h2 p [vt,vf,I f,v',vp,vr])(u2:Wb p h' h2):FO hB h2 p vt vf f ks' ps rs v' vp vr:=by
 have hs:zBA h v':=(WH.since' (.inr o));have u1:=u.upB;have u2:=u2.upB;have o1:=VF hs F.own.within;have o2:=VF hs F.q.within;have o3:=VF hs F.r.within;have ob:WH hB h' v' ks':= .inr (let ⟨g,a,b⟩:=o;⟨g,QO hn a,b⟩);exact⟨oc,ob.upB u2 o1.symm,(F.q.upB zCs u1 F.kp).upB zCs u2 F.op,(F.r.upB u1 F.kr).upB u2 F.or,o2,o3,F.pr,o1.symm,F.op,F.or,⟨WZ.shape ob.sl,F.s.2⟩⟩
theorem FO.putP {ps':List (Int×Int)}(F:FO hB h p vt vf f ks ps rs vk vp vr)(u:UpB vp h h')(hs:zBA h v')(hsl:∃ a n k,v'= .slice a n k)(o:WR 2 RPl hB.n h' v' ps')(oc:U3 hB h2 p [vt,vf,I f,vk,v',vr])(u2:Wb p h' h2):FO hB h2 p vt vf f ks ps' rs vk v' vr:=by
 have u2:=u2.upB;have o1:=VF hs F.own.within;have o2:=VF hs F.k.within;have o3:=VF hs F.r.within;exact⟨oc,(F.k.upB u F.kp.symm).upB u2 F.ok,o.upB zCs u2 o1.symm,(F.r.upB u F.pr).upB u2 F.or,o2.symm,F.kr,o3,F.ok,o1.symm,F.or,⟨F.s.1,hsl,F.s.2.2⟩⟩
end
theorem zR2 {h:Uz}{b g k:Nat}{x y:Int}(h1:b<=g)(h2:g<h.n)(hg:h.get g=some (.row (zW [I x,I y] k) true 0)):WR 2 RPl b h (.slice (some ⟨g,0,none⟩) k 2) (List.replicate k (x,y)):=by
 refine .inr ⟨g,zW [I x,I y] k,fun _=>False,h1,h2,by rw[List.length_replicate],hg,by rw[zr,List.length_replicate];rfl,id,fun _ h=>h.elim,fun i a ha hx _ _=> ?_⟩;rw[List.getElem?_replicate]at ha;split at ha;case isFalse=>cases ha
 rename_i hi;cases ha;show _=_;have h3:List.drop (i * 2) (zW [I x,I y] k)=zW [I x,I y] (k - i):=zBT (z:=[I x,I y]);rw[h3,show k - i=(k - i - 1)+1 by omega];rfl
theorem zDL {L:List WQ}(h:∀ b∈L,b.ins.length<=1000):∀ n,n<=L.length->(Za L n).length<=1000 * n
 |0,_=>QT _
 |n+1,hn=>by
  have:=zDL h n (by omega);have h2:=h _ (zK (l:=L) (i:=n) (by omega));show (Za L n++_).length<=_;rw[QM,Qz,List.length_range];omega
theorem zEF {L:List WQ}(h:∀ b∈L,b.ins.length<=1000):∀ n,n<=L.length->(ZO (L.take n)).length<=1000 * n
 |0,_=>by simp[ZO]
 |n+1,hn=>by
  have:=zEF h n (by omega);have h2:=h _ (zK (l:=L) (i:=n) (by omega));rw[zA7 (by omega),QM,Qz];omega
theorem zJW {α:Type}[Inhabited α]{l:List α}{n:Nat}(h:n<l.length):l.take (n+1)=l.take n++[l.getD n default]:=by
 rw[GE,QD h,QL,QD h];rfl
def zSw:U0:=(oV (oR [oZ 2]) (oV (oR [oM 3 0,o1 4 136 3,⟨some 5,none,(.part false 5 1 (.tmp 4))⟩,oM 2 5]) .ret))
theorem zIC (h:Uz)(op:Int)(tt:Bb h)(h0:0<=op)(h1:op<=255):WC Tryz.prog tb 84 [.int .u8 op] h fun r h'=>r= .bool (zY op).2.2.2.2.2/\U5 h h':=by
 refine en 6 [(2,none)] zSw ?_;refine VA (zNI h op tt h0 h1) ?_;rintro _ h2 ⟨rfl,e2⟩;refine gr ?_;exact⟨rfl,e2⟩
def zOf:U0:=(oV (oR [oB .lss 63 62 61]) (oV (oT 63 2) (oV (o5 3 (oV (oR [oM 64 62,oI 7 65 60 62,oA 7 66 65,⟨some 9,none,(.alloc [(.int .u8 0),(.int .i64 0),(.int .i64 0),(.int .i64 0),(.int .i64 0),(.slice none 0 0),(.slice none 0 0)])⟩,oM 8 64,oS 7 9 66]) (oV (oR [oM 67 5,oM 68 5,⟨some 69,none,(.nilCheck (.tmp 68))⟩,oF 4 70 69,oL 71 70,oM 72 6,oM 73 8,⟨some 74,none,(.build [(.int .i64 0),(.int .i64 0)] [(0,1,(.tmp 72)),(1,1,(.tmp 73))])⟩,⟨some 75,none,(.buildSlice 1 2 [(.int .i64 0),(.int .i64 0)] [(0,2,(.tmp 74))])⟩,oY 2 76 71 75,⟨some 77,none,(.nilCheck (.tmp 67))⟩,oF 4 78 77,oS 1 78 76]) (oV (oR [oN 10 (-1)]) (oV (oV (oR [oF 0 79 9,oL 80 79,o1 81 84 80]) (oJ 81 (oR [oF 1 82 9,oL 83 82,oM 10 83]) .skip)) (oR [oM 84 5,oM 85 5,⟨some 86,none,(.nilCheck (.tmp 85))⟩,oF 3 87 86,oL 88 87,oM 89 10,⟨some 90,none,(.buildSlice 1 1 [(.int .i64 0)] [(0,1,(.tmp 89))])⟩,oY 1 91 88 90,⟨some 92,none,(.nilCheck (.tmp 84))⟩,oF 3 93 92,oS 1 93 91])))))) (oR [oC .add 94 62 1,oM 62 94]))))
def zPN:U0:=(oV (oR [oB .lss 55 54 53]) (oV (oT 55 0) (oV (o5 1 (oV (oR [oM 56 54,oI 5 57 52 54,oA 5 58 57,⟨some 7,none,(.alloc [(.slice none 0 0),(.int .u8 0),(.int .i64 0),(.int .i64 0),(.int .i64 0)])⟩,oM 6 56,oS 5 7 58]) (oV (oR [oF 0 59 7,oL 60 59,oQ 61 60,oN 62 0]) (o5 2 (.loop zOf))))) (oR [oC .add 95 54 1,oM 54 95]))))
def zTT:U0:=(oV (oR [oX 2 0,oK 4 (.pointer none)]) (oV (o6 [oA 2 11 2,oM 12 1,oF 0 13 2,oL 14 13,oF 1 15 2,oL 16 15,oM 17 1,oI 2 18 16 17,oF 0 19 18,oL 20 19,oI 4 21 14 20,oF 3 22 21,oL 23 22,(o1 24 50 23,[0]),(⟨some 25,none,(.build [(.slice none 0 0),(.slice none 0 0),(.int .i64 0),(.slice none 0 0),(.slice none 0 0),(.slice none 0 0)] [(0,2,(.tmp 11)),(2,1,(.tmp 12)),(3,1,(.tmp 24))])⟩,[]),oX 26 25,oM 5 26]) (oV (oR [oM 28 5,oA 2 29 2,oM 30 1,o2 31 82 29 30,oM 27 31,oE 32 27 0,oE 33 27 1,⟨some 34,none,(.nilCheck (.tmp 28))⟩,oF 5 35 34,oS 1 35 32]) (oV (oR [oM 36 5,⟨some 37,none,(.build [(.int .i64 0),(.int .i64 0)] [(0,1,(.const (.int .i64 (-1)))),(1,1,(.const (.int .i64 (-1))))])⟩,⟨some 38,none,(.buildSlice 1 2 [(.int .i64 0),(.int .i64 0)] [(0,2,(.tmp 37))])⟩,oM 39 5,⟨some 40,none,(.nilCheck (.tmp 39))⟩,oF 3 41 40,oL 42 41,oQ 43 42,o2 44 83 38 43,⟨some 45,none,(.nilCheck (.tmp 36))⟩,oF 4 46 45,oS 1 46 44]) (oV (oV (oR [oF 1 47 2,oL 48 47,oM 49 1,oI 2 50 48 49,oF 1 51 50,oL 52 51,oQ 53 52,oN 54 0]) (o5 0 (.loop zPN))) (oV (oR [oM 96 5,oM 4 96]) .ret))))))
theorem zRq (h:Uz)(vt vf:Value)(T:List U2)(F:List WP)(f:Int)(E:Env h vt vf T F)(ha:Y7 T F f 0=0)(hf:0<=f/\f<(F.length:Int))(hsig:0<=(F.getD f.toNat default).sig/\(F.getD f.toNat default).sig<(T.length:Int))(hL:(F.getD f.toNat default).blocks.length<=16):
  WC Tryz.prog tb 48 [.agg #[vt,vf],I f] h fun r h'=>(∃ g xs,r= .pointer (some ⟨g,0,none⟩)/\Rul (nxF T F f) xs/\
   Wy h' g vt vf T F f (zC9 (T.getD (F.getD f.toNat default).sig.toNat default).parts (F.getD f.toNat default).blocks) (zGr (T.getD (F.getD f.toNat default).sig.toNat default).parts.length (F.getD f.toNat default).blocks) (YH xs (F.getD f.toNat default).blocks.length))/\U5 h h':=by
 have hI:=E.sm.ins _ (zK (l:=F) (i:=f.toNat) (by omega));have hP:=E.sm.parts _ (zK (l:=T) (i:=(F.getD f.toNat default).sig.toNat) (by omega));have hI:=WW.mk hI;refine en 97 [(4,none)] zTT ?_;refine VI ?_;intro p0 h1 e1 o1;have E1:=E.ext e1;refine go ?_;refine VC 1 rfl rfl ?_;have ea:=zZ 1 h1;have o1X:=Vi (o1.ext ea);obtain⟨cs,⟨vb,rfl,sb,hlb⟩,pc,hsl⟩:=zp (i:=f.toNat) E1.sf (by omega);have pc1:=(pc _ ea).2;obtain⟨cst,⟨vat,rfl,sat,hlat⟩,pct,hslt⟩:=zp (i:=(F.getD f.toNat default).sig.toNat) E1.st (by omega);have pct1:=(pct _ ea).2;have satX:=Va (sat.ext ea);have stX0:=Wr.ext E1.st ea;have stX:Wr (inC (zC 1 h1)) vt T:=stX0;have sfX0:=Wn.ext E1.sf ea;have sfX:Wn (inC (zC 1 h1)) vf F:=sfX0;refine WM ?_;refine VA (zHV _ vat _ satX (by omega)) ?_;rintro vk X2 ⟨ok,e2⟩;obtain⟨k1,k2,k3,rfl⟩:=WZ.shape ok.sl;have hlt:h1.n<X2.n:=e2.n;refine nE e2 ?_;refine WM ?_;refine Xk E1.hm ?_;intro X3 n3 g3;have e3:=zDg ((zZ 1 h1).trans (yr (h:=h1) e2)) n3 g3 (QE _) hlt;have o5:U3 h1 (yu h1 (inC X3)) (.pointer (some ⟨h1.n,0,none⟩)) [vt,vf,I f,(.slice k1 k2 k3),.slice none 0 0,.slice none 0 0]:=⟨h1.n,QE _,by show h1.n<X3.n;omega,rfl,by show X3.get _=_;rw[g3,QJ rfl];rfl⟩;have ok5:WH h1 (yu h1 (inC X3)) (.slice k1 k2 k3) (T.getD (F.getD f.toNat default).sig.toNat default).parts:=by
  rcases ok with ok|⟨g,g1,g2,g4,g5⟩
  ·exact .inl ok
  ·have g1:h1.n+1<=g:=g1;exact .inr ⟨g,by omega,by show g<X3.n;omega,g4,by show X3.get g=_;rw[g3,QB (by omega)];exact g5⟩
 have f5:WI (.pointer (some ⟨h1.n,0,none⟩)) (.slice k1 k2 k3):=fun b hb hk=>by
  cases hb;have:=WH.since' ok _ hk;have:h1.n+1<=h1.n:=this;omega
 refine WM ?_;have e4:U5 h1 (yu h1 (inC X3)):=e3;generalize yu h1 (inC X3)=h4 at *;clear g3 n3 e3 e2 ok hlt X2;have E4:=E1.ext e4;have e04:=e1.trans e4;have o14:=o1.ext e4;refine go ?_;refine VA (zPs h4 vt vf T F f E4) ?_;rintro _ h5 ⟨⟨vr,rs,rfl,orr,hlr,hrs,_⟩,e5⟩;obtain⟨r1,r2,r3,rfl⟩:=WZ.shape orr.sl;obtain⟨xs,hRul,rfl⟩:=hrs ha;have o55:=o5.ext e5;have e45:=e4.trans e5;rw[ha];refine go ?_;refine VZ (cs:=[.slice r1 r2 r3]) (j:=5) (hl:=by simp) o55 e45 ?_;intro h6 e6 o6 u6;replace o6:U3 h1 h6 (.pointer (some ⟨h1.n,0,none⟩)) [vt,vf,I f,.slice k1 k2 k3,.slice none 0 0,.slice r1 r2 r3]:=o6;have fr:=VF (WH.since' orr) o5.within;have ok6:=(ok5.ext e5).upB u6.upB f5;have or6:=orr.upB u6.upB fr.symm;have fkr:=(VF (WH.since' orr) ok5.within).symm;refine go ?_;refine UX (cs:=[I (-1),I (-1)]) ?_;intro h7 e7 n7 s7 _;have ok7:=ok6.ext e7;have o7:=o6.ext e7;refine go ?_;refine VA (zJA h7 _ (-1) (-1) (T.getD (F.getD f.toNat default).sig.toNat default).parts.length s7 (yJ (e6.trans e7) E1.hm) (by omega)) ?_;rintro _ h8 ⟨⟨gp,gp1,gp2,rfl,gp3⟩,e8⟩;have e68:=e7.trans e8;have e18:=e6.trans e68;have o8:=o6.ext e68;have n17:h1.n<=h7.n:=(e6.trans e7).n;have op8:=zR2 (b:=h1.n) (by omega) gp2 gp3;have ok8:=ok6.ext e68;have or8:=or6.ext e68;have hsp:zBA h7 (.slice (some ⟨gp,0,none⟩) (T.getD (F.getD f.toNat default).sig.toNat default).parts.length 2):=fun b hb=>by cases hb;exact gp1
 have fp1:=VF hsp (o6.ext e7).within;have fp2:=VF hsp (ok6.ext e7).within;have fp3:=VF hsp (or6.ext e7).within;refine go ?_;refine VZ (cs:=[.slice (some ⟨gp,0,none⟩) (T.getD (F.getD f.toNat default).sig.toNat default).parts.length 2]) (j:=4) (hl:=by simp) o8 e18 ?_;intro h9 e9 o9 u9;have n4:h1.n<=h4.n:=e4.n;have FO9:FO h1 h9 (.pointer (some ⟨h1.n,0,none⟩)) vt vf f (T.getD (F.getD f.toNat default).sig.toNat default).parts (List.replicate (T.getD (F.getD f.toNat default).sig.toNat default).parts.length (-1,-1)) (YH xs (F.getD f.toNat default).blocks.length) (.slice k1 k2 k3) (.slice (some ⟨gp,0,none⟩) (T.getD (F.getD f.toNat default).sig.toNat default).parts.length 2) (.slice r1 r2 r3):=
  ⟨o9,ok8.upB u9.upB f5,op8.upB zCs u9.upB fp1.symm,(or8.since e4).upB u9.upB fr.symm,fp2.symm,fkr,fp3,f5,fp1.symm,fr.symm,⟨⟨_,_,_,rfl⟩,⟨_,_,_,rfl⟩,⟨_,_,_,rfl⟩⟩⟩
 have o19:=o1.ext e9;have pc9:=(pc _ e9).1;have sb9:=W6.ext sb e9;have sf9:=Wn.ext E1.sf e9;clear o9 u9 o8 op8 ok8 or8 fp1 fp2 fp3 hsp gp3 gp1 gp2 o7 ok7 s7 o6 ok6 or6 u6 o55 orr ok5 o5 E4 o14 fr fkr f5 pc1 pct1 satX stX sfX stX0 sfX0 o1X ea pct hslt sat;have hI2:=hI.out;generalize hLd:(F.getD f.toNat default).blocks=L at *;generalize hpd:(T.getD (F.getD f.toNat default).sig.toNat default).parts=par at *;refine go ?_;refine VD [55,56,57,58,7,6,59,60,61,62,63,64,65,66,9,8,67,68,69,70,71,72,73,74,75,76,77,78,10,79,80,81,82,83,10,84,85,86,87,88,89,90,91,92,93,94,62,95,54] (by kernel_rfl) (fun i=>L.length - i) (fun i t h'=>U5 h1 h'/\zB t 54=I i/\i<=L.length/\∃ vk vp,FO h1 h' (.pointer (some ⟨h1.n,0,none⟩)) vt vf f (par++ZO (L.take i)) (List.replicate par.length (-1,-1)++Za L i) (YH xs L.length) vk vp (.slice r1 r2 r3)) 0 ?_ ?_
 ·exact⟨e9,U7,QT _,_,_,by simpa [ZO,Za]using FO9⟩
 rintro i t h10 hsame ⟨e10,s54,hi,vk,vp,G10⟩;refine go ?_;refine VE (fun hb=> ?_) (fun hb=> ?_)<;>simp only[DB]at hb;rotate_left 1
 ·have hii:i=L.length:=by omega
  subst hii;rw[Q8]at G10;refine gr ?_;exact⟨⟨h1.n,xs,rfl,hRul,⟨h1,_,_,_,G10.own,G10.k.sl,G10.q.sl,G10.r.sl⟩,Wr.ext E1.st e10,Wn.ext E1.sf e10,yJ e10 E1.hm⟩,e1.trans e10⟩
 have hi':i<L.length:=by omega
 obtain⟨csb,⟨vi,rfl,si,hli⟩,pcb,hsb⟩:=zp (i:=i) sb (by omega);have pcb10:=(pcb _ e10).1;have sb10:=W6.ext sb e10;have hil:=hI2 _ (zK hi');have hkl:=zEF hI2 i (by omega);have hpl:=zDL hI2 i (by omega);generalize hBd:L.getD i default=B at *;obtain⟨ia,iN,ik,rfl⟩:=zF si;refine go ?_;refine WO.al ?_;intro p7 h11 e11 o7;refine go ?_;refine VG (cs:=[.slice ia iN ik,.int .u8 B.fin.kind,I B.fin.a,I B.fin.to,I B.fin.els]) o7 e11 ?_;intro h12 e12 o7 u7;have e1_12:=e10.trans e12;have si12:=BS.ext si e1_12;refine go ?_;refine VD [63,64,65,66,9,8,67,68,69,70,71,72,73,74,75,76,77,78,10,79,80,81,82,83,10,84,85,86,87,88,89,90,91,92,93,94,62] (by kernel_rfl) (fun j=>B.ins.length - j) (fun j t h'=>U5 h1 h'/\zB t 62=I j/\j<=B.ins.length/\∃ vk vp,FO h1 h' (.pointer (some ⟨h1.n,0,none⟩)) vt vf f (par++ZO (L.take i)++(B.ins.take j).map zA4) (List.replicate par.length (-1,-1)++Za L i++(List.range j).map fun (a:Nat)=>((i:Int),(a:Int))) (YH xs L.length) vk vp (.slice r1 r2 r3)) 0 ?_ ?_
 ·exact⟨e1_12,U7,QT _,_,_,by simpa using G10.ext e12⟩
 rintro j t h13 hsame2 ⟨e13,s62,hj,vk,vp,G13⟩;refine go ?_;refine VE (fun hb=> ?_) (fun hb=> ?_)<;>simp only[DB]at hb;rotate_left 1
 ·have hjj:j=B.ins.length:=by omega
  subst hjj;refine go ?_;refine zA (i+1) (by omega) ⟨e13,Wo,by omega,vk,vp,?_⟩;rw[zA7 hi',hBd,show Za L (i+1)=Za L i++(List.range B.ins.length).map fun (a:Nat)=>((i:Int),(a:Int)) by rw[<-hBd];rfl];rw[Q8,QZ,QZ]at G13;exact G13
 have hj':j<B.ins.length:=by omega
 obtain⟨csx,hR,pcx,hsx⟩:=zp (i:=j) si (by omega);have pcx13:=(pcx _ e13).1;have si13:=BS.ext si e13;have hsucc:(B.ins.take (j+1)).map zA4=(B.ins.take j).map zA4++[zA4 (B.ins.getD j default)]:=by rw[zJW hj',Qr];rfl
 generalize hxd:B.ins.getD j default=x at *;obtain⟨xa,xf,rfl,sxa,sxf,hla,hlf,ho⟩:=id hR;obtain⟨xa1,xa2,xa3,rfl⟩:=WZ.shape sxa;obtain⟨xf1,xf2,xf3,rfl⟩:=WZ.shape sxf;refine go ?_;refine WO.al ?_;intro p9 h14 e14 o9;refine go ?_;refine VG (cs:=[.int .u8 x.op,I x.ty,I x.a,I x.b,I x.n,.slice xa1 xa2 xa3,.slice xf1 xf2 xf3]) o9 e14 ?_;intro h15 e15 o9 u9;have G15:=G13.ext e15;have e1_15:=e13.trans e15;have own15:=G15.own;refine go ?_;refine UN (a:=((i:Int),(j:Int))) (Dn:=fun _=>False) G15.q e1_15 (QE _) e1_15.n (by decide) (by simp only[QM,List.length_replicate,Qz,List.length_range];omega) (fun hx _ _=>rfl) (fun _ h=>h.elim) (fun _ _ _ _ h=>h) ?_;intro v8 h16 lit e16 op16 n16 k16 fr16;have hs16:zBA h15 v8:=fun b hb=>by obtain⟨n,k,g,rfl,hg⟩:=fr16;cases hb;exact hg
 have sh16:∃ a n k,v8= .slice a n k:=let ⟨n,k,g,e,_⟩:=fr16;⟨_,n,k,e⟩;have uB16:=zQ6 n16 k16;have own16:=own15.upB uB16 G15.op.symm;have o9_16:=o9.upB uB16 (VF o9.since' G13.q.within).symm;obtain⟨w1,w2,w3,rfl⟩:=sh16;refine go ?_;refine VZ (cs:=[.slice w1 w2 w3]) (j:=4) (hl:=by simp) own16 e16 ?_;intro h17 e17 own17 u17;replace own17:U3 h1 h17 (.pointer (some ⟨h1.n,0,none⟩)) [vt,vf,I f,vk,.slice w1 w2 w3,.slice r1 r2 r3]:=own17;have G17:=G15.putP uB16 hs16 ⟨_,_,_,rfl⟩ op16 own17 u17;have o9_17:=o9_16.upB u17.upB (VF o9.since' G13.own.within).symm;refine go ?_;refine VA (zIC h17 x.op (E1.ext e17).tt ho.1 ho.2) ?_;rintro _ h18 ⟨rfl,e18⟩;have G18:=G17.ext e18;have own18:=G18.own;have o9_18:=o9_17.ext e18;have e1_18:=e17.trans e18;have hk:zA4 x=if (zY x.op).2.2.2.2.2 then x.ty else -1:=rfl;have ok18:=G18.k;obtain⟨⟨q1,q2,q3,rfl⟩,_⟩:=G18.s;cases hb2:(zY x.op).2.2.2.2.2 with
 |true=>
  have hk1:zA4 x=x.ty:=by rw[hk,hb2];rfl
  refine go ?_;refine WO.bl [x.ty] ?_;intro v19 h19 e19 ol19;refine go ?_;refine V1 (ok18.ext e19) ol19.sl (e1_18.trans e19) (by simp) (by simp only[QM,Qz,GR,Qa];omega) ?_;intro v20 h20 e20 oi20 u20;have own20:=(own18.ext e19).upB u20.upB G18.ok.symm;obtain⟨y1,y2,y3,rfl⟩:=WZ.shape oi20.sl;refine go ?_;refine VZ (cs:=[.slice y1 y2 y3]) (j:=3) (hl:=by simp) own20 e20 ?_;intro h21 e21 own21 u21;replace own21:U3 h1 h21 (.pointer (some ⟨h1.n,0,none⟩)) [vt,vf,I f,.slice y1 y2 y3,.slice w1 w2 w3,.slice r1 r2 r3]:=own21;have G21:=(G18.ext e19).putK u20 (e1_18.trans e19).n oi20 own21 u21;refine go ?_;refine zA (j+1) (by omega) ⟨e21,Wo,by omega,.slice y1 y2 y3,.slice w1 w2 w3,?_⟩;rw[hsucc,hk1,Gp,Qr,<-QZ,<-QZ];exact G21
 |false=>
  have hk1:zA4 x= -1:=by rw[hk,hb2];rfl
  refine go ?_;refine WO.bl [-1] ?_;intro v19 h19 e19 ol19;refine go ?_;refine V1 (ok18.ext e19) ol19.sl (e1_18.trans e19) (by simp) (by simp only[QM,Qz,GR,Qa];omega) ?_;intro v20 h20 e20 oi20 u20;have own20:=(own18.ext e19).upB u20.upB G18.ok.symm;obtain⟨y1,y2,y3,rfl⟩:=WZ.shape oi20.sl;refine go ?_;refine VZ (cs:=[.slice y1 y2 y3]) (j:=3) (hl:=by simp) own20 e20 ?_;intro h21 e21 own21 u21;replace own21:U3 h1 h21 (.pointer (some ⟨h1.n,0,none⟩)) [vt,vf,I f,.slice y1 y2 y3,.slice w1 w2 w3,.slice r1 r2 r3]:=own21;have G21:=(G18.ext e19).putK u20 (e1_18.trans e19).n oi20 own21 u21;refine go ?_;refine zA (j+1) (by omega) ⟨e21,Wo,by omega,.slice y1 y2 y3,.slice w1 w2 w3,?_⟩;rw[hsucc,hk1,Gp,Qr,<-QZ,<-QZ];exact G21
theorem zD4 {O:List Int}{n:Nat}(h:O.Nodup)(hr:∀ c∈O,0<=c/\c<(n:Int)):O.length<=n:=by
 have hs:O ⊆ (List.range n).map fun (i:Nat)=>(i:Int):=fun c hc=>by
  have:=hr c hc;exact Q6.2 ⟨c.toNat,GJ.2 (by omega),by omega⟩
 have:=h.length_le_of_subset hs;simpa using this
theorem zL3 (n:Nat):((List.range n).map fun (i:Nat)=>(i:Int)).Nodup:=by
 exact List.Pairwise.map (R:=(·≠·)) (S:=(·≠·)) (fun (i:Nat)=>(i:Int)) (fun a b hne (e:(a:Int)=b)=>hne (by omega)) List.nodup_range
theorem zMB {T:List U2}{F:List WP}{f:Int}(h:(zD T F f 0).2=0):(yN T F f).1.length=(zD T F f 0).1.length↔∀ c,0<=c->c<((zD T F f 0).1.length:Int)->Wh (Wl (zD T F f 0).1) 0 c:=by
 obtain⟨h1,_,_,h4,_,h6,_⟩:=zBa h;have hnd:=zDV h;have hle:=zD4 hnd h6;rw[<-h1];constructor
 ·intro he c c0 c1;refine(Yq h).1 (Gh fun hc=> ?_);have hco:c∉(zU T F f).1:=fun hm=>hc (by
   unfold zU at hm;unfold yN;rw[QB (fun e=>e h)]at hm |-;exact zC1.2 (List.mem_reverse.1 hm))
  have:=zD4 (O:=c::(zU T F f).1) (n:=(zD T F f 0).1.length) (List.nodup_cons.2 ⟨hco,hnd⟩) (fun d hd=>by
   rcases GL.1 hd with rfl|hd
   ·exact⟨c0,c1⟩
   ·exact h6 d hd)
  rw[GF]at this;omega
 ·intro hw;have hs:((List.range (zD T F f 0).1.length).map fun (i:Nat)=>(i:Int)) ⊆ (zU T F f).1:=fun c hc=>by
   obtain⟨i,hi,rfl⟩:=Q6.1 hc;exact h4 _ ((Yq h).2 (hw _ (by omega) (by have:=GJ.1 hi;omega)))
  have:=(zL3 _).length_le_of_subset hs;simp at this;omega
def zM (F:List WP)(f:Int):List WQ:=(F.getD f.toNat default).blocks
def yE (T:List U2)(F:List WP)(f:Int):U2:=T.getD (F.getD f.toNat default).sig.toNat default
def Bo (T:List U2)(F:List WP)(f:Int):List Int:=zC9 (yE T F f).parts (zM F f)
def psF (T:List U2)(F:List WP)(f:Int):List (Int×Int):=zGr (yE T F f).parts.length (zM F f)
def zSr (T:List U2)(F:List WP)(f b:Int):Prop:=
 (∀ i,i<((zM F f).getD b.toNat default).ins.length->YI T F (Bo T F f) (psF T F f) (Wl (zM F f)) (zM F f) (zR (zM F f) b (zM F f).length) b i)/\Y3 T F f (Bo T F f) (psF T F f) (Wl (zM F f)) (zM F f) b
def zJz (T:List U2)(F:List WP)(f:Int):Prop:=
 (∀ c,0<=c->c<((zM F f).length:Int)->Wh (Wl (zM F f)) 0 c)/\(f=0->(yE T F f).parts=[]/\Wt T 1 (yE T F f).elem=true)/\∀ b,0<=b->b<((zM F f).length:Int)->zSr T F f b
def WfP (T:List U2)(F:List WP):Prop:=∀ f,0<=f->f<(F.length:Int)->zJz T F f
theorem zGG (L:List WQ):∀ n,n<=L.length->(ZO (L.take n)).length=(Za L n).length
 |0,_=>by simp[ZO,Za]
 |n+1,hn=>by
  rw[zA7 (by omega),QM,zGG L n (by omega)];show _=(Za L n++_).length;rw[QM,Qz,Qz,List.length_range]
theorem zIm (L:List WQ):((ZO L).length:Int)=zI L:=by
 unfold ZO zI;induction L with
 |nil=>rfl
 |cons b L ih=>rw[List.flatMap_cons,QM,Qm,G7,Qz,<-ih];omega
theorem zFh {L:List WQ}:∀ n,∀ p∈Za L n,(0<=p.1/\p.1<(n:Int))/\0<=p.2/\p.2<((L.getD p.1.toNat default).ins.length:Int)
 |0,p,hp=>by cases hp
 |n+1,p,hp=>by
  have hp:p∈Za L n++(List.range (L.getD n default).ins.length).map fun (i:Nat)=>((n:Int),(i:Int)):=hp;rcases Qj.1 hp with hp|hp
  ·have:=zFh n p hp;omega
  ·obtain⟨i,hi,rfl⟩:=Q6.1 hp;have:=GJ.1 hi;exact⟨⟨by show (0:Int)<=(n:Int);omega,by show (n:Int)<_;omega⟩,by show (0:Int)<=(i:Int);omega,by show (i:Int)<((L.getD (n:Int).toNat default).ins.length:Int);rw[QU];omega⟩
structure FnIn (T:List U2)(F:List WP)(f:Int):Prop where
 hf:0<=f/\f<(F.length:Int)
 hc:yp T=0
 bl:∀ b,0<=b->b<((zM F f).length:Int)->zD T F f b=(zM F f,0)
 n1:1<=(zM F f).length
 n16:(zM F f).length<=16
 many:zI (zM F f)<=128
 sig:0<=(F.getD f.toNat default).sig/\(F.getD f.toNat default).sig<(T.length:Int)
 sigF:∀ g∈F,BE T g.sig
 ks:∀ t∈Bo T F f,BE T t
 par:∀ t∈(yE T F f).parts,PlT T t
 el:PlT T (yE T F f).elem
 par4:(yE T F f).parts.length<=4
 len:(Bo T F f).length=(psF T F f).length
 reg:((Bo T F f).length:Int)=zE6 ((yE T F f).parts.length:Int) (zM F f)
 U:∀ B∈zM F f,BlkU B (Bo T F f).length (zM F f).length
 V:∀ B∈zM F f,∀ x∈B.ins,InsT T F x
 pl:∀ i,i<(psF T F f).length->((psF T F f).getD i default).1= -1\/0<=((psF T F f).getD i default).1
 nx:∀ c,0<=c/\c<((zM F f).length:Int)->∀ d∈Wl (zM F f) c,0<=d/\d<((zM F f).length:Int)
theorem zDf {T:List U2}{F:List WP}{f:Int}(h:Zz T F=0)(hf:0<=f/\f<(F.length:Int)):FnIn T F f:=by
 obtain⟨hc,hF1,hF8,hfn⟩:=yo h;have hm:=zK (l:=F) (i:=f.toNat) (by omega);have hfn1:=hfn _ hm;have hlen:=zUX hfn1;have hsg:=zEy hfn1;have hask:zn T F f=(((yE T F f).parts.length:Int),0):=by
  unfold zn;rw[QB (fun e=>e h),QJ (by unfold zS;simp;omega)];rfl
 have hreg:(Y5 T F f).2=0:=by unfold Y5;rw[hask];rfl
 have hbl:∀ b,0<=b->b<((zM F f).length:Int)->zD T F f b=(zM F f,0):=fun b b0 b1=>by
  unfold zD;rw[QB (fun e=>e hreg),QB (by unfold zM at b1;omega)];rfl
 have hmay:=zBU hc hsg.1 hsg.2;have hk3:(yE T F f).kind=3:=by
  unfold BT at hfn1;split at hfn1
  ·cases hfn1
  ·rename_i hb;unfold zB6 at hb;simp only[GG,Gb,Gk,not_or,Bool.not_eq_false,Gm,Decidable.not_not]at hb;exact hb.1.1.2
 have hfnT:zIK T (yE T F f):=by
  have hk3':(T.getD (F.getD f.toNat default).sig.toNat default).kind=3:=hk3;rcases hmay with ⟨k,_⟩|⟨k,_⟩|⟨_,k⟩|⟨k,_⟩|⟨k,_⟩
  ·omega
  ·omega
  ·exact k
  ·omega
  ·omega
 have hV:∀ B∈zM F f,∀ x∈B.ins,InsT T F x:=fun B hB x hx=>by
  refine zTH (f:=F.getD f.toNat default) (by omega) ?_;have h0:BT T F.length (F.getD f.toNat default)=true:=hfn1;unfold BT at h0;split at h0
  ·cases h0
  ·have h0:((F.getD f.toNat default).blocks.any fun b=>zCF b (szL T F.length (F.getD f.toNat default)))=false:=by simpa using h0
   have hb:=Gz.1 h0 B hB;have hb:zCF B (szL T F.length (F.getD f.toNat default))=false:=by simpa using hb
   unfold zCF at hb;rw[Bool.or_eq_false_iff]at hb;have:=Gz.1 hb.1 x hx;simpa using this
 have hkm:((Bo T F f).length:Int)=zE6 ((yE T F f).parts.length:Int) (zM F f):=by
  unfold Bo zC9 zE6;rw[QM,<-zIm];omega
 have hkl:(Bo T F f).length=(psF T F f).length:=by
  unfold Bo psF zC9 zGr;rw[QM,QM,List.length_replicate,<-zGG _ _ (QE _),Q8]
 refine⟨hf,hc,hbl,hlen.1,hlen.2.1,hlen.2.2,hsg,fun g hg=> .inr (zEy (hfn g hg)),?_,hfnT.1,hfnT.2.1,hfnT.2.2.1,hkl,hkm,?_,hV,?_,?_⟩
 ·intro t ht;rcases Qj.1 ht with ht|ht
  ·have:=hfnT.1 t ht;exact .inr ⟨this.1,this.2.1⟩
  ·obtain⟨B,hB,ht⟩:=List.mem_flatMap.1 ht;obtain⟨x,hx,rfl⟩:=Q6.1 ht;unfold zA4;split
   ·exact(hV B hB x hx).ty
   ·exact .inl rfl
 ·intro B hB;rw[hkm];exact zVB hfn1 B hB
 ·intro i hi;have hp:=zK (l:=psF T F f) hi;rcases Qj.1 hp with hp|hp
  ·rw[(List.mem_replicate.1 hp).2];exact .inl rfl
  ·exact .inr (zFh _ _ hp).1.1
 ·intro c hcc d hd;have hU:=zVB hfn1 _ (zK (l:=zM F f) (i:=c.toNat) (by omega));exact hU.next d hd
set_option maxRecDepth 100000
def zPQ:U0:=(oV (oR [oB .lss 69 68 67]) (oV (oT 69 0) (oV (o5 1 (oV (oR [oM 70 68,oM 9 70]) (oV (oR [oM 71 5,oM 72 9,o2 73 77 71 72,oM 10 73]) (oV (oR [oM 74 10,⟨some 75,none,(.isNil 4 true (.tmp 74))⟩]) (oJ 75 (oV (oR [oM 76 10,oM 4 76]) .ret) .skip))))) (oR [oC .add 77 68 1,oM 68 77]))))
def zTB:U0:=(oV (oR [oX 2 0,⟨some 4,none,(.mov (.const .nilIface))⟩]) (oV (oR [oA 2 11 2,oM 12 1,o2 13 48 11 12,oM 5 13]) (oV (oR [oA 2 15 2,oM 16 1,o2 17 75 15 16,oM 14 17,oE 18 14 0,oE 19 14 1,oM 6 18,oM 7 19]) (oV (oV (o6 [oF 0 20 2,oL 21 20,oF 1 22 2,oL 23 22,oM 24 1,oI 2 25 23 24,oF 0 26 25,oL 27 26,oI 4 28 21 27,oA 4 29 28,(⟨some 8,none,(.alloc [(.int .u8 0),(.int .i64 0),(.int .i64 0),(.slice none 0 0)])⟩,[]),oS 4 8 29]) (oV (oR [oM 30 6,oQ 31 30,oF 1 32 2,oL 33 32,oM 34 1,oI 2 35 33 34,oF 1 36 35,oL 37 36,oQ 38 37,oB .neq 39 31 38,oM 40 39,oH 40 (oM 41 1),oH 40 (oC .eql 42 41 0),oH 40 (oM 43 42),oG 43 (oF 3 44 8),oG 43 (oL 45 44),oG 43 (oQ 46 45),oG 43 (oC .gtr 47 46 0),oG 43 (oM 48 47),oH 48 (oM 49 5),oH 48 (oF 1 50 8),oH 48 (oL 51 50),⟨some 52,some (48,false),(.buildSlice 1 1 [(.int .i64 0)] [(0,1,(.tmp 51))])⟩,⟨some 53,some (48,false),(.call (.func 76) [(.tmp 49),(.const (.int .u8 1)),(.tmp 52)])⟩,oH 48 (oW 54 53),oG 43 (oO 55 48 54),oH 40 (oP 56 43 55),oO 57 40 56]) (oJ 57 (oV (oR [oM 58 1,⟨some 59,none,(.build [(.int .i64 0),(.int .i64 0),(.int .i64 0)] [(0,1,(.tmp 58)),(1,1,(.const (.int .i64 0))),(2,1,(.const (.int .i64 120)))])⟩,⟨some 60,none,(.mkIface 130 (.tmp 59))⟩,oM 4 60]) .ret) .skip))) (oV (oV (oR [oF 1 61 2,oL 62 61,oM 63 1,oI 2 64 62 63,oF 1 65 64,oL 66 65,oQ 67 66,oN 68 0]) (o5 0 (.loop zPQ))) (oV (oR [⟨some 4,none,(.mov (.const .nilIface))⟩]) .ret))))))
theorem zHD (h:Uz)(vt vf:Value)(T:List U2)(F:List WP)(f:Int)(E:Env h vt vf T F)(hp:Zz T F=0)(hf:0<=f/\f<(F.length:Int)):
  WC Tryz.prog tb 38 [.agg #[vt,vf],I f] h fun r h'=>(r= .nilIface/\zJz T F f\/(∃ b,r=Bn f b)/\¬zJz T F f)/\U5 h h':=by
 have Z:=zDf hp hf;have hb0:=Z.bl 0 (Qk 0) (by have:=Z.n1;omega);have hbe:(zD T F f 0).2=0:=by rw[hb0]
 have ha:Y7 T F f 0=0:=by
  unfold Y7;rw[QB (fun e=>e hbe),QB (by rw[hb0];have:=Z.n1;show ¬(_\/((zM F f).length:Int)<=0);omega),QJ ((Yq hbe).2 (by rw[hb0];exact Wh.here))]
 have hra:=zMB hbe;have hre:(yN T F f).2=0:=by rw[zFt];exact hbe
 have hn16:=Z.n16;have hn1:=Z.n1;have hsg:=Z.sig;have hpar:=Z.par4;have hnx:nxF T F f=Wl (zM F f):=by unfold nxF;rw[hb0]
 rw[hb0]at hra;replace hra:(yN T F f).1.length=(zM F f).length↔∀ c,0<=c->c<((zM F f).length:Int)->Wh (Wl (zM F f)) 0 c:=hra;refine en 78 [(4,none)] zTB ?_;refine VI ?_;intro p2 h1 e1 o1;replace o1:U3 h h1 p2 [vt,vf]:=o1;have E1:=E.ext e1;refine go ?_;refine VA (zRq h1 vt vf T F f E1 ha hf Z.sig hn16) ?_;rintro _ h2 ⟨⟨g,xs,rfl,hR,M⟩,e2⟩;rw[hnx]at hR;have E2:=E1.ext e2;have o2:=o1.ext e2;refine go ?_;refine VA (zHw h2 vt vf T F f E2.tt E2.hm E2.sm E2.st E2.sf) ?_;rintro _ h3 ⟨⟨vr,rfl,orr⟩,e3⟩;rw[hre];have E3:=E2.ext e3;have o3:=o2.ext e3;have M3:=M.ext e3;refine go ?_;refine VC 1 rfl rfl ?_;have ea:=zZ 1 h3;have o3X:=Vi (o3.ext ea);obtain⟨cs,⟨vb,rfl,sb,hlb⟩,pc,hsl⟩:=zp (i:=f.toNat) E3.sf (by omega);have pc1:=(pc _ ea).2;obtain⟨cst,⟨vat,rfl,sat,hlat⟩,pct,hslt⟩:=zp (i:=(F.getD f.toNat default).sig.toNat) E3.st (by omega);have pct1:=(pct _ ea).2;have stX0:=Wr.ext E3.st ea;have stX:Wr (inC (zC 1 h3)) vt T:=stX0;have sfX0:=Wn.ext E3.sf ea;have sfX:Wn (inC (zC 1 h3)) vf F:=sfX0;obtain⟨va1,va2,va3,rfl⟩:=WZ.shape sat;refine WM ?_;refine XD (X:=inC (zC 1 h3)) (cs:=[.int .u8 (yE T F f).kind,I (yE T F f).elem,I (yE T F f).many,.slice va1 va2 va3]) (U5.refl _) E3.hm ?_;intro h4 p8 e4 o8;have E4:=E3.ext e4;have o4:=o3.ext e4;have M4:=M3.ext e4;have or4:=orr.ext e4;have pc4:=(pc _ e4).1;have sb4:=W6.ext sb e4;have sf4:=E4.sf;have sat4:=WJ.ext sat e4;have st4:=E4.st;have e04:=e1.trans (e2.trans (e3.trans e4));have bad:∀ (b:Int) {h'},¬zJz T F f->U5 h h'->(Bn f b= .nilIface/\zJz T F f\/(∃ b',Bn f b=Bn f b')/\¬zJz T F f)/\U5 h h':=fun b h' hn e=>⟨.inr ⟨⟨b,rfl⟩,hn⟩,e⟩;have bad:=WW.mk @bad;clear stX0 sfX0 stX sfX o3X pc1 pct1 ea pct sat hslt;have hLb:(F.getD f.toNat default).blocks=zM F f:=rfl;rw[hLb]at sb4;have hgo:(f=0->(yE T F f).parts=[]/\Wt T 1 (yE T F f).elem=true)\/¬(f=0->(yE T F f).parts=[]/\Wt T 1 (yE T F f).elem=true):=Classical.em _;refine Z9 ?_;refine VJ [30,31,32,33,34,35,36,37,38,39,40,41,42,43,44,45,46,47,48,49,50,51,52,53,54,55,56,57,58,59,60,4] (by kernel_rfl) (fun t h'=>U5 h4 h'/\(yN T F f).1.length=(zM F f).length/\(f=0->(yE T F f).parts=[]/\Wt T 1 (yE T F f).elem=true)) ?_ ?_
 ·by_cases hr:(yN T F f).1.length=(zM F f).length;case neg=>
   have hrI:¬(((yN T F f).1.length:Int)=((zM F f).length:Int)):=by omega
   refine go ?_;refine VQ ?_;refine go ?_;refine zCI ?_;refine gr ?_;exact bad.out 0 (fun q=>hr (hra.2 q.1)) e04
  have hrI:(((yN T F f).1.length:Int)=((zM F f).length:Int)):=by omega
  refine go ?_;by_cases f0:f=0;case neg=>
   refine go ?_;exact zG ⟨U5.refl _,hr,fun e=>absurd e f0⟩
  refine go ?_;by_cases hpl:((T.getD (F.getD f.toNat default).sig.toNat default).parts.length:Int)>0
  ·refine go ?_;refine VQ ?_;refine go ?_;refine zCI ?_;refine gr ?_;exact bad.out 0 (fun q=>by have q1:(T.getD (F.getD f.toNat default).sig.toNat default).parts=[]:=(q.2.1 f0).1;rw[q1]at hpl;simp at hpl) e04
  ·have hpn:(T.getD (F.getD f.toNat default).sig.toNat default).parts=[]:=List.eq_nil_of_length_eq_zero (by omega);refine go ?_;refine WO.bl [(T.getD (F.getD f.toNat default).sig.toNat default).elem] ?_;intro v5 h5 e5 o5;refine go ?_;refine VA (yt h5 1 v5 [(T.getD (F.getD f.toNat default).sig.toNat default).elem] (M4.ext e5) o5.sl (by simp) (fun t ht=>by rw[QW.1 ht];exact .inr ⟨Z.el.1,Z.el.2.1⟩)) ?_;rintro _ h6 ⟨rfl,e6⟩;rw[ZA];cases c1:Wt T 1 (T.getD (F.getD f.toNat default).sig.toNat default).elem with
   |false=>
    refine go ?_;refine VQ ?_;refine go ?_;refine zCI ?_;refine gr ?_;exact bad.out 0 (fun q=>by have q1:Wt T 1 (T.getD (F.getD f.toNat default).sig.toNat default).elem=true:=(q.2.1 f0).2;rw[q1]at c1;cases c1) (e04.trans (e5.trans e6))
   |true=>
    refine go ?_;exact zG ⟨e5.trans e6,hr,fun _=>⟨hpn,c1⟩⟩
 rintro t h5 hsame ⟨e5,hr,hmain⟩;have hway:=hra.1 hr;have hin:∀ c,Wh (Wl (zM F f)) 0 c->0<=c/\c<((zM F f).length:Int):=fun c w=>by
  induction w with
  |here=>omega
  |step _ hm ih=>exact Z.nx _ ih _ hm
 have G:Gr F f (Wl (zM F f)) xs (psF T F f) (zM F f):=⟨hf,rfl,hn16,hR,hway,hin,Z.pl⟩;have hil:∀ i,i<(zM F f).length->((zM F f).getD i default).ins.length<=1000:=fun i hi=>E.sm.ins _ (zK (l:=F) (i:=f.toNat) (by omega)) _ (zK (l:=zM F f) hi);have sb5:=W6.ext sb4 e5;have sf5:=Wn.ext sf4 e5;have o5:=o4.ext e5;have pc5:=(pc _ (e4.trans e5)).1;have M5:Wy h5 g vt vf T F f (Bo T F f) (psF T F f) (YH xs (zM F f).length):=M4.ext e5;have E5:=E4.ext e5;have e05:=e04.trans e5;replace hway:=WW.mk hway;replace hin:=WW.mk hin;replace hil:=WW.mk hil;clear pc sb4 sf4 st4 sat4 o4 M4 E4 or4 o8 orr E3 E2 E1;refine go ?_;refine VD [69,70,9,71,72,73,10,74,75,76,4,77,68] (by kernel_rfl) (fun i=>(zM F f).length - i) (fun i t h'=>U5 h5 h'/\zB t 68=I i/\i<=(zM F f).length/\WW (∀ b:Int,0<=b->b<(i:Int)->zSr T F f b)) 0 ?_ ?_
 ·exact⟨U5.refl _,U7,QT _,⟨fun b b0 b1=>by omega⟩⟩
 rintro i t6 h6 hsame6 ⟨e6,s68,hi,hI⟩;have M6:=M5.ext e6;have e06:=e05.trans e6;refine go ?_;refine VE (fun hb=> ?_) (fun hb=> ?_)<;>simp only[DB]at hb
 ·have hi':i<(zM F f).length:=by omega
  refine go ?_;refine VA (zMt h6 i M6 G (E5.ext e6) Z.hc Z.ks Z.sigF Z.sig Z.len Z.U Z.V ⟨by omega,by omega⟩ (by rw[QU];exact hil.out i hi')) ?_;have hP:(YU T F f (i:Int)).1=zR (zM F f) i (zM F f).length:=by
   have:=Z.bl i (by omega) (by omega);unfold YU;rw[this];rfl
  rw[hP];rintro q h7 ⟨hq,e7⟩;rcases hq with ⟨rfl,hq1,hq2⟩|⟨rfl,hq⟩
  ·refine go ?_;simp only[Q3,QY];refine go ?_;refine zA (i+1) (by omega) ⟨e6.trans e7,Wo,by omega,⟨fun b b0 b1=> ?_⟩⟩;by_cases hbi:b=i
   ·subst hbi;exact⟨hq1,hq2⟩
   ·exact hI.out b b0 (by omega)
  ·unfold Bn;refine go ?_;simp only[Q3,Qe];refine gr ?_;exact bad.out i (fun q=>hq (q.2.2 i (by omega) (by omega))) (e06.trans e7)
 ·have hii:i=(zM F f).length:=by omega
  refine gr ?_;exact⟨.inl ⟨rfl,hway.out,hmain,fun b b0 b1=>hI.out b b0 (by omega)⟩,e06⟩
set_option maxRecDepth 100000
section
variable {P:Program}{tab:Wd}{t:U4 Value}{ds:List Deferred}{rd:Option Nat}{h:Uz}{Q:WA->Uz->Prop}{l:List U1}{d:Nat}{ty:TypeId}{x:Operand}{v r:Value}
theorem UR {ok:Bool}(hr:zDp P ty ok v=some r)(k:WO P tab l ⟨t.set d r,ds,rd⟩ h Q)(hx:WE t x v:=by exact zL):WO P tab (⟨some d,none,.assert ty ok x⟩::l) ⟨t,ds,rd⟩ h Q:=
 WO.op _ _ rfl (by unfold WE at *;simp only[U9,hx,hr,QK]) k
theorem UH (hr:zDo P ty v=some r)(k:WO P tab l ⟨t.set d r,ds,rd⟩ h Q)(hx:WE t x v:=by exact zL):WO P tab (⟨some d,none,.typeOf ty x⟩::l) ⟨t,ds,rd⟩ h Q:=
 WO.op _ _ rfl (by unfold WE at *;simp only[U9,hx,hr,QK]) k
theorem Uw {f:FuncId}{name:String}{u:Value}(hm:Yl P ty name=some f)(k:WC P tab f [u] h fun v h'=>WO P tab l ⟨t.set d v,ds,rd⟩ h' Q)(hx:WE t x (.iface ty u):=by exact zL):WO P tab (⟨some d,none,.invoke x name []⟩::l) ⟨t,ds,rd⟩ h Q:=
 WO.invoke hx hm rfl k
theorem UT {G rt:Nat}{b:Bool}(hb:Yb P G rt ty=some b)(k:WO P tab l ⟨t.set d (.bool b),ds,rd⟩ h Q)(hx:WE t x (zG4 G rt ty):=by exact zL):WO P tab (⟨some d,none,.invoke x "Comparable" []⟩::l) ⟨t,ds,rd⟩ h Q:=
 V6 hx hb k
end
abbrev tyE:Nat:=29
abbrev zLC:Value:= .iface tyE (I 120)
def zPp:U0:=(oV (oR [oX 1 0,⟨some 2,none,(.mov (.const .nilIface))⟩]) (oV (oR [oF 2 3 1,oL 4 3,⟨some 5,none,(.mkIface 29 (.tmp 4))⟩,oM 2 5]) .ret))
theorem zIt (h:Uz)(f b:Int):WC Tryz.prog tb 276 [.agg #[I f,I b,I 120]] h fun r h'=>r=zLC/\U5 h h':=by
 refine en 6 [(2,none)] zPp ?_;refine VI ?_;intro p h1 e1 o1;replace o1:U3 h h1 p [I f,I b,I 120]:=o1;refine go ?_;refine VQ ?_;refine gr ?_;exact⟨rfl,e1⟩
def zNz:U0:=(oV (oR [oB .lss 46 45 44]) (oV (oT 46 3) (oV (o5 4 (oV (oR [oI 1 47 43 45,oL 48 47,oM 12 48]) (oV (oR [oM 49 12,oM 50 1,oM 51 2,o3 52 79 49 50 51]) (oJ 52 (oV (oR [oK 6 (.bool true)]) .ret) .skip)))) (oR [oC .add 53 45 1,oM 45 53]))))
def zOg:U0:=(o5 1 (oV (oV (oR [oM 14 2,oM 15 14,oG 15 (oM 16 0),oG 15 (oM 17 1),⟨some 18,some (15,true),(.binP .eql 85 (.tmp 16) (.tmp 17))⟩,oP 19 15 18]) (oJ 19 (oV (oR [oK 6 (.bool true)]) .ret) .skip)) (oV (oV (oR [oM 21 0,⟨some 22,none,(.assert 187 true (.tmp 21))⟩,oM 20 22,oE 23 20 0,oE 24 20 1,oM 7 23,oM 8 24]) (oV (oR [oM 25 8,oM 26 25,oG 26 (oM 27 7),oG 26 (oM 28 1),⟨some 29,some (26,true),(.invoke (.tmp 27) "Is" [(.tmp 28)])⟩,oP 30 26 29]) (oJ 30 (oV (oR [oK 6 (.bool true)]) .ret) .skip))) (oV (oR [oM 31 0]) (o5 2 (oV (oR [⟨some 32,none,(.assert 190 true (.tmp 31))⟩,oE 33 32 1,oE 34 32 0]) (oJ 33 (oV (oR [oM 9 34]) (oV (oR [oM 35 9,⟨some 36,none,(.invoke (.tmp 35) "Unwrap" [])⟩,oM 0 36]) (oV (oR [oM 37 0,⟨some 38,none,(.isNil 4 false (.tmp 37))⟩]) (oJ 38 (oV (oR [oZ 6]) .ret) .skip)))) (oV (oR [⟨some 39,none,(.assert 192 true (.tmp 31))⟩,oE 40 39 1,oE 41 39 0]) (oJ 40 (oV (oR [oM 10 41]) (oV (oV (oR [oM 42 10,⟨some 43,none,(.invoke (.tmp 42) "Unwrap" [])⟩,oQ 44 43,oN 45 0]) (o5 3 (.loop zNz))) (oV (oR [oZ 6]) .ret))) (oV (oR [oM 13 31]) (oV (oR [oZ 6]) .ret)))))))))))
def zTZ:U0:=(oV (oR [oZ 6]) (o5 0 (.loop zOg)))
theorem zTm (h:Uz)(f b:Int):WC Tryz.prog tb 79 [Bn f b,zLC,.bool true] h fun r h'=>r= .bool true/\U5 h h':=by
 refine en 54 [(6,none)] zTZ ?_;refine VD [14,15,16,17,18,19,6,21,22,20,23,24,7,8,25,26,27,28,29,30,6,31,32,33,34,9,35,36,0,37,38,6,39,40,41,10,42,43,44,45,46,47,48,12,49,50,51,52,6,53,45,6,13,6] (by kernel_rfl) (fun i=>2 - i) (fun i t h'=>U5 h h'/\((i=0/\zB t 0=Bn f b)\/(i=1/\zB t 0=zLC))) 0 ?_ ?_
 ·exact⟨U5.refl _,.inl ⟨rfl,U7⟩⟩
 rintro i t h1 hsame ⟨e1,⟨rfl,s0⟩|⟨rfl,s0⟩⟩
 ·unfold Bn at s0;refine go ?_;refine Vs (v:= .bool false) (by kernel_rfl) ?_;refine go ?_;refine UR (r:= .tuple #[.nilIface,.bool false]) (by kernel_rfl) ?_;refine go ?_;refine UR (r:= .tuple #[.iface tyF (.agg #[I f,I b,I 120]),.bool true]) (by kernel_rfl) ?_;refine go ?_;refine Uw (f:=276) (by kernel_rfl) ?_;refine WC.mono (zIt h1 f b) ?_;rintro _ h2 ⟨rfl,e2⟩;refine go ?_;simp only[Gi,Qn];refine go ?_;exact zA 1 (by omega) ⟨e1.trans e2,.inr ⟨rfl,U7⟩⟩
 ·refine go ?_;refine Vs (v:= .bool true) (by kernel_rfl) ?_;refine gr ?_;exact⟨rfl,e1⟩
def zPS:U0:=(oV (oR [oZ 4]) (oV (oV (oR [oM 6 0,⟨some 7,none,(.isNil 4 false (.tmp 6))⟩,oM 8 7,oH 8 (oM 9 1),⟨some 10,some (8,false),(.isNil 4 false (.tmp 9))⟩,oO 11 8 10]) (oJ 11 (oV (oR [oM 12 0,oM 13 1,⟨some 14,none,(.binP .eql 85 (.tmp 12) (.tmp 13))⟩,oM 4 14]) .ret) .skip)) (oV (oR [oM 15 1,⟨some 16,none,(.typeOf 185 (.tmp 15))⟩,⟨some 17,none,(.invoke (.tmp 16) "Comparable" [])⟩,oM 5 17]) (oV (oR [oM 18 0,oM 19 1,oM 20 5,o3 21 79 18 19 20,oM 4 21]) .ret))))
theorem zTj (h:Uz)(f b:Int):WC Tryz.prog tb 39 [Bn f b,zLC] h fun r h'=>r= .bool true/\U5 h h':=by
 unfold Bn;refine en 22 [(4,none)] zPS ?_;simp only[Gi,Qn];refine go ?_;simp only[Gi,Qn];refine go ?_;refine UH (v:=zLC) rfl ?_;refine go ?_;refine UT (b:=true) (by kernel_rfl) ?_;refine go ?_;have hk:=zTm h f b;unfold Bn at hk;refine VA hk ?_;rintro _ h2 ⟨rfl,e2⟩;refine gr ?_;exact⟨rfl,e2⟩
theorem zQB (h:Uz):WC Tryz.prog tb 39 [.nilIface,zLC] h fun r h'=>r= .bool false/\h=h':=by
 refine en 22 [(4,none)] zPS ?_;simp only[Gi,Qn];refine go ?_;refine Vs (v:= .bool false) (by kernel_rfl) ?_;refine gr ?_;exact⟨rfl,rfl⟩
def yS (T:List U2)(F:List WP):Int:=open Classical in if Zz T F≠0 then Zz T F else if WfP T F then 0 else 120
def zNy:U0:=(oV (oR [oB .lss 15 14 13]) (oV (oT 15 0) (oV (o5 1 (oV (oR [oM 16 14,oM 4 16]) (oV (oR [oA 2 17 1,oM 18 4,o2 19 38 17 18,oM 5 19]) (oV (oR [oM 20 5,⟨some 21,none,(.mkIface 29 (.const (.int .i64 120)))⟩,o2 22 39 20 21]) (oJ 22 (oV (oR [oN 2 120]) .ret) .skip))))) (oR [oC .add 23 14 1,oM 14 23]))))
def zTn:U0:=(oV (oR [oX 1 0,oN 2 0]) (oV (oV (oR [oA 2 6 1,o1 7 37 6,oM 3 7]) (oV (oR [oM 8 3,oC .neq 9 8 0]) (oJ 9 (oV (oR [oM 10 3,oM 2 10]) .ret) .skip))) (oV (oV (oR [oF 1 11 1,oL 12 11,oQ 13 12,oN 14 0]) (o5 0 (.loop zNy))) (oV (oR [oN 2 0]) .ret))))
theorem zFn (h:Uz)(vt vf:Value)(T:List U2)(F:List WP)(E:Env h vt vf T F):
  WC Tryz.prog tb 16 [.agg #[vt,vf]] h fun r h'=>r=I (yS T F)/\U5 h h':=by
 unfold yS;have hF:=E.sm.funcs;refine en 24 [(2,none)] zTn ?_;refine VI ?_;intro p1 h1 e1 o1;replace o1:U3 h h1 p1 [vt,vf]:=o1;have E1:=E.ext e1;refine go ?_;refine VA (zJ6 h1 vt vf T F E1.tt E1.hm E1.sm E1.st E1.sf) ?_;rintro _ h2 ⟨rfl,e2⟩;have o2:=o1.ext e2;have E2:=E1.ext e2;have sf2:=E2.sf;by_cases hp:Zz T F=0;case neg=>
  rw[QJ hp];refine gr ?_;exact⟨rfl,e1.trans e2⟩
 rw[QB (fun e=>e hp),hp];refine go ?_;refine VD [15,16,4,17,18,19,5,20,21,22,2,23,14] (by kernel_rfl) (fun i=>F.length - i) (fun i t h'=>U5 h2 h'/\zB t 14=I i/\i<=F.length/\WW (∀ f:Int,0<=f->f<(i:Int)->zJz T F f)) 0 ?_ ?_
 ·exact⟨U5.refl _,U7,QT _,⟨fun f f0 f1=>by omega⟩⟩
 rintro i t h3 hsame ⟨e3,s14,hi,hI⟩;have o3:=o2.ext e3;have e03:=e1.trans (e2.trans e3);refine go ?_;refine VE (fun hb=> ?_) (fun hb=> ?_)<;>simp only[DB]at hb
 ·have hi':i<F.length:=by omega
  refine go ?_;refine VA (zHD h3 vt vf T F i (E2.ext e3) hp ⟨by omega,by omega⟩) ?_;rintro q h4 ⟨⟨rfl,hq⟩|⟨⟨b,rfl⟩,hq⟩,e4⟩
  ·refine go ?_;refine VQ ?_;refine go ?_;refine VA (zQB h4) ?_;rintro _ _ ⟨rfl,rfl⟩;refine go ?_;refine zA (i+1) (by omega) ⟨e3.trans e4,Wo,by omega,⟨fun f f0 f1=> ?_⟩⟩;by_cases hfi:f=i
   ·subst hfi;exact hq
   ·exact hI.out f f0 (by omega)
  ·refine go ?_;refine VQ ?_;refine go ?_;refine VA (zTj h4 i b) ?_;rintro _ h5 ⟨rfl,e5⟩;refine gr ?_;refine⟨?_,e03.trans (e4.trans e5)⟩;rw[QB (fun w=>hq (w i (by omega) (by omega)))];rfl
 ·have hii:i=F.length:=by omega
  refine gr ?_;refine⟨?_,e03⟩;rw[QJ (show WfP T F from fun f f0 f1=>hI.out f f0 (by omega))];rfl
theorem yV {T:List U2}{F:List WP}(h:yS T F=0):Zz T F=0/\WfP T F:=by
 unfold yS at h;split at h
 ·rename_i hp;exact absurd h hp
 ·rename_i hp;split at h
  ·rename_i hw;exact⟨Classical.not_not.1 hp,hw⟩
  ·cases h
theorem zF7 {α:Type}{a b:List α}{i:Nat}{d:α}(h:i<a.length):(a++b).getD i d=a.getD i d:=by
 rw[QL,QL,Qv h]
theorem zC8 {α:Type}{a b:List α}{i:Nat}{d:α}(h:a.length<=i):(a++b).getD i d=b.getD (i - a.length) d:=by
 rw[QL,QL,GB h]
theorem zFf {α β:Type}{l:List α}{i:Nat}{f:α->β}{a:α}{b:β}(h:i<l.length):(l.map f).getD i b=f (l.getD i a):=by
 rw[QL,QL,GS,QD h];rfl
theorem zMr {T:List U2}{F:List WP}{f r:Int}(hp:Zz T F=0):zAS T F f r=if f<0\/(F.length:Int)<=f\/r<0\/zE6 ((yE T F f).parts.length:Int) (zM F f)<=r then (0,0,2) else
  if r<((yE T F f).parts.length:Int) then (-1,r,0) else ((zh (zM F f) (r - ((yE T F f).parts.length:Int))).1,(zh (zM F f) (r - ((yE T F f).parts.length:Int))).2,0):=by
 unfold zAS;by_cases hf:0<=f/\f<(F.length:Int)
 ·have hask:zn T F f=(((yE T F f).parts.length:Int),0):=by
   unfold zn;rw[QB (fun e=>e hp),QJ (by unfold zS;simp;omega)];rfl
  rw[hask];rw[QB (fun e=>e rfl)];show (if r<0\/((yE T F f).parts.length:Int)+zI (F.getD f.toNat default).blocks<=r then (0,0,2) else if r<((yE T F f).parts.length:Int) then (-1,r,0) else ((zh (zM F f) (r - ((yE T F f).parts.length:Int))).1,(zh (zM F f) (r - ((yE T F f).parts.length:Int))).2,0))=_;by_cases h1:r<0\/((yE T F f).parts.length:Int)+zI (F.getD f.toNat default).blocks<=r
  ·rw[QJ h1,QJ (by unfold zE6 zM;omega)]
  ·rw[QB h1,QB (c:=f<0\/_) (by unfold zE6 zM;omega)]
 ·have hask:zn T F f=(0,2):=by
   unfold zn;rw[QB (fun e=>e hp),QB (by unfold zS;simp;omega)]
  rw[hask,QJ (by decide),QJ (by omega)]
set_option maxRecDepth 100000
set_option maxRecDepth 100000
theorem zH0 {α:Type}{l:List α}{f:α->List Int}(h:∀ x∈l,(f x).length<=32):(l.map f).flatten.length<=32 * l.length:=by
 induction l with
 |nil=>simp
 |cons a l ih=>
  have:=h a (by simp);have:=ih fun x hx=>h x (by simp[hx]);simp only[Qm,GT,QM,GF];omega
theorem zMR {α:Type}[Inhabited α]{l:List α}{f:α->List Int}{i:Nat}(h:i<l.length):((l.take (i+1)).map f).flatten=((l.take i).map f).flatten++f (l.getD i default):=by
 rw[GE,QD h,Qr,List.flatten_append];simp[List.getD,QD h]
set_option maxRecDepth 100000
def zRP:U0:=(oV (oR [oN 4 0]) (oV (oV (oR [oM 6 0,o1 7 71 6,oM 5 7]) (oV (oR [oM 8 5,oC .neq 9 8 0]) (oJ 9 (oV (oR [oM 10 5,oM 4 10]) .ret) .skip))) (oV (oV (oR [oM 11 0,oQ 12 11,oM 13 1,⟨some 14,none,(.buildSlice 1 1 [(.int .i64 0)] [(0,1,(.tmp 13))])⟩,o2 15 167 12 14,oW 16 15]) (oJ 16 (oV (oR [oN 4 2]) .ret) .skip)) (oV (oR [oN 4 0]) .ret))))
theorem zFs (h:Uz)(vt:Value)(T:List U2)(k:Int)(st:Wr h vt T)(hT:T.length<=100)(hp:∀ x∈T,x.parts.length<=100)(hc:yp T=0)(hk:0<=k/\k<(T.length:Int)):
  WC Tryz.prog tb 190 [vt,I k] h fun r h'=>r=I 0/\U5 h h':=by
 obtain⟨t1,t2,t3,rfl⟩:=zF st;have ht:yc (T.length:Int) [k]=true:=by unfold yc;simp[hk.1,hk.2]
 refine en 17 [(4,none)] zRP ?_;refine VA (zH7 h _ T st hT hp) ?_;rintro _ h2 ⟨rfl,e2⟩;rw[hc];have st2:=Wr.ext st e2;refine go ?_;refine WO.bl [k] ?_;intro v3 h3 e3 o3;refine go ?_;refine VA (zAd h3 v3 (T.length:Int) [k] o3.sl (by simp)) ?_;rintro _ h4 ⟨rfl,e4⟩;rw[ht];refine gr ?_;exact⟨rfl,e2.trans (e3.trans e4)⟩
def trF {α:Type}(T:List U2)(a:Int->α)(s:List α->α)(m:Nat->α->α):Nat->Int->α
 |0,k=>a k
 |n+1,k=>let x:=T.getD k.toNat default
  if x.kind=4 then s (x.parts.map (trF T a s m n)) else if x.kind=5 then m x.many.toNat (trF T a s m n x.elem) else a k
def trL {α:Type}(T:List U2)(a:Int->α)(s:List α->α)(m:Nat->α->α)(k:Nat):α:=trF T a s m (k+1) k
theorem zGe {T:List U2}{k:Nat}(h:ZV T k)(h4:(T.getD k default).kind=4):(T.getD k default).parts.length<=8/\∀ p∈(T.getD k default).parts,0<=p/\p<(k:Int):=by
 unfold ZV zGx at h;rcases h with h|h|h|h|h
 ·omega
 ·omega
 ·omega
 ·exact h.2.2.2.2
 ·omega
theorem zI2 {T:List U2}{k:Nat}(h:ZV T k)(h5:(T.getD k default).kind=5):0<=(T.getD k default).elem/\(T.getD k default).elem<(k:Int)/\1<=(T.getD k default).many/\(T.getD k default).many<=16:=by
 unfold ZV zGx at h;rcases h with h|h|h|h|h<;>omega
section
variable {α:Type}{T:List U2}{a:Int->α}{s:List α->α}{m:Nat->α->α}
theorem zIc:∀ (n q:Nat) (k:Nat),k<n->k<q->(∀ j,j<=k->ZV T j)->trF T a s m n k=trF T a s m q k:=by
 intro n;induction n with
 |zero=>intro m k h;omega
 |succ n ih=>
  intro q k h1 h2 hM;obtain⟨q,rfl⟩:∃ r,q=r+1:=⟨q - 1,by omega⟩;have hk:=hM k (QE _);unfold trF;simp only[QU];split
  ·rename_i h4;congr 1;refine Qu fun p hp=> ?_;have hp':=(zGe hk h4).2 p hp;obtain⟨r,rfl⟩:∃ r:Nat,p=r:=⟨p.toNat,by omega⟩;exact ih q r (by omega) (by omega) fun j hj=>hM j (by omega)
  ·split
   ·rename_i h4 h5;have hp':=zI2 hk h5;obtain⟨r,hr⟩:∃ r:Nat,(T.getD k default).elem=r:=⟨(T.getD k default).elem.toNat,by omega⟩;rw[hr,ih q r (by omega) (by omega) fun j hj=>hM j (by omega)]
   ·rfl
theorem Y2 {k:Nat}(hM:∀ j,j<=k->ZV T j):trL T a s m k=let x:=T.getD k default
  if x.kind=4 then s (x.parts.map fun p=>trL T a s m p.toNat) else if x.kind=5 then m x.many.toNat (trL T a s m x.elem.toNat) else a k:=by
 have hk:=hM k (QE _);conv=>lhs;unfold trL;rw[trF]
 simp only[QU];split
 ·rename_i h4;congr 1;refine Qu fun p hp=> ?_;have hp':=(zGe hk h4).2 p hp;obtain⟨r,rfl⟩:∃ r:Nat,p=r:=⟨p.toNat,by omega⟩;exact zIc _ _ r (by omega) (by omega) fun j hj=>hM j (by omega)
 ·split
  ·rename_i h4 h5;have hp':=zI2 hk h5;obtain⟨r,hr⟩:∃ r:Nat,(T.getD k default).elem=r:=⟨(T.getD k default).elem.toNat,by omega⟩;rw[hr,QU,zIc k (r+1) r (by omega) (by omega) fun j hj=>hM j (by omega)];rfl
  ·rfl
end
def yX (T:List U2)(k:Nat):List Int:=trL T (fun k=>[k]) List.flatten (fun _ l=>l) k
def zCi:List (List Int×Nat)->List Int×Nat
 |[]=>([],0)
 |x::r=>(x.1++(zCi r).1.map (fun i=>(x.2:Int)+i),x.2+(zCi r).2)
def Bu (T:List U2)(k:Nat):List Int×Nat:=trL T (fun _=>([0],1)) zCi (fun n p=>((List.replicate n p.1).flatten,p.2)) k
theorem zFO:∀ (l:List (List Int×Nat)) (x:List Int×Nat),zCi (l++[x])=((zCi l).1++x.1.map (fun i=>((zCi l).2:Int)+i),(zCi l).2+x.2)
 |[],x=>by simp[zCi]
 |y::l,x=>by
  simp only[G5,zCi,zFO l x,Qr,List.map_map,QZ,JH];congr 3;refine Qu fun i _=> ?_;simp only[Function.comp];omega
theorem zKH {T:List U2}:∀ (n k:Nat),k<n->(∀ j,j<=k->ZV T j)->(Bu T k).2=(yX T k).length/\(Bu T k).1.length=(BL T k).length/\∀ i∈(Bu T k).1,0<=i/\i<((yX T k).length:Int):=by
 intro n;induction n with
 |zero=>intro k h;omega
 |succ n ih=>
  intro k hk hM;have hm:=hM k (QE _);unfold Bu yX;rw[Y2 hM,Y2 hM,zAr hM];simp only;split
  ·rename_i h4;have hp:=(zGe hm h4).2;generalize (T.getD k default).parts=l at *;have hI:∀ p∈l,_:=fun p hpp=>ih p.toNat (by have:=hp p hpp;omega) fun j hj=>hM j (by have:=hp p hpp;omega);clear hp;induction l with
   |nil=>exact⟨rfl,rfl,fun i hi=>by cases hi⟩
   |cons p l ihl=>
    obtain⟨a1,a2,a3⟩:=ihl fun q hq=>hI q (Qi _ hq);obtain⟨b1,b2,b3⟩:=hI p (Qd ..);unfold Bu yX at b1 b3;unfold Bu at b2;simp only[Qm,zCi,GT,QM,Qz];refine⟨by omega,by omega,fun i hi=> ?_⟩;rcases Qj.1 hi with hi|hi
    ·have:=b3 i hi;omega
    ·obtain⟨j,hj,rfl⟩:=Q6.1 hi;have:=a3 j hj;omega
  ·split
   ·rename_i h4 h5;have hp:=zI2 hm h5;obtain⟨b1,b2,b3⟩:=ih (T.getD k default).elem.toNat (by omega) fun j hj=>hM j (by omega);unfold Bu yX at b1 b3;unfold Bu at b2;refine⟨b1,?_,fun i hi=> ?_⟩
    ·simp only[zBb];rw[b2]
    ·obtain⟨l,hl,hi⟩:=List.mem_flatten.1 hi;rw[List.eq_of_mem_replicate hl]at hi;exact b3 i hi
   ·exact⟨rfl,rfl,fun i hi=>by simp at hi;subst hi;simp⟩
theorem zD3 {T:List U2}:∀ (n k:Nat),k<n->(∀ j,j<=k->ZV T j)->(yX T k).length<=(BL T k).length:=by
 intro n;induction n with
 |zero=>intro k h;omega
 |succ n ih=>
  intro k hk hM;have hm:=hM k (QE _);unfold yX;rw[Y2 hM,zAr hM];simp only;split
  ·rename_i h4;have hp:=(zGe hm h4).2;generalize (T.getD k default).parts=l at *;have hI:∀ p∈l,_:=fun p hpp=>ih p.toNat (by have:=hp p hpp;omega) fun j hj=>hM j (by have:=hp p hpp;omega);clear hp;induction l with
   |nil=>exact QE _
   |cons p l ihl=>
    have a:=ihl fun q hq=>hI q (Qi _ hq);have b:=hI p (Qd ..);unfold yX at b;simp only[Qm,GT,QM];omega
  ·split
   ·rename_i h4 h5;have hp:=zI2 hm h5;have b:=ih (T.getD k default).elem.toNat (by omega) fun j hj=>hM j (by omega);unfold yX at b;rw[zBb];refine QO b ?_;have:1<=(T.getD k default).many.toNat:=by omega
    exact Nat.le_mul_of_pos_left _ this
   ·exact QE _
def wkL (T:List U2)(o:Bool)(s:Int)(k:Nat):List Int:=if o then yX T k else (Bu T k).1.map fun i=>s+i
theorem zBL {T:List U2}{k:Nat}(hM:∀ j,j<=k->ZV T j):yX T k=if (T.getD k default).kind=4 then ((T.getD k default).parts.map fun p=>yX T p.toNat).flatten else if (T.getD k default).kind=5 then yX T (T.getD k default).elem.toNat else [(k:Int)]:=Y2 hM
theorem zHh {T:List U2}{k:Nat}(hM:∀ j,j<=k->ZV T j):Bu T k=if (T.getD k default).kind=4 then zCi ((T.getD k default).parts.map fun p=>Bu T p.toNat) else if (T.getD k default).kind=5 then ((List.replicate (T.getD k default).many.toNat (Bu T (T.getD k default).elem.toNat).1).flatten,(Bu T (T.getD k default).elem.toNat).2) else ([0],1):=Y2 hM
def zFB (T:List U2)(o:Bool)(s:Int)(ps:List Int):List Int:=if o then (ps.map fun p=>yX T p.toNat).flatten else (zCi (ps.map fun p=>Bu T p.toNat)).1.map fun i=>s+i
theorem zJy {T:List U2}{o:Bool}{s:Int}{k:Nat}(hM:∀ j,j<=k->ZV T j):wkL T o s k=if (T.getD k default).kind=4 then zFB T o s (T.getD k default).parts else if (T.getD k default).kind=5 then (if o then yX T (T.getD k default).elem.toNat else (List.replicate (T.getD k default).many.toNat (wkL T o s (T.getD k default).elem.toNat)).flatten) else [if o then (k:Int) else s]:=by
 conv=>lhs;unfold wkL
 rw[zBL hM,zHh hM];cases o with
 |true=>unfold zFB;simp only[Q3]
 |false=>
  unfold zFB;simp only[Qn,Gi];split
  ·rfl
  ·split
   ·rw[List.map_flatten,List.map_replicate];rfl
   ·simp
theorem zKc {T:List U2}:∀ {ps:List Int},(∀ p∈ps,(Bu T p.toNat).2=(yX T p.toNat).length)->(zCi (ps.map fun p=>Bu T p.toNat)).2=(ps.map fun p=>yX T p.toNat).flatten.length
 |[],_=>rfl
 |p::ps,h=>by
  simp only[Qm,zCi,GT,QM];rw[zKc fun q hq=>h q (Qi _ hq),h p (Qd ..)]
theorem zOD {T:List U2}{o:Bool}{s q:Int}{ps:List Int}(h:∀ p∈ps,(Bu T p.toNat).2=(yX T p.toNat).length):
  zFB T o s (ps++[q])=zFB T o s ps++wkL T o (s+((ps.map fun p=>yX T p.toNat).flatten.length:Int)) q.toNat:=by
 unfold zFB wkL;cases o with
 |true=>simp
 |false=>
  simp only[Qn,Gi,Qr,Qm,Ga];rw[zFO,zKc h];simp only[Qr,List.map_map];congr 1;refine Qu fun i _=> ?_;simp only[Function.comp];omega
theorem zTS {T:List U2}{o:Bool}{s:Int}{k:Nat}(hM:∀ j,j<=k->ZV T j):(wkL T o s k).length<=(BL T k).length:=by
 unfold wkL;split
 ·exact zD3 (k+1) k (GD _) hM
 ·rw[Qz,(zKH (k+1) k (GD _) hM).2.1];exact QE _
def WL (p v:Value)(h h':Uz)(v':Value):Prop:=h.n<=h'.n/\(∀ g,g<h.n->Be p≠some g->Be v≠some g->h'.get g=h.get g)/\∀ b,Be v'=some b->Be v=some b\/h.n<=b
theorem WL.refl (p v:Value)(h:Uz):WL p v h h v:=⟨QE _,fun _ _ _ _=>rfl,fun _ h=> .inl h⟩
theorem WL.trans {p v v1 v2:Value}{h h1 h2:Uz}(a:WL p v h h1 v1)(b:WL p v1 h1 h2 v2):WL p v h h2 v2:=by
 refine⟨QO a.1 b.1,fun g hg h1 h2=> ?_,fun k hk=> ?_⟩
 ·rw[b.2.1 g (QG hg a.1) h1 fun e=> ?_,a.2.1 g hg h1 h2];rcases a.2.2 g e with e|e
  ·exact h2 e
  ·omega
 ·rcases b.2.2 k hk with e|e
  ·exact a.2.2 k e
  ·exact .inr (QO a.1 e)
theorem WL.ext {p v:Value}{h h':Uz}(e:U5 h h'):WL p v h h' v:=⟨e.n,fun g hg _ _=>e.get g hg,fun _ h=> .inl h⟩
theorem VP {h0 h h':Uz}{p q v v':Value}{cs:List Value}(o:U3 h0 h q cs)(k:WL p v h h' v')(d1:WI p q)(d2:WI v q):U3 h0 h' q cs/\WI v' q:=by
 have hw:=o.within;obtain⟨g,g1,g2,rfl,g3⟩:=o;refine⟨⟨g,g1,QG g2 k.1,rfl,(k.2.1 g g2 (fun e=>d1 g e rfl) fun e=>d2 g e rfl).trans g3⟩,fun b hb hq=> ?_⟩;cases hq;rcases k.2.2 _ hb with e|e
 ·exact d2 _ e rfl
 ·have e:h.n<=g:=e;omega
end
end Go.Proofs.YtmejfcakhpihlaaGreatDoor
