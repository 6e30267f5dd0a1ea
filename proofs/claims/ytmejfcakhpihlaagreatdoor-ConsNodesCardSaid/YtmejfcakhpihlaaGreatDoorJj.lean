/- What functions of the program come to in the abstract machine, and plain laws about it; no statement of the seat is proved in this text. -/
import Derived.Test.YtmejfcakhpihlaaGreatDoorJi
import Derived.Test.YtmejfcakhpihlaaGreatDoorJh
import Derived.Test.YtmejfcakhpihlaaGreatDoorJh
import Derived.Test.YtmejfcakhpihlaaGreatDoorAmV
import Derived.Test.YtmejfcakhpihlaaGreatDoorJf
import Derived.Test.YtmejfcakhpihlaaGreatDoorJg
import Derived.Test.YtmejfcakhpihlaaGreatDoorJb
import Derived.Test.YtmejfcakhpihlaaGreatDoorAmU
import Derived.Test.YtmejfcakhpihlaaGreatDoorJa
set_option linter.unusedVariables false
set_option linter.unusedSimpArgs false
set_option maxHeartbeats 2000000
namespace Go.Proofs.YtmejfcakhpihlaaGreatDoor
noncomputable section
open Go.Am
set_option maxRecDepth 100000
theorem zCl (h h':U0)(cs:List Value)(a:Int×Int)(r:RPl h cs a):RPl h' cs a:=r
structure FO (hB h:U0)(p:Value)(vt vf:Value)(f:Int)(ks:List Int)(ps:List (Int×Int))(rs:List Int)(vk vp vr:Value):Prop where
 own:U4 hB h p [vt,vf,I f,vk,vp,vr]
 k:WH hB h vk ks
 q:WP 2 RPl hB.n h vp ps
 r:WH hB h vr rs
 kp:WI vk vp
 kr:WI vk vr
 pr:WI vp vr
 ok:WI p vk
 op:WI p vp
 or:WI p vr
 s:(∃ a n k,vk= .slice a n k)/\(∃ a n k,vp= .slice a n k)/\(∃ a n k,vr= .slice a n k)
section
variable {hB h h' h2:U0}{p vt vf:Value}{f:Int}{ks:List Int}{ps:List (Int×Int)}{rs:List Int}{vk vp vr v':Value}
theorem FO.ext (F:FO hB h p vt vf f ks ps rs vk vp vr)(e:U6 h h'):FO hB h' p vt vf f ks ps rs vk vp vr:=⟨F.own.ext e,F.k.ext e,F.q.ext e,F.r.ext e,F.kp,F.kr,F.pr,F.ok,F.op,F.or,F.s⟩
theorem FO.putK {ks':List Int}(F:FO hB h p vt vf f ks ps rs vk vp vr)(u:BL vk h h')(hn:hB.n<=h.n)(o:Wb h h' v' ks')(oc:U4 hB h2 p [vt,vf,I f,v',vp,vr])(u2:WZ p h' h2):FO hB h2 p vt vf f ks' ps rs v' vp vr:=by
 have hs:zAU h v':=(WH.since' (.inr o));have u1:=u.upB;have u2:=u2.upB;have o1:=VF hs F.own.within;have o2:=VF hs F.q.within;have o3:=VF hs F.r.within;have ob:WH hB h' v' ks':= .inr (let ⟨g,a,b⟩:=o;⟨g,QO hn a,b⟩);exact⟨oc,ob.upB u2 o1.symm,(F.q.upB zCl u1 F.kp).upB zCl u2 F.op,(F.r.upB u1 F.kr).upB u2 F.or,o2,o3,F.pr,o1.symm,F.op,F.or,⟨WW.shape ob.sl,F.s.2⟩⟩
theorem FO.putP {ps':List (Int×Int)}(F:FO hB h p vt vf f ks ps rs vk vp vr)(u:UpB vp h h')(hs:zAU h v')(hsl:∃ a n k,v'= .slice a n k)(o:WP 2 RPl hB.n h' v' ps')(oc:U4 hB h2 p [vt,vf,I f,vk,v',vr])(u2:WZ p h' h2):FO hB h2 p vt vf f ks ps' rs vk v' vr:=by
 have u2:=u2.upB;have o1:=VF hs F.own.within;have o2:=VF hs F.k.within;have o3:=VF hs F.r.within;exact⟨oc,(F.k.upB u F.kp.symm).upB u2 F.ok,o.upB zCl u2 o1.symm,(F.r.upB u F.pr).upB u2 F.or,o2.symm,F.kr,o3,F.ok,o1.symm,F.or,⟨F.s.1,hsl,F.s.2.2⟩⟩
end
theorem zR9 {h:U0}{b g k:Nat}{x y:Int}(h1:b<=g)(h2:g<h.n)(hg:h.get g=some (.row (zX [I x,I y] k) true 0)):WP 2 RPl b h (.slice (some ⟨g,0,none⟩) k 2) (List.replicate k (x,y)):=by
 refine .inr ⟨g,zX [I x,I y] k,fun _=>False,h1,h2,by rw[List.length_replicate],hg,by rw[zu,List.length_replicate];rfl,id,fun _ h=>h.elim,fun i a ha hx _ _=> ?_⟩;rw[List.getElem?_replicate]at ha;split at ha;case isFalse=>cases ha
 rename_i hi;cases ha;show _=_;have h3:List.drop (i * 2) (zX [I x,I y] k)=zX [I x,I y] (k - i):=zBb (z:=[I x,I y]);rw[h3,show k - i=(k - i - 1)+1 by omega];rfl
theorem zDW {L:List WT}(h:∀ b∈L,b.ins.length<=1000):∀ n,n<=L.length->(Zb L n).length<=1000 * n
 |0,_=>QS _
 |n+1,hn=>by
  have:=zDW h n (by omega);have h2:=h _ (zI (l:=L) (i:=n) (by omega));show (Zb L n++_).length<=_;rw[QM,Qp,List.length_range];omega
theorem zEZ {L:List WT}(h:∀ b∈L,b.ins.length<=1000):∀ n,n<=L.length->(yn (L.take n)).length<=1000 * n
 |0,_=>by simp[yn]
 |n+1,hn=>by
  have:=zEZ h n (by omega);have h2:=h _ (zI (l:=L) (i:=n) (by omega));rw[zBE (by omega),QM,Qp];omega
theorem zIz {α:Type}[Inhabited α]{l:List α}{n:Nat}(h:n<l.length):l.take (n+1)=l.take n++[l.getD n default]:=by
 rw[Q4,QB h,QK,QB h];rfl
def zS3:U1:=(oV (oR [oZ 2]) (oV (oR [oM 3 0,o1 4 136 3,⟨some 5,none,(.part false 5 1 (.tmp 4))⟩,oM 2 5]) .ret))
theorem zHy (h:U0)(op:Int)(tt:Be h)(h0:0<=op)(h1:op<=255):WC Tryz.prog tb 84 [.int .u8 op] h fun r h'=>r= .bool (zW op).2.2.2.2.2/\U6 h h':=by
 refine en 6 [(2,none)] zS3 ?_;refine VA (zNl h op tt h0 h1) ?_;rintro _ h2 ⟨rfl,e2⟩;refine gr ?_;exact⟨rfl,e2⟩
def zOz:U1:=(oV (oR [oB .lss 63 62 61]) (oV (oT 63 2) (oV (o5 3 (oV (oR [oM 64 62,oI 7 65 60 62,oA 7 66 65,⟨some 9,none,(.alloc [(.int .u8 0),(.int .i64 0),(.int .i64 0),(.int .i64 0),(.int .i64 0),(.slice none 0 0),(.slice none 0 0)])⟩,oM 8 64,oS 7 9 66]) (oV (oR [oM 67 5,oM 68 5,⟨some 69,none,(.nilCheck (.tmp 68))⟩,oF 4 70 69,oL 71 70,oM 72 6,oM 73 8,⟨some 74,none,(.build [(.int .i64 0),(.int .i64 0)] [(0,1,(.tmp 72)),(1,1,(.tmp 73))])⟩,⟨some 75,none,(.buildSlice 1 2 [(.int .i64 0),(.int .i64 0)] [(0,2,(.tmp 74))])⟩,oY 2 76 71 75,⟨some 77,none,(.nilCheck (.tmp 67))⟩,oF 4 78 77,oS 1 78 76]) (oV (oR [oN 10 (-1)]) (oV (oV (oR [oF 0 79 9,oL 80 79,o1 81 84 80]) (oJ 81 (oR [oF 1 82 9,oL 83 82,oM 10 83]) .skip)) (oR [oM 84 5,oM 85 5,⟨some 86,none,(.nilCheck (.tmp 85))⟩,oF 3 87 86,oL 88 87,oM 89 10,⟨some 90,none,(.buildSlice 1 1 [(.int .i64 0)] [(0,1,(.tmp 89))])⟩,oY 1 91 88 90,⟨some 92,none,(.nilCheck (.tmp 84))⟩,oF 3 93 92,oS 1 93 91])))))) (oR [oC .add 94 62 1,oM 62 94]))))
def zPb:U1:=(oV (oR [oB .lss 55 54 53]) (oV (oT 55 0) (oV (o5 1 (oV (oR [oM 56 54,oI 5 57 52 54,oA 5 58 57,⟨some 7,none,(.alloc [(.slice none 0 0),(.int .u8 0),(.int .i64 0),(.int .i64 0),(.int .i64 0)])⟩,oM 6 56,oS 5 7 58]) (oV (oR [oF 0 59 7,oL 60 59,oQ 61 60,oN 62 0]) (o5 2 (.loop zOz))))) (oR [oC .add 95 54 1,oM 54 95]))))
def zT8:U1:=(oV (oR [oX 2 0,oK 4 (.pointer none)]) (oV (o6 [oA 2 11 2,oM 12 1,oF 0 13 2,oL 14 13,oF 1 15 2,oL 16 15,oM 17 1,oI 2 18 16 17,oF 0 19 18,oL 20 19,oI 4 21 14 20,oF 3 22 21,oL 23 22,(o1 24 50 23,[0]),(⟨some 25,none,(.build [(.slice none 0 0),(.slice none 0 0),(.int .i64 0),(.slice none 0 0),(.slice none 0 0),(.slice none 0 0)] [(0,2,(.tmp 11)),(2,1,(.tmp 12)),(3,1,(.tmp 24))])⟩,[]),oX 26 25,oM 5 26]) (oV (oR [oM 28 5,oA 2 29 2,oM 30 1,o2 31 82 29 30,oM 27 31,oE 32 27 0,oE 33 27 1,⟨some 34,none,(.nilCheck (.tmp 28))⟩,oF 5 35 34,oS 1 35 32]) (oV (oR [oM 36 5,⟨some 37,none,(.build [(.int .i64 0),(.int .i64 0)] [(0,1,(.const (.int .i64 (-1)))),(1,1,(.const (.int .i64 (-1))))])⟩,⟨some 38,none,(.buildSlice 1 2 [(.int .i64 0),(.int .i64 0)] [(0,2,(.tmp 37))])⟩,oM 39 5,⟨some 40,none,(.nilCheck (.tmp 39))⟩,oF 3 41 40,oL 42 41,oQ 43 42,o2 44 83 38 43,⟨some 45,none,(.nilCheck (.tmp 36))⟩,oF 4 46 45,oS 1 46 44]) (oV (oV (oR [oF 1 47 2,oL 48 47,oM 49 1,oI 2 50 48 49,oF 1 51 50,oL 52 51,oQ 53 52,oN 54 0]) (o5 0 (.loop zPb))) (oV (oR [oM 96 5,oM 4 96]) .ret))))))
theorem zRz (h:U0)(vt vf:Value)(T:List U3)(F:List WR)(f:Int)(E:Env h vt vf T F)(ha:Y9 T F f 0=0)(hf:0<=f/\f<(F.length:Int))(hsig:0<=(F.getD f.toNat default).sig/\(F.getD f.toNat default).sig<(T.length:Int))(hL:(F.getD f.toNat default).blocks.length<=16):
  WC Tryz.prog tb 48 [.agg #[vt,vf],I f] h fun r h'=>(∃ g xs,r= .pointer (some ⟨g,0,none⟩)/\Rul (nxF T F f) xs/\
   W4 h' g vt vf T F f (zAt (T.getD (F.getD f.toNat default).sig.toNat default).parts (F.getD f.toNat default).blocks) (zGP (T.getD (F.getD f.toNat default).sig.toNat default).parts.length (F.getD f.toNat default).blocks) (YK xs (F.getD f.toNat default).blocks.length))/\U6 h h':=by
 have hI:=E.sm.ins _ (zI (l:=F) (i:=f.toNat) (by omega));have hP:=E.sm.parts _ (zI (l:=T) (i:=(F.getD f.toNat default).sig.toNat) (by omega));have hI:=WY.mk hI;refine en 97 [(4,none)] zT8 ?_;refine VH ?_;intro p0 h1 e1 o1;have E1:=E.ext e1;refine go ?_;refine VC 1 rfl rfl ?_;have ea:=zQ 1 h1;have o1X:=Vj (o1.ext ea);obtain⟨cs,⟨vb,rfl,sb,hlb⟩,pc,hsl⟩:=z0 (i:=f.toNat) E1.sf (by omega);have pc1:=(pc _ ea).2;obtain⟨cst,⟨vat,rfl,sat,hlat⟩,pct,hslt⟩:=z0 (i:=(F.getD f.toNat default).sig.toNat) E1.st (by omega);have pct1:=(pct _ ea).2;have satX:=Vb (sat.ext ea);have stX0:=Ws.ext E1.st ea;have stX:Ws (inC (zC 1 h1)) vt T:=stX0;have sfX0:=Wq.ext E1.sf ea;have sfX:Wq (inC (zC 1 h1)) vf F:=sfX0;refine WM ?_;refine VA (zHZ _ vat _ satX (by omega)) ?_;rintro vk X2 ⟨ok,e2⟩;obtain⟨k1,k2,k3,rfl⟩:=WW.shape ok.sl;have hlt:h1.n<X2.n:=e2.n;refine nE e2 ?_;refine WM ?_;refine XW E1.hm ?_;intro X3 n3 g3;have e3:=zDx ((zQ 1 h1).trans (yh (h:=h1) e2)) n3 g3 (QE _) hlt;have o5:U4 h1 (yt h1 (inC X3)) (.pointer (some ⟨h1.n,0,none⟩)) [vt,vf,I f,(.slice k1 k2 k3),.slice none 0 0,.slice none 0 0]:=⟨h1.n,QE _,by show h1.n<X3.n;omega,rfl,by show X3.get _=_;rw[g3,QJ rfl];rfl⟩;have ok5:WH h1 (yt h1 (inC X3)) (.slice k1 k2 k3) (T.getD (F.getD f.toNat default).sig.toNat default).parts:=by
  rcases ok with ok|⟨g,g1,g2,g4,g5⟩
  ·exact .inl ok
  ·have g1:h1.n+1<=g:=g1;exact .inr ⟨g,by omega,by show g<X3.n;omega,g4,by show X3.get g=_;rw[g3,QC (by omega)];exact g5⟩
 have f5:WI (.pointer (some ⟨h1.n,0,none⟩)) (.slice k1 k2 k3):=fun b hb hk=>by
  cases hb;have:=WH.since' ok _ hk;have:h1.n+1<=h1.n:=this;omega
 refine WM ?_;have e4:U6 h1 (yt h1 (inC X3)):=e3;generalize yt h1 (inC X3)=h4 at *;clear g3 n3 e3 e2 ok hlt X2;have E4:=E1.ext e4;have e04:=e1.trans e4;have o14:=o1.ext e4;refine go ?_;refine VA (zQ5 h4 vt vf T F f E4) ?_;rintro _ h5 ⟨⟨vr,rs,rfl,orr,hlr,hrs,_⟩,e5⟩;obtain⟨r1,r2,r3,rfl⟩:=WW.shape orr.sl;obtain⟨xs,hRul,rfl⟩:=hrs ha;have o55:=o5.ext e5;have e45:=e4.trans e5;rw[ha];refine go ?_;refine VU (cs:=[.slice r1 r2 r3]) (j:=5) (hl:=by simp) o55 e45 ?_;intro h6 e6 o6 u6;replace o6:U4 h1 h6 (.pointer (some ⟨h1.n,0,none⟩)) [vt,vf,I f,.slice k1 k2 k3,.slice none 0 0,.slice r1 r2 r3]:=o6;have fr:=VF (WH.since' orr) o5.within;have ok6:=(ok5.ext e5).upB u6.upB f5;have or6:=orr.upB u6.upB fr.symm;have fkr:=(VF (WH.since' orr) ok5.within).symm;refine go ?_;refine UX (cs:=[I (-1),I (-1)]) ?_;intro h7 e7 n7 s7 _;have ok7:=ok6.ext e7;have o7:=o6.ext e7;refine go ?_;refine VA (zJP h7 _ (-1) (-1) (T.getD (F.getD f.toNat default).sig.toNat default).parts.length s7 (yN (e6.trans e7) E1.hm) (by omega)) ?_;rintro _ h8 ⟨⟨gp,gp1,gp2,rfl,gp3⟩,e8⟩;have e68:=e7.trans e8;have e18:=e6.trans e68;have o8:=o6.ext e68;have n17:h1.n<=h7.n:=(e6.trans e7).n;have op8:=zR9 (b:=h1.n) (by omega) gp2 gp3;have ok8:=ok6.ext e68;have or8:=or6.ext e68;have hsp:zAU h7 (.slice (some ⟨gp,0,none⟩) (T.getD (F.getD f.toNat default).sig.toNat default).parts.length 2):=fun b hb=>by cases hb;exact gp1
 have fp1:=VF hsp (o6.ext e7).within;have fp2:=VF hsp (ok6.ext e7).within;have fp3:=VF hsp (or6.ext e7).within;refine go ?_;refine VU (cs:=[.slice (some ⟨gp,0,none⟩) (T.getD (F.getD f.toNat default).sig.toNat default).parts.length 2]) (j:=4) (hl:=by simp) o8 e18 ?_;intro h9 e9 o9 u9;have n4:h1.n<=h4.n:=e4.n;have FO9:FO h1 h9 (.pointer (some ⟨h1.n,0,none⟩)) vt vf f (T.getD (F.getD f.toNat default).sig.toNat default).parts (List.replicate (T.getD (F.getD f.toNat default).sig.toNat default).parts.length (-1,-1)) (YK xs (F.getD f.toNat default).blocks.length) (.slice k1 k2 k3) (.slice (some ⟨gp,0,none⟩) (T.getD (F.getD f.toNat default).sig.toNat default).parts.length 2) (.slice r1 r2 r3):=
  ⟨o9,ok8.upB u9.upB f5,op8.upB zCl u9.upB fp1.symm,(or8.since e4).upB u9.upB fr.symm,fp2.symm,fkr,fp3,f5,fp1.symm,fr.symm,⟨⟨_,_,_,rfl⟩,⟨_,_,_,rfl⟩,⟨_,_,_,rfl⟩⟩⟩
 have o19:=o1.ext e9;have pc9:=(pc _ e9).1;have sb9:=BD.ext sb e9;have sf9:=Wq.ext E1.sf e9;clear o9 u9 o8 op8 ok8 or8 fp1 fp2 fp3 hsp gp3 gp1 gp2 o7 ok7 s7 o6 ok6 or6 u6 o55 orr ok5 o5 E4 o14 fr fkr f5 pc1 pct1 satX stX sfX stX0 sfX0 o1X ea pct hslt sat;have hI2:=hI.out;generalize hLd:(F.getD f.toNat default).blocks=L at *;generalize hpd:(T.getD (F.getD f.toNat default).sig.toNat default).parts=par at *;refine go ?_;refine VD [55,56,57,58,7,6,59,60,61,62,63,64,65,66,9,8,67,68,69,70,71,72,73,74,75,76,77,78,10,79,80,81,82,83,10,84,85,86,87,88,89,90,91,92,93,94,62,95,54] (by kernel_rfl) (fun i=>L.length - i) (fun i t h'=>U6 h1 h'/\zB t 54=I i/\i<=L.length/\∃ vk vp,FO h1 h' (.pointer (some ⟨h1.n,0,none⟩)) vt vf f (par++yn (L.take i)) (List.replicate par.length (-1,-1)++Zb L i) (YK xs L.length) vk vp (.slice r1 r2 r3)) 0 ?_ ?_
 ·exact⟨e9,U8,QS _,_,_,by simpa [yn,Zb]using FO9⟩
 rintro i t h10 hsame ⟨e10,s54,hi,vk,vp,G10⟩;refine go ?_;refine VE (fun hb=> ?_) (fun hb=> ?_)<;>simp only[DB]at hb;rotate_left 1
 ·have hii:i=L.length:=by omega
  subst hii;rw[Qx]at G10;refine gr ?_;exact⟨⟨h1.n,xs,rfl,hRul,⟨h1,_,_,_,G10.own,G10.k.sl,G10.q.sl,G10.r.sl⟩,Ws.ext E1.st e10,Wq.ext E1.sf e10,yN e10 E1.hm⟩,e1.trans e10⟩
 have hi':i<L.length:=by omega
 obtain⟨csb,⟨vi,rfl,si,hli⟩,pcb,hsb⟩:=z0 (i:=i) sb (by omega);have pcb10:=(pcb _ e10).1;have sb10:=BD.ext sb e10;have hil:=hI2 _ (zI hi');have hkl:=zEZ hI2 i (by omega);have hpl:=zDW hI2 i (by omega);generalize hBd:L.getD i default=B at *;obtain⟨ia,iN,ik,rfl⟩:=zG si;refine go ?_;refine WO.al ?_;intro p7 h11 e11 o7;refine go ?_;refine VG (cs:=[.slice ia iN ik,.int .u8 B.fin.kind,I B.fin.a,I B.fin.to,I B.fin.els]) o7 e11 ?_;intro h12 e12 o7 u7;have e1_12:=e10.trans e12;have si12:=BT.ext si e1_12;refine go ?_;refine VD [63,64,65,66,9,8,67,68,69,70,71,72,73,74,75,76,77,78,10,79,80,81,82,83,10,84,85,86,87,88,89,90,91,92,93,94,62] (by kernel_rfl) (fun j=>B.ins.length - j) (fun j t h'=>U6 h1 h'/\zB t 62=I j/\j<=B.ins.length/\∃ vk vp,FO h1 h' (.pointer (some ⟨h1.n,0,none⟩)) vt vf f (par++yn (L.take i)++(B.ins.take j).map Zs) (List.replicate par.length (-1,-1)++Zb L i++(List.range j).map fun (a:Nat)=>((i:Int),(a:Int))) (YK xs L.length) vk vp (.slice r1 r2 r3)) 0 ?_ ?_
 ·exact⟨e1_12,U8,QS _,_,_,by simpa using G10.ext e12⟩
 rintro j t h13 hsame2 ⟨e13,s62,hj,vk,vp,G13⟩;refine go ?_;refine VE (fun hb=> ?_) (fun hb=> ?_)<;>simp only[DB]at hb;rotate_left 1
 ·have hjj:j=B.ins.length:=by omega
  subst hjj;refine go ?_;refine zA (i+1) (by omega) ⟨e13,Wu,by omega,vk,vp,?_⟩;rw[zBE hi',hBd,show Zb L (i+1)=Zb L i++(List.range B.ins.length).map fun (a:Nat)=>((i:Int),(a:Int)) by rw[<-hBd];rfl];rw[Qx,QZ,QZ]at G13;exact G13
 have hj':j<B.ins.length:=by omega
 obtain⟨csx,hR,pcx,hsx⟩:=z0 (i:=j) si (by omega);have pcx13:=(pcx _ e13).1;have si13:=BT.ext si e13;have hsucc:(B.ins.take (j+1)).map Zs=(B.ins.take j).map Zs++[Zs (B.ins.getD j default)]:=by rw[zIz hj',Q9];rfl
 generalize hxd:B.ins.getD j default=x at *;obtain⟨xa,xf,rfl,sxa,sxf,hla,hlf,ho⟩:=id hR;obtain⟨xa1,xa2,xa3,rfl⟩:=WW.shape sxa;obtain⟨xf1,xf2,xf3,rfl⟩:=WW.shape sxf;refine go ?_;refine WO.al ?_;intro p9 h14 e14 o9;refine go ?_;refine VG (cs:=[.int .u8 x.op,I x.ty,I x.a,I x.b,I x.n,.slice xa1 xa2 xa3,.slice xf1 xf2 xf3]) o9 e14 ?_;intro h15 e15 o9 u9;have G15:=G13.ext e15;have e1_15:=e13.trans e15;have own15:=G15.own;refine go ?_;refine UG (a:=((i:Int),(j:Int))) (Dn:=fun _=>False) G15.q e1_15 (QE _) e1_15.n (by decide) (by simp only[QM,List.length_replicate,Qp,List.length_range];omega) (fun hx _ _=>rfl) (fun _ h=>h.elim) (fun _ _ _ _ h=>h) ?_;intro v8 h16 lit e16 op16 n16 k16 fr16;have hs16:zAU h15 v8:=fun b hb=>by obtain⟨n,k,g,rfl,hg⟩:=fr16;cases hb;exact hg
 have sh16:∃ a n k,v8= .slice a n k:=let ⟨n,k,g,e,_⟩:=fr16;⟨_,n,k,e⟩;have uB16:=zQZ n16 k16;have own16:=own15.upB uB16 G15.op.symm;have o9_16:=o9.upB uB16 (VF o9.since' G13.q.within).symm;obtain⟨w1,w2,w3,rfl⟩:=sh16;refine go ?_;refine VU (cs:=[.slice w1 w2 w3]) (j:=4) (hl:=by simp) own16 e16 ?_;intro h17 e17 own17 u17;replace own17:U4 h1 h17 (.pointer (some ⟨h1.n,0,none⟩)) [vt,vf,I f,vk,.slice w1 w2 w3,.slice r1 r2 r3]:=own17;have G17:=G15.putP uB16 hs16 ⟨_,_,_,rfl⟩ op16 own17 u17;have o9_17:=o9_16.upB u17.upB (VF o9.since' G13.own.within).symm;refine go ?_;refine VA (zHy h17 x.op (E1.ext e17).tt ho.1 ho.2) ?_;rintro _ h18 ⟨rfl,e18⟩;have G18:=G17.ext e18;have own18:=G18.own;have o9_18:=o9_17.ext e18;have e1_18:=e17.trans e18;have hk:Zs x=if (zW x.op).2.2.2.2.2 then x.ty else -1:=rfl;have ok18:=G18.k;obtain⟨⟨q1,q2,q3,rfl⟩,_⟩:=G18.s;cases hb2:(zW x.op).2.2.2.2.2 with
 |true=>
  have hk1:Zs x=x.ty:=by rw[hk,hb2];rfl
  refine go ?_;refine WO.bl [x.ty] ?_;intro v19 h19 e19 ol19;refine go ?_;refine Vo (ok18.ext e19) ol19.sl (e1_18.trans e19) (by simp) (by simp only[QM,Qp,GB,Qa];omega) ?_;intro v20 h20 e20 oi20 u20;have own20:=(own18.ext e19).upB u20.upB G18.ok.symm;obtain⟨y1,y2,y3,rfl⟩:=WW.shape oi20.sl;refine go ?_;refine VU (cs:=[.slice y1 y2 y3]) (j:=3) (hl:=by simp) own20 e20 ?_;intro h21 e21 own21 u21;replace own21:U4 h1 h21 (.pointer (some ⟨h1.n,0,none⟩)) [vt,vf,I f,.slice y1 y2 y3,.slice w1 w2 w3,.slice r1 r2 r3]:=own21;have G21:=(G18.ext e19).putK u20 (e1_18.trans e19).n oi20 own21 u21;refine go ?_;refine zA (j+1) (by omega) ⟨e21,Wu,by omega,.slice y1 y2 y3,.slice w1 w2 w3,?_⟩;rw[hsucc,hk1,Gx,Q9,<-QZ,<-QZ];exact G21
 |false=>
  have hk1:Zs x= -1:=by rw[hk,hb2];rfl
  refine go ?_;refine WO.bl [-1] ?_;intro v19 h19 e19 ol19;refine go ?_;refine Vo (ok18.ext e19) ol19.sl (e1_18.trans e19) (by simp) (by simp only[QM,Qp,GB,Qa];omega) ?_;intro v20 h20 e20 oi20 u20;have own20:=(own18.ext e19).upB u20.upB G18.ok.symm;obtain⟨y1,y2,y3,rfl⟩:=WW.shape oi20.sl;refine go ?_;refine VU (cs:=[.slice y1 y2 y3]) (j:=3) (hl:=by simp) own20 e20 ?_;intro h21 e21 own21 u21;replace own21:U4 h1 h21 (.pointer (some ⟨h1.n,0,none⟩)) [vt,vf,I f,.slice y1 y2 y3,.slice w1 w2 w3,.slice r1 r2 r3]:=own21;have G21:=(G18.ext e19).putK u20 (e1_18.trans e19).n oi20 own21 u21;refine go ?_;refine zA (j+1) (by omega) ⟨e21,Wu,by omega,.slice y1 y2 y3,.slice w1 w2 w3,?_⟩;rw[hsucc,hk1,Gx,Q9,<-QZ,<-QZ];exact G21
theorem zEK {O:List Int}{n:Nat}(h:O.Nodup)(hr:∀ c∈O,0<=c/\c<(n:Int)):O.length<=n:=by
 have hs:O ⊆ (List.range n).map fun (i:Nat)=>(i:Int):=fun c hc=>by
  have:=hr c hc;exact Qt.2 ⟨c.toNat,GH.2 (by omega),by omega⟩
 have:=h.length_le_of_subset hs;simpa using this
theorem zLx (n:Nat):((List.range n).map fun (i:Nat)=>(i:Int)).Nodup:=by
 exact List.Pairwise.map (R:=(·≠·)) (S:=(·≠·)) (fun (i:Nat)=>(i:Int)) (fun a b hne (e:(a:Int)=b)=>hne (by omega)) List.nodup_range
theorem zMp {T:List U3}{F:List WR}{f:Int}(h:(zD T F f 0).2=0):(yT T F f).1.length=(zD T F f 0).1.length↔∀ c,0<=c->c<((zD T F f 0).1.length:Int)->Wi (Wn (zD T F f 0).1) 0 c:=by
 obtain⟨h1,_,_,h4,_,h6,_⟩:=zBc h;have hnd:=zDV h;have hle:=zEK hnd h6;rw[<-h1];constructor
 ·intro he c c0 c1;refine(Yv h).1 (Gt fun hc=> ?_);have hco:c∉(zU T F f).1:=fun hm=>hc (by
   unfold zU at hm;unfold yT;rw[QC (fun e=>e h)]at hm |-;exact zC8.2 (List.mem_reverse.1 hm))
  have:=zEK (O:=c::(zU T F f).1) (n:=(zD T F f 0).1.length) (List.nodup_cons.2 ⟨hco,hnd⟩) (fun d hd=>by
   rcases GK.1 hd with rfl|hd
   ·exact⟨c0,c1⟩
   ·exact h6 d hd)
  rw[GT]at this;omega
 ·intro hw;have hs:((List.range (zD T F f 0).1.length).map fun (i:Nat)=>(i:Int)) ⊆ (zU T F f).1:=fun c hc=>by
   obtain⟨i,hi,rfl⟩:=Qt.1 hc;exact h4 _ ((Yv h).2 (hw _ (by omega) (by have:=GH.1 hi;omega)))
  have:=(zLx _).length_le_of_subset hs;simp at this;omega
def zM (F:List WR)(f:Int):List WT:=(F.getD f.toNat default).blocks
def yL (T:List U3)(F:List WR)(f:Int):U3:=T.getD (F.getD f.toNat default).sig.toNat default
def W0 (T:List U3)(F:List WR)(f:Int):List Int:=zAt (yL T F f).parts (zM F f)
def psF (T:List U3)(F:List WR)(f:Int):List (Int×Int):=zGP (yL T F f).parts.length (zM F f)
def zSc (T:List U3)(F:List WR)(f b:Int):Prop:=
 (∀ i,i<((zM F f).getD b.toNat default).ins.length->YE T F (W0 T F f) (psF T F f) (Wn (zM F f)) (zM F f) (zS (zM F f) b (zM F f).length) b i)/\Yj T F f (W0 T F f) (psF T F f) (Wn (zM F f)) (zM F f) b
def zJ0 (T:List U3)(F:List WR)(f:Int):Prop:=
 (∀ c,0<=c->c<((zM F f).length:Int)->Wi (Wn (zM F f)) 0 c)/\(f=0->(yL T F f).parts=[]/\Wp T 1 (yL T F f).elem=true)/\∀ b,0<=b->b<((zM F f).length:Int)->zSc T F f b
def WfP (T:List U3)(F:List WR):Prop:=∀ f,0<=f->f<(F.length:Int)->zJ0 T F f
theorem zFz (L:List WT):∀ n,n<=L.length->(yn (L.take n)).length=(Zb L n).length
 |0,_=>by simp[yn,Zb]
 |n+1,hn=>by
  rw[zBE (by omega),QM,zFz L n (by omega)];show _=(Zb L n++_).length;rw[QM,Qp,Qp,List.length_range]
theorem zJB (L:List WT):((yn L).length:Int)=zJ L:=by
 unfold yn zJ;induction L with
 |nil=>rfl
 |cons b L ih=>rw[List.flatMap_cons,QM,Qm,G7,Qp,<-ih];omega
theorem zFR {L:List WT}:∀ n,∀ p∈Zb L n,(0<=p.1/\p.1<(n:Int))/\0<=p.2/\p.2<((L.getD p.1.toNat default).ins.length:Int)
 |0,p,hp=>by cases hp
 |n+1,p,hp=>by
  have hp:p∈Zb L n++(List.range (L.getD n default).ins.length).map fun (i:Nat)=>((n:Int),(i:Int)):=hp;rcases Qi.1 hp with hp|hp
  ·have:=zFR n p hp;omega
  ·obtain⟨i,hi,rfl⟩:=Qt.1 hp;have:=GH.1 hi;exact⟨⟨by show (0:Int)<=(n:Int);omega,by show (n:Int)<_;omega⟩,by show (0:Int)<=(i:Int);omega,by show (i:Int)<((L.getD (n:Int).toNat default).ins.length:Int);rw[QU];omega⟩
structure FnIn (T:List U3)(F:List WR)(f:Int):Prop where
 hf:0<=f/\f<(F.length:Int)
 hc:yo T=0
 bl:∀ b,0<=b->b<((zM F f).length:Int)->zD T F f b=(zM F f,0)
 n1:1<=(zM F f).length
 n16:(zM F f).length<=16
 many:zJ (zM F f)<=128
 sig:0<=(F.getD f.toNat default).sig/\(F.getD f.toNat default).sig<(T.length:Int)
 sigF:∀ g∈F,BG T g.sig
 ks:∀ t∈W0 T F f,BG T t
 par:∀ t∈(yL T F f).parts,PlT T t
 el:PlT T (yL T F f).elem
 par4:(yL T F f).parts.length<=4
 len:(W0 T F f).length=(psF T F f).length
 reg:((W0 T F f).length:Int)=zIO ((yL T F f).parts.length:Int) (zM F f)
 U:∀ B∈zM F f,BlkU B (W0 T F f).length (zM F f).length
 V:∀ B∈zM F f,∀ x∈B.ins,InsT T F x
 pl:∀ i,i<(psF T F f).length->((psF T F f).getD i default).1= -1\/0<=((psF T F f).getD i default).1
 nx:∀ c,0<=c/\c<((zM F f).length:Int)->∀ d∈Wn (zM F f) c,0<=d/\d<((zM F f).length:Int)
theorem zBe {T:List U3}{F:List WR}{f:Int}(h:Z8 T F=0)(hf:0<=f/\f<(F.length:Int)):FnIn T F f:=by
 obtain⟨hc,hF1,hF8,hfn⟩:=yc h;have hm:=zI (l:=F) (i:=f.toNat) (by omega);have hfn1:=hfn _ hm;have hlen:=zT9 hfn1;have hsg:=zD4 hfn1;have hask:ZR T F f=(((yL T F f).parts.length:Int),0):=by
  unfold ZR;rw[QC (fun e=>e h),QJ (by unfold zb;simp;omega)];rfl
 have hreg:(Y7 T F f).2=0:=by unfold Y7;rw[hask];rfl
 have hbl:∀ b,0<=b->b<((zM F f).length:Int)->zD T F f b=(zM F f,0):=fun b b0 b1=>by
  unfold zD;rw[QC (fun e=>e hreg),QC (by unfold zM at b1;omega)];rfl
 have hmay:=zBS hc hsg.1 hsg.2;have hk3:(yL T F f).kind=3:=by
  unfold BW at hfn1;split at hfn1
  ·cases hfn1
  ·rename_i hb;unfold zBu at hb;simp only[GD,GZ,Gg,not_or,Bool.not_eq_false,Gm,Decidable.not_not]at hb;exact hb.1.1.2
 have hfnT:zIj T (yL T F f):=by
  have hk3':(T.getD (F.getD f.toNat default).sig.toNat default).kind=3:=hk3;rcases hmay with ⟨k,_⟩|⟨k,_⟩|⟨_,k⟩|⟨k,_⟩|⟨k,_⟩
  ·omega
  ·omega
  ·exact k
  ·omega
  ·omega
 have hV:∀ B∈zM F f,∀ x∈B.ins,InsT T F x:=fun B hB x hx=>by
  refine zTk (f:=F.getD f.toNat default) (by omega) ?_;have h0:BW T F.length (F.getD f.toNat default)=true:=hfn1;unfold BW at h0;split at h0
  ·cases h0
  ·have h0:((F.getD f.toNat default).blocks.any fun b=>zCp b (szL T F.length (F.getD f.toNat default)))=false:=by simpa using h0
   have hb:=G1.1 h0 B hB;have hb:zCp B (szL T F.length (F.getD f.toNat default))=false:=by simpa using hb
   unfold zCp at hb;rw[Bool.or_eq_false_iff]at hb;have:=G1.1 hb.1 x hx;simpa using this
 have hkm:((W0 T F f).length:Int)=zIO ((yL T F f).parts.length:Int) (zM F f):=by
  unfold W0 zAt zIO;rw[QM,<-zJB];omega
 have hkl:(W0 T F f).length=(psF T F f).length:=by
  unfold W0 psF zAt zGP;rw[QM,QM,List.length_replicate,<-zFz _ _ (QE _),Qx]
 refine⟨hf,hc,hbl,hlen.1,hlen.2.1,hlen.2.2,hsg,fun g hg=> .inr (zD4 (hfn g hg)),?_,hfnT.1,hfnT.2.1,hfnT.2.2.1,hkl,hkm,?_,hV,?_,?_⟩
 ·intro t ht;rcases Qi.1 ht with ht|ht
  ·have:=hfnT.1 t ht;exact .inr ⟨this.1,this.2.1⟩
  ·obtain⟨B,hB,ht⟩:=List.mem_flatMap.1 ht;obtain⟨x,hx,rfl⟩:=Qt.1 ht;unfold Zs;split
   ·exact(hV B hB x hx).ty
   ·exact .inl rfl
 ·intro B hB;rw[hkm];exact zVM hfn1 B hB
 ·intro i hi;have hp:=zI (l:=psF T F f) hi;rcases Qi.1 hp with hp|hp
  ·rw[(List.mem_replicate.1 hp).2];exact .inl rfl
  ·exact .inr (zFR _ _ hp).1.1
 ·intro c hcc d hd;have hU:=zVM hfn1 _ (zI (l:=zM F f) (i:=c.toNat) (by omega));exact hU.next d hd
set_option maxRecDepth 100000
def zM6:U1:=(oV (oR [oB .lss 69 68 67]) (oV (oT 69 0) (oV (o5 1 (oV (oR [oM 70 68,oM 9 70]) (oV (oR [oM 71 5,oM 72 9,o2 73 77 71 72,oM 10 73]) (oV (oR [oM 74 10,⟨some 75,none,(.isNil 4 true (.tmp 74))⟩]) (oJ 75 (oV (oR [oM 76 10,oM 4 76]) .ret) .skip))))) (oR [oC .add 77 68 1,oM 68 77]))))
def zTn:U1:=(oV (oR [oX 2 0,⟨some 4,none,(.mov (.const .nilIface))⟩]) (oV (oR [oA 2 11 2,oM 12 1,o2 13 48 11 12,oM 5 13]) (oV (oR [oA 2 15 2,oM 16 1,o2 17 75 15 16,oM 14 17,oE 18 14 0,oE 19 14 1,oM 6 18,oM 7 19]) (oV (oV (o6 [oF 0 20 2,oL 21 20,oF 1 22 2,oL 23 22,oM 24 1,oI 2 25 23 24,oF 0 26 25,oL 27 26,oI 4 28 21 27,oA 4 29 28,(⟨some 8,none,(.alloc [(.int .u8 0),(.int .i64 0),(.int .i64 0),(.slice none 0 0)])⟩,[]),oS 4 8 29]) (oV (oR [oM 30 6,oQ 31 30,oF 1 32 2,oL 33 32,oM 34 1,oI 2 35 33 34,oF 1 36 35,oL 37 36,oQ 38 37,oB .neq 39 31 38,oM 40 39,oH 40 (oM 41 1),oH 40 (oC .eql 42 41 0),oH 40 (oM 43 42),oG 43 (oF 3 44 8),oG 43 (oL 45 44),oG 43 (oQ 46 45),oG 43 (oC .gtr 47 46 0),oG 43 (oM 48 47),oH 48 (oM 49 5),oH 48 (oF 1 50 8),oH 48 (oL 51 50),⟨some 52,some (48,false),(.buildSlice 1 1 [(.int .i64 0)] [(0,1,(.tmp 51))])⟩,⟨some 53,some (48,false),(.call (.func 76) [(.tmp 49),(.const (.int .u8 1)),(.tmp 52)])⟩,oH 48 (oW 54 53),oG 43 (oO 55 48 54),oH 40 (oP 56 43 55),oO 57 40 56]) (oJ 57 (oV (oR [oM 58 1,⟨some 59,none,(.build [(.int .i64 0),(.int .i64 0),(.int .i64 0)] [(0,1,(.tmp 58)),(1,1,(.const (.int .i64 0))),(2,1,(.const (.int .i64 120)))])⟩,⟨some 60,none,(.mkIface 130 (.tmp 59))⟩,oM 4 60]) .ret) .skip))) (oV (oV (oR [oF 1 61 2,oL 62 61,oM 63 1,oI 2 64 62 63,oF 1 65 64,oL 66 65,oQ 67 66,oN 68 0]) (o5 0 (.loop zM6))) (oV (oR [⟨some 4,none,(.mov (.const .nilIface))⟩]) .ret))))))
theorem zGl (h:U0)(vt vf:Value)(T:List U3)(F:List WR)(f:Int)(E:Env h vt vf T F)(hp:Z8 T F=0)(hf:0<=f/\f<(F.length:Int)):
  WC Tryz.prog tb 38 [.agg #[vt,vf],I f] h fun r h'=>(r= .nilIface/\zJ0 T F f\/(∃ b,r=Br f b)/\¬zJ0 T F f)/\U6 h h':=by
 have Z:=zBe hp hf;have hb0:=Z.bl 0 (Qk 0) (by have:=Z.n1;omega);have hbe:(zD T F f 0).2=0:=by rw[hb0]
 have ha:Y9 T F f 0=0:=by
  unfold Y9;rw[QC (fun e=>e hbe),QC (by rw[hb0];have:=Z.n1;show ¬(_\/((zM F f).length:Int)<=0);omega),QJ ((Yv hbe).2 (by rw[hb0];exact Wi.here))]
 have hra:=zMp hbe;have hre:(yT T F f).2=0:=by rw[zFf];exact hbe
 have hn16:=Z.n16;have hn1:=Z.n1;have hsg:=Z.sig;have hpar:=Z.par4;have hnx:nxF T F f=Wn (zM F f):=by unfold nxF;rw[hb0]
 rw[hb0]at hra;replace hra:(yT T F f).1.length=(zM F f).length↔∀ c,0<=c->c<((zM F f).length:Int)->Wi (Wn (zM F f)) 0 c:=hra;refine en 78 [(4,none)] zTn ?_;refine VH ?_;intro p2 h1 e1 o1;replace o1:U4 h h1 p2 [vt,vf]:=o1;have E1:=E.ext e1;refine go ?_;refine VA (zRz h1 vt vf T F f E1 ha hf Z.sig hn16) ?_;rintro _ h2 ⟨⟨g,xs,rfl,hR,M⟩,e2⟩;rw[hnx]at hR;have E2:=E1.ext e2;have o2:=o1.ext e2;refine go ?_;refine VA (zHd h2 vt vf T F f E2.tt E2.hm E2.sm E2.st E2.sf) ?_;rintro _ h3 ⟨⟨vr,rfl,orr⟩,e3⟩;rw[hre];have E3:=E2.ext e3;have o3:=o2.ext e3;have M3:=M.ext e3;refine go ?_;refine VC 1 rfl rfl ?_;have ea:=zQ 1 h3;have o3X:=Vj (o3.ext ea);obtain⟨cs,⟨vb,rfl,sb,hlb⟩,pc,hsl⟩:=z0 (i:=f.toNat) E3.sf (by omega);have pc1:=(pc _ ea).2;obtain⟨cst,⟨vat,rfl,sat,hlat⟩,pct,hslt⟩:=z0 (i:=(F.getD f.toNat default).sig.toNat) E3.st (by omega);have pct1:=(pct _ ea).2;have stX0:=Ws.ext E3.st ea;have stX:Ws (inC (zC 1 h3)) vt T:=stX0;have sfX0:=Wq.ext E3.sf ea;have sfX:Wq (inC (zC 1 h3)) vf F:=sfX0;obtain⟨va1,va2,va3,rfl⟩:=WW.shape sat;refine WM ?_;refine XG (X:=inC (zC 1 h3)) (cs:=[.int .u8 (yL T F f).kind,I (yL T F f).elem,I (yL T F f).many,.slice va1 va2 va3]) (U6.refl _) E3.hm ?_;intro h4 p8 e4 o8;have E4:=E3.ext e4;have o4:=o3.ext e4;have M4:=M3.ext e4;have or4:=orr.ext e4;have pc4:=(pc _ e4).1;have sb4:=BD.ext sb e4;have sf4:=E4.sf;have sat4:=WK.ext sat e4;have st4:=E4.st;have e04:=e1.trans (e2.trans (e3.trans e4));have bad:∀ (b:Int) {h'},¬zJ0 T F f->U6 h h'->(Br f b= .nilIface/\zJ0 T F f\/(∃ b',Br f b=Br f b')/\¬zJ0 T F f)/\U6 h h':=fun b h' hn e=>⟨.inr ⟨⟨b,rfl⟩,hn⟩,e⟩;have bad:=WY.mk @bad;clear stX0 sfX0 stX sfX o3X pc1 pct1 ea pct sat hslt;have hLb:(F.getD f.toNat default).blocks=zM F f:=rfl;rw[hLb]at sb4;have hgo:(f=0->(yL T F f).parts=[]/\Wp T 1 (yL T F f).elem=true)\/¬(f=0->(yL T F f).parts=[]/\Wp T 1 (yL T F f).elem=true):=Classical.em _;refine Z9 ?_;refine VJ [30,31,32,33,34,35,36,37,38,39,40,41,42,43,44,45,46,47,48,49,50,51,52,53,54,55,56,57,58,59,60,4] (by kernel_rfl) (fun t h'=>U6 h4 h'/\(yT T F f).1.length=(zM F f).length/\(f=0->(yL T F f).parts=[]/\Wp T 1 (yL T F f).elem=true)) ?_ ?_
 ·by_cases hr:(yT T F f).1.length=(zM F f).length;case neg=>
   have hrI:¬(((yT T F f).1.length:Int)=((zM F f).length:Int)):=by omega
   refine go ?_;refine VQ ?_;refine go ?_;refine zCb ?_;refine gr ?_;exact bad.out 0 (fun q=>hr (hra.2 q.1)) e04
  have hrI:(((yT T F f).1.length:Int)=((zM F f).length:Int)):=by omega
  refine go ?_;by_cases f0:f=0;case neg=>
   refine go ?_;exact zF ⟨U6.refl _,hr,fun e=>absurd e f0⟩
  refine go ?_;by_cases hpl:((T.getD (F.getD f.toNat default).sig.toNat default).parts.length:Int)>0
  ·refine go ?_;refine VQ ?_;refine go ?_;refine zCb ?_;refine gr ?_;exact bad.out 0 (fun q=>by have q1:(T.getD (F.getD f.toNat default).sig.toNat default).parts=[]:=(q.2.1 f0).1;rw[q1]at hpl;simp at hpl) e04
  ·have hpn:(T.getD (F.getD f.toNat default).sig.toNat default).parts=[]:=List.eq_nil_of_length_eq_zero (by omega);refine go ?_;refine WO.bl [(T.getD (F.getD f.toNat default).sig.toNat default).elem] ?_;intro v5 h5 e5 o5;refine go ?_;refine VA (yr h5 1 v5 [(T.getD (F.getD f.toNat default).sig.toNat default).elem] (M4.ext e5) o5.sl (by simp) (fun t ht=>by rw[QV.1 ht];exact .inr ⟨Z.el.1,Z.el.2.1⟩)) ?_;rintro _ h6 ⟨rfl,e6⟩;rw[yz];cases c1:Wp T 1 (T.getD (F.getD f.toNat default).sig.toNat default).elem with
   |false=>
    refine go ?_;refine VQ ?_;refine go ?_;refine zCb ?_;refine gr ?_;exact bad.out 0 (fun q=>by have q1:Wp T 1 (T.getD (F.getD f.toNat default).sig.toNat default).elem=true:=(q.2.1 f0).2;rw[q1]at c1;cases c1) (e04.trans (e5.trans e6))
   |true=>
    refine go ?_;exact zF ⟨e5.trans e6,hr,fun _=>⟨hpn,c1⟩⟩
 rintro t h5 hsame ⟨e5,hr,hmain⟩;have hway:=hra.1 hr;have hin:∀ c,Wi (Wn (zM F f)) 0 c->0<=c/\c<((zM F f).length:Int):=fun c w=>by
  induction w with
  |here=>omega
  |step _ hm ih=>exact Z.nx _ ih _ hm
 have G:Gr F f (Wn (zM F f)) xs (psF T F f) (zM F f):=⟨hf,rfl,hn16,hR,hway,hin,Z.pl⟩;have hil:∀ i,i<(zM F f).length->((zM F f).getD i default).ins.length<=1000:=fun i hi=>E.sm.ins _ (zI (l:=F) (i:=f.toNat) (by omega)) _ (zI (l:=zM F f) hi);have sb5:=BD.ext sb4 e5;have sf5:=Wq.ext sf4 e5;have o5:=o4.ext e5;have pc5:=(pc _ (e4.trans e5)).1;have M5:W4 h5 g vt vf T F f (W0 T F f) (psF T F f) (YK xs (zM F f).length):=M4.ext e5;have E5:=E4.ext e5;have e05:=e04.trans e5;replace hway:=WY.mk hway;replace hin:=WY.mk hin;replace hil:=WY.mk hil;clear pc sb4 sf4 st4 sat4 o4 M4 E4 or4 o8 orr E3 E2 E1;refine go ?_;refine VD [69,70,9,71,72,73,10,74,75,76,4,77,68] (by kernel_rfl) (fun i=>(zM F f).length - i) (fun i t h'=>U6 h5 h'/\zB t 68=I i/\i<=(zM F f).length/\WY (∀ b:Int,0<=b->b<(i:Int)->zSc T F f b)) 0 ?_ ?_
 ·exact⟨U6.refl _,U8,QS _,⟨fun b b0 b1=>by omega⟩⟩
 rintro i t6 h6 hsame6 ⟨e6,s68,hi,hI⟩;have M6:=M5.ext e6;have e06:=e05.trans e6;refine go ?_;refine VE (fun hb=> ?_) (fun hb=> ?_)<;>simp only[DB]at hb
 ·have hi':i<(zM F f).length:=by omega
  refine go ?_;refine VA (zLG h6 i M6 G (E5.ext e6) Z.hc Z.ks Z.sigF Z.sig Z.len Z.U Z.V ⟨by omega,by omega⟩ (by rw[QU];exact hil.out i hi')) ?_;have hP:(YX T F f (i:Int)).1=zS (zM F f) i (zM F f).length:=by
   have:=Z.bl i (by omega) (by omega);unfold YX;rw[this];rfl
  rw[hP];rintro q h7 ⟨hq,e7⟩;rcases hq with ⟨rfl,hq1,hq2⟩|⟨rfl,hq⟩
  ·refine go ?_;simp only[Q2,QY];refine go ?_;refine zA (i+1) (by omega) ⟨e6.trans e7,Wu,by omega,⟨fun b b0 b1=> ?_⟩⟩;by_cases hbi:b=i
   ·subst hbi;exact⟨hq1,hq2⟩
   ·exact hI.out b b0 (by omega)
  ·unfold Br;refine go ?_;simp only[Q2,Qf];refine gr ?_;exact bad.out i (fun q=>hq (q.2.2 i (by omega) (by omega))) (e06.trans e7)
 ·have hii:i=(zM F f).length:=by omega
  refine gr ?_;exact⟨.inl ⟨rfl,hway.out,hmain,fun b b0 b1=>hI.out b b0 (by omega)⟩,e06⟩
set_option maxRecDepth 100000
section
variable {P:Program}{tab:Wg}{t:U5 Value}{ds:List Deferred}{rd:Option Nat}{h:U0}{Q:WB->U0->Prop}{l:List U2}{d:Nat}{ty:TypeId}{x:Operand}{v r:Value}
theorem US {ok:Bool}(hr:zDq P ty ok v=some r)(k:WO P tab l ⟨t.set d r,ds,rd⟩ h Q)(hx:WG t x v:=by exact zL):WO P tab (⟨some d,none,.assert ty ok x⟩::l) ⟨t,ds,rd⟩ h Q:=
 WO.op _ _ rfl (by unfold WG at *;simp only[WA,hx,hr,QL]) k
theorem UH (hr:zDr P ty v=some r)(k:WO P tab l ⟨t.set d r,ds,rd⟩ h Q)(hx:WG t x v:=by exact zL):WO P tab (⟨some d,none,.typeOf ty x⟩::l) ⟨t,ds,rd⟩ h Q:=
 WO.op _ _ rfl (by unfold WG at *;simp only[WA,hx,hr,QL]) k
theorem Uv {f:FuncId}{name:String}{u:Value}(hm:Yk P ty name=some f)(k:WC P tab f [u] h fun v h'=>WO P tab l ⟨t.set d v,ds,rd⟩ h' Q)(hx:WG t x (.iface ty u):=by exact zL):WO P tab (⟨some d,none,.invoke x name []⟩::l) ⟨t,ds,rd⟩ h Q:=
 WO.invoke hx hm rfl k
theorem UV {G rt:Nat}{b:Bool}(hb:Yf P G rt ty=some b)(k:WO P tab l ⟨t.set d (.bool b),ds,rd⟩ h Q)(hx:WG t x (zGv G rt ty):=by exact zL):WO P tab (⟨some d,none,.invoke x "Comparable" []⟩::l) ⟨t,ds,rd⟩ h Q:=
 V9 hx hb k
end
abbrev tyE:Nat:=29
abbrev zMX:Value:= .iface tyE (I 120)
def zQ1:U1:=(oV (oR [oX 1 0,⟨some 2,none,(.mov (.const .nilIface))⟩]) (oV (oR [oF 2 3 1,oL 4 3,⟨some 5,none,(.mkIface 29 (.tmp 4))⟩,oM 2 5]) .ret))
theorem zJh (h:U0)(f b:Int):WC Tryz.prog tb 276 [.agg #[I f,I b,I 120]] h fun r h'=>r=zMX/\U6 h h':=by
 refine en 6 [(2,none)] zQ1 ?_;refine VH ?_;intro p h1 e1 o1;replace o1:U4 h h1 p [I f,I b,I 120]:=o1;refine go ?_;refine VQ ?_;refine gr ?_;exact⟨rfl,e1⟩
def zNO:U1:=(oV (oR [oB .lss 46 45 44]) (oV (oT 46 3) (oV (o5 4 (oV (oR [oI 1 47 43 45,oL 48 47,oM 12 48]) (oV (oR [oM 49 12,oM 50 1,oM 51 2,o3 52 79 49 50 51]) (oJ 52 (oV (oR [oK 6 (.bool true)]) .ret) .skip)))) (oR [oC .add 53 45 1,oM 45 53]))))
def zOW:U1:=(o5 1 (oV (oV (oR [oM 14 2,oM 15 14,oG 15 (oM 16 0),oG 15 (oM 17 1),⟨some 18,some (15,true),(.binP .eql 85 (.tmp 16) (.tmp 17))⟩,oP 19 15 18]) (oJ 19 (oV (oR [oK 6 (.bool true)]) .ret) .skip)) (oV (oV (oR [oM 21 0,⟨some 22,none,(.assert 187 true (.tmp 21))⟩,oM 20 22,oE 23 20 0,oE 24 20 1,oM 7 23,oM 8 24]) (oV (oR [oM 25 8,oM 26 25,oG 26 (oM 27 7),oG 26 (oM 28 1),⟨some 29,some (26,true),(.invoke (.tmp 27) "Is" [(.tmp 28)])⟩,oP 30 26 29]) (oJ 30 (oV (oR [oK 6 (.bool true)]) .ret) .skip))) (oV (oR [oM 31 0]) (o5 2 (oV (oR [⟨some 32,none,(.assert 190 true (.tmp 31))⟩,oE 33 32 1,oE 34 32 0]) (oJ 33 (oV (oR [oM 9 34]) (oV (oR [oM 35 9,⟨some 36,none,(.invoke (.tmp 35) "Unwrap" [])⟩,oM 0 36]) (oV (oR [oM 37 0,⟨some 38,none,(.isNil 4 false (.tmp 37))⟩]) (oJ 38 (oV (oR [oZ 6]) .ret) .skip)))) (oV (oR [⟨some 39,none,(.assert 192 true (.tmp 31))⟩,oE 40 39 1,oE 41 39 0]) (oJ 40 (oV (oR [oM 10 41]) (oV (oV (oR [oM 42 10,⟨some 43,none,(.invoke (.tmp 42) "Unwrap" [])⟩,oQ 44 43,oN 45 0]) (o5 3 (.loop zNO))) (oV (oR [oZ 6]) .ret))) (oV (oR [oM 13 31]) (oV (oR [oZ 6]) .ret)))))))))))
def zTQ:U1:=(oV (oR [oZ 6]) (o5 0 (.loop zOW)))
theorem zTE (h:U0)(f b:Int):WC Tryz.prog tb 79 [Br f b,zMX,.bool true] h fun r h'=>r= .bool true/\U6 h h':=by
 refine en 54 [(6,none)] zTQ ?_;refine VD [14,15,16,17,18,19,6,21,22,20,23,24,7,8,25,26,27,28,29,30,6,31,32,33,34,9,35,36,0,37,38,6,39,40,41,10,42,43,44,45,46,47,48,12,49,50,51,52,6,53,45,6,13,6] (by kernel_rfl) (fun i=>2 - i) (fun i t h'=>U6 h h'/\((i=0/\zB t 0=Br f b)\/(i=1/\zB t 0=zMX))) 0 ?_ ?_
 ·exact⟨U6.refl _,.inl ⟨rfl,U8⟩⟩
 rintro i t h1 hsame ⟨e1,⟨rfl,s0⟩|⟨rfl,s0⟩⟩
 ·unfold Br at s0;refine go ?_;refine Vu (v:= .bool false) (by kernel_rfl) ?_;refine go ?_;refine US (r:= .tuple #[.nilIface,.bool false]) (by kernel_rfl) ?_;refine go ?_;refine US (r:= .tuple #[.iface tyF (.agg #[I f,I b,I 120]),.bool true]) (by kernel_rfl) ?_;refine go ?_;refine Uv (f:=276) (by kernel_rfl) ?_;refine WC.mono (zJh h1 f b) ?_;rintro _ h2 ⟨rfl,e2⟩;refine go ?_;simp only[Gh,Qn];refine go ?_;exact zA 1 (by omega) ⟨e1.trans e2,.inr ⟨rfl,U8⟩⟩
 ·refine go ?_;refine Vu (v:= .bool true) (by kernel_rfl) ?_;refine gr ?_;exact⟨rfl,e1⟩
def zOB:U1:=(oV (oR [oZ 4]) (oV (oV (oR [oM 6 0,⟨some 7,none,(.isNil 4 false (.tmp 6))⟩,oM 8 7,oH 8 (oM 9 1),⟨some 10,some (8,false),(.isNil 4 false (.tmp 9))⟩,oO 11 8 10]) (oJ 11 (oV (oR [oM 12 0,oM 13 1,⟨some 14,none,(.binP .eql 85 (.tmp 12) (.tmp 13))⟩,oM 4 14]) .ret) .skip)) (oV (oR [oM 15 1,⟨some 16,none,(.typeOf 185 (.tmp 15))⟩,⟨some 17,none,(.invoke (.tmp 16) "Comparable" [])⟩,oM 5 17]) (oV (oR [oM 18 0,oM 19 1,oM 20 5,o3 21 79 18 19 20,oM 4 21]) .ret))))
theorem zTv (h:U0)(f b:Int):WC Tryz.prog tb 39 [Br f b,zMX] h fun r h'=>r= .bool true/\U6 h h':=by
 unfold Br;refine en 22 [(4,none)] zOB ?_;simp only[Gh,Qn];refine go ?_;simp only[Gh,Qn];refine go ?_;refine UH (v:=zMX) rfl ?_;refine go ?_;refine UV (b:=true) (by kernel_rfl) ?_;refine go ?_;have hk:=zTE h f b;unfold Br at hk;refine VA hk ?_;rintro _ h2 ⟨rfl,e2⟩;refine gr ?_;exact⟨rfl,e2⟩
theorem zRp (h:U0):WC Tryz.prog tb 39 [.nilIface,zMX] h fun r h'=>r= .bool false/\h=h':=by
 refine en 22 [(4,none)] zOB ?_;simp only[Gh,Qn];refine go ?_;refine Vu (v:= .bool false) (by kernel_rfl) ?_;refine gr ?_;exact⟨rfl,rfl⟩
def zd (T:List U3)(F:List WR):Int:=open Classical in if Z8 T F≠0 then Z8 T F else if WfP T F then 0 else 120
def zNP:U1:=(oV (oR [oB .lss 15 14 13]) (oV (oT 15 0) (oV (o5 1 (oV (oR [oM 16 14,oM 4 16]) (oV (oR [oA 2 17 1,oM 18 4,o2 19 38 17 18,oM 5 19]) (oV (oR [oM 20 5,⟨some 21,none,(.mkIface 29 (.const (.int .i64 120)))⟩,o2 22 39 20 21]) (oJ 22 (oV (oR [oN 2 120]) .ret) .skip))))) (oR [oC .add 23 14 1,oM 14 23]))))
def zT6:U1:=(oV (oR [oX 1 0,oN 2 0]) (oV (oV (oR [oA 2 6 1,o1 7 37 6,oM 3 7]) (oV (oR [oM 8 3,oC .neq 9 8 0]) (oJ 9 (oV (oR [oM 10 3,oM 2 10]) .ret) .skip))) (oV (oV (oR [oF 1 11 1,oL 12 11,oQ 13 12,oN 14 0]) (o5 0 (.loop zNP))) (oV (oR [oN 2 0]) .ret))))
theorem zLA (h:U0)(vt vf:Value)(T:List U3)(F:List WR)(E:Env h vt vf T F):
  WC Tryz.prog tb 16 [.agg #[vt,vf]] h fun r h'=>r=I (zd T F)/\U6 h h':=by
 unfold zd;have hF:=E.sm.funcs;refine en 24 [(2,none)] zT6 ?_;refine VH ?_;intro p1 h1 e1 o1;replace o1:U4 h h1 p1 [vt,vf]:=o1;have E1:=E.ext e1;refine go ?_;refine VA (zKo h1 vt vf T F E1.tt E1.hm E1.sm E1.st E1.sf) ?_;rintro _ h2 ⟨rfl,e2⟩;have o2:=o1.ext e2;have E2:=E1.ext e2;have sf2:=E2.sf;by_cases hp:Z8 T F=0;case neg=>
  rw[QJ hp];refine gr ?_;exact⟨rfl,e1.trans e2⟩
 rw[QC (fun e=>e hp),hp];refine go ?_;refine VD [15,16,4,17,18,19,5,20,21,22,2,23,14] (by kernel_rfl) (fun i=>F.length - i) (fun i t h'=>U6 h2 h'/\zB t 14=I i/\i<=F.length/\WY (∀ f:Int,0<=f->f<(i:Int)->zJ0 T F f)) 0 ?_ ?_
 ·exact⟨U6.refl _,U8,QS _,⟨fun f f0 f1=>by omega⟩⟩
 rintro i t h3 hsame ⟨e3,s14,hi,hI⟩;have o3:=o2.ext e3;have e03:=e1.trans (e2.trans e3);refine go ?_;refine VE (fun hb=> ?_) (fun hb=> ?_)<;>simp only[DB]at hb
 ·have hi':i<F.length:=by omega
  refine go ?_;refine VA (zGl h3 vt vf T F i (E2.ext e3) hp ⟨by omega,by omega⟩) ?_;rintro q h4 ⟨⟨rfl,hq⟩|⟨⟨b,rfl⟩,hq⟩,e4⟩
  ·refine go ?_;refine VQ ?_;refine go ?_;refine VA (zRp h4) ?_;rintro _ _ ⟨rfl,rfl⟩;refine go ?_;refine zA (i+1) (by omega) ⟨e3.trans e4,Wu,by omega,⟨fun f f0 f1=> ?_⟩⟩;by_cases hfi:f=i
   ·subst hfi;exact hq
   ·exact hI.out f f0 (by omega)
  ·refine go ?_;refine VQ ?_;refine go ?_;refine VA (zTv h4 i b) ?_;rintro _ h5 ⟨rfl,e5⟩;refine gr ?_;refine⟨?_,e03.trans (e4.trans e5)⟩;rw[QC (fun w=>hq (w i (by omega) (by omega)))];rfl
 ·have hii:i=F.length:=by omega
  refine gr ?_;refine⟨?_,e03⟩;rw[QJ (show WfP T F from fun f f0 f1=>hI.out f f0 (by omega))];rfl
theorem z8 {T:List U3}{F:List WR}(h:zd T F=0):Z8 T F=0/\WfP T F:=by
 unfold zd at h;split at h
 ·rename_i hp;exact absurd h hp
 ·rename_i hp;split at h
  ·rename_i hw;exact⟨Classical.not_not.1 hp,hw⟩
  ·cases h
theorem zBa {α:Type}{a b:List α}{i:Nat}{d:α}(h:i<a.length):(a++b).getD i d=a.getD i d:=by
 rw[QK,QK,Qy h]
theorem zAj {α:Type}{a b:List α}{i:Nat}{d:α}(h:a.length<=i):(a++b).getD i d=b.getD (i - a.length) d:=by
 rw[QK,QK,GF h]
theorem zAa {α β:Type}{l:List α}{i:Nat}{f:α->β}{a:α}{b:β}(h:i<l.length):(l.map f).getD i b=f (l.getD i a):=by
 rw[QK,QK,GU,QB h];rfl
set_option maxRecDepth 100000
set_option maxRecDepth 100000
theorem zIE {α:Type}{l:List α}{f:α->List Int}(h:∀ x∈l,(f x).length<=32):(l.map f).flatten.length<=32 * l.length:=by
 induction l with
 |nil=>simp
 |cons a l ih=>
  have:=h a (by simp);have:=ih fun x hx=>h x (by simp[hx]);simp only[Qm,GP,QM,GT];omega
theorem zMy {α:Type}[Inhabited α]{l:List α}{f:α->List Int}{i:Nat}(h:i<l.length):((l.take (i+1)).map f).flatten=((l.take i).map f).flatten++f (l.getD i default):=by
 rw[Q4,QB h,Q9,List.flatten_append];simp[List.getD,QB h]
set_option maxRecDepth 100000
def zQ7:U1:=(oV (oR [oN 4 0]) (oV (oV (oR [oM 6 0,o1 7 71 6,oM 5 7]) (oV (oR [oM 8 5,oC .neq 9 8 0]) (oJ 9 (oV (oR [oM 10 5,oM 4 10]) .ret) .skip))) (oV (oV (oR [oM 11 0,oQ 12 11,oM 13 1,⟨some 14,none,(.buildSlice 1 1 [(.int .i64 0)] [(0,1,(.tmp 13))])⟩,o2 15 167 12 14,oW 16 15]) (oJ 16 (oV (oR [oN 4 2]) .ret) .skip)) (oV (oR [oN 4 0]) .ret))))
theorem zFU (h:U0)(vt:Value)(T:List U3)(k:Int)(st:Ws h vt T)(hT:T.length<=100)(hp:∀ x∈T,x.parts.length<=100)(hc:yo T=0)(hk:0<=k/\k<(T.length:Int)):
  WC Tryz.prog tb 190 [vt,I k] h fun r h'=>r=I 0/\U6 h h':=by
 obtain⟨t1,t2,t3,rfl⟩:=zG st;have ht:yd (T.length:Int) [k]=true:=by unfold yd;simp[hk.1,hk.2]
 refine en 17 [(4,none)] zQ7 ?_;refine VA (zII h _ T st hT hp) ?_;rintro _ h2 ⟨rfl,e2⟩;rw[hc];have st2:=Ws.ext st e2;refine go ?_;refine WO.bl [k] ?_;intro v3 h3 e3 o3;refine go ?_;refine VA (zAX h3 v3 (T.length:Int) [k] o3.sl (by simp)) ?_;rintro _ h4 ⟨rfl,e4⟩;rw[ht];refine gr ?_;exact⟨rfl,e2.trans (e3.trans e4)⟩
def trF {α:Type}(T:List U3)(a:Int->α)(s:List α->α)(m:Nat->α->α):Nat->Int->α
 |0,k=>a k
 |n+1,k=>let x:=T.getD k.toNat default
  if x.kind=4 then s (x.parts.map (trF T a s m n)) else if x.kind=5 then m x.many.toNat (trF T a s m n x.elem) else a k
def trL {α:Type}(T:List U3)(a:Int->α)(s:List α->α)(m:Nat->α->α)(k:Nat):α:=trF T a s m (k+1) k
theorem zFH {T:List U3}{k:Nat}(h:ZO T k)(h4:(T.getD k default).kind=4):(T.getD k default).parts.length<=8/\∀ p∈(T.getD k default).parts,0<=p/\p<(k:Int):=by
 unfold ZO zFJ at h;rcases h with h|h|h|h|h
 ·omega
 ·omega
 ·omega
 ·exact h.2.2.2.2
 ·omega
theorem zHU {T:List U3}{k:Nat}(h:ZO T k)(h5:(T.getD k default).kind=5):0<=(T.getD k default).elem/\(T.getD k default).elem<(k:Int)/\1<=(T.getD k default).many/\(T.getD k default).many<=16:=by
 unfold ZO zFJ at h;rcases h with h|h|h|h|h<;>omega
section
variable {α:Type}{T:List U3}{a:Int->α}{s:List α->α}{m:Nat->α->α}
theorem zHR:∀ (n q:Nat) (k:Nat),k<n->k<q->(∀ j,j<=k->ZO T j)->trF T a s m n k=trF T a s m q k:=by
 intro n;induction n with
 |zero=>intro m k h;omega
 |succ n ih=>
  intro q k h1 h2 hM;obtain⟨q,rfl⟩:∃ r,q=r+1:=⟨q - 1,by omega⟩;have hk:=hM k (QE _);unfold trF;simp only[QU];split
  ·rename_i h4;congr 1;refine GY fun p hp=> ?_;have hp':=(zFH hk h4).2 p hp;obtain⟨r,rfl⟩:∃ r:Nat,p=r:=⟨p.toNat,by omega⟩;exact ih q r (by omega) (by omega) fun j hj=>hM j (by omega)
  ·split
   ·rename_i h4 h5;have hp':=zHU hk h5;obtain⟨r,hr⟩:∃ r:Nat,(T.getD k default).elem=r:=⟨(T.getD k default).elem.toNat,by omega⟩;rw[hr,ih q r (by omega) (by omega) fun j hj=>hM j (by omega)]
   ·rfl
theorem Y3 {k:Nat}(hM:∀ j,j<=k->ZO T j):trL T a s m k=let x:=T.getD k default
  if x.kind=4 then s (x.parts.map fun p=>trL T a s m p.toNat) else if x.kind=5 then m x.many.toNat (trL T a s m x.elem.toNat) else a k:=by
 have hk:=hM k (QE _);conv=>lhs;unfold trL;rw[trF]
 simp only[QU];split
 ·rename_i h4;congr 1;refine GY fun p hp=> ?_;have hp':=(zFH hk h4).2 p hp;obtain⟨r,rfl⟩:∃ r:Nat,p=r:=⟨p.toNat,by omega⟩;exact zHR _ _ r (by omega) (by omega) fun j hj=>hM j (by omega)
 ·split
  ·rename_i h4 h5;have hp':=zHU hk h5;obtain⟨r,hr⟩:∃ r:Nat,(T.getD k default).elem=r:=⟨(T.getD k default).elem.toNat,by omega⟩;rw[hr,QU,zHR k (r+1) r (by omega) (by omega) fun j hj=>hM j (by omega)];rfl
  ·rfl
end
def yO (T:List U3)(k:Nat):List Int:=trL T (fun k=>[k]) List.flatten (fun _ l=>l) k
def zCH:List (List Int×Nat)->List Int×Nat
 |[]=>([],0)
 |x::r=>(x.1++(zCH r).1.map (fun i=>(x.2:Int)+i),x.2+(zCH r).2)
def Bw (T:List U3)(k:Nat):List Int×Nat:=trL T (fun _=>([0],1)) zCH (fun n p=>((List.replicate n p.1).flatten,p.2)) k
theorem zGD:∀ (l:List (List Int×Nat)) (x:List Int×Nat),zCH (l++[x])=((zCH l).1++x.1.map (fun i=>((zCH l).2:Int)+i),(zCH l).2+x.2)
 |[],x=>by simp[zCH]
 |y::l,x=>by
  simp only[G6,zCH,zGD l x,Q9,List.map_map,QZ,JG];congr 3;refine GY fun i _=> ?_;simp only[Function.comp];omega
theorem zKR {T:List U3}:∀ (n k:Nat),k<n->(∀ j,j<=k->ZO T j)->(Bw T k).2=(yO T k).length/\(Bw T k).1.length=(BN T k).length/\∀ i∈(Bw T k).1,0<=i/\i<((yO T k).length:Int):=by
 intro n;induction n with
 |zero=>intro k h;omega
 |succ n ih=>
  intro k hk hM;have hm:=hM k (QE _);unfold Bw yO;rw[Y3 hM,Y3 hM,zA0 hM];simp only;split
  ·rename_i h4;have hp:=(zFH hm h4).2;generalize (T.getD k default).parts=l at *;have hI:∀ p∈l,_:=fun p hpp=>ih p.toNat (by have:=hp p hpp;omega) fun j hj=>hM j (by have:=hp p hpp;omega);clear hp;induction l with
   |nil=>exact⟨rfl,rfl,fun i hi=>by cases hi⟩
   |cons p l ihl=>
    obtain⟨a1,a2,a3⟩:=ihl fun q hq=>hI q (Qh _ hq);obtain⟨b1,b2,b3⟩:=hI p (Qb ..);unfold Bw yO at b1 b3;unfold Bw at b2;simp only[Qm,zCH,GP,QM,Qp];refine⟨by omega,by omega,fun i hi=> ?_⟩;rcases Qi.1 hi with hi|hi
    ·have:=b3 i hi;omega
    ·obtain⟨j,hj,rfl⟩:=Qt.1 hi;have:=a3 j hj;omega
  ·split
   ·rename_i h4 h5;have hp:=zHU hm h5;obtain⟨b1,b2,b3⟩:=ih (T.getD k default).elem.toNat (by omega) fun j hj=>hM j (by omega);unfold Bw yO at b1 b3;unfold Bw at b2;refine⟨b1,?_,fun i hi=> ?_⟩
    ·simp only[zBR];rw[b2]
    ·obtain⟨l,hl,hi⟩:=List.mem_flatten.1 hi;rw[List.eq_of_mem_replicate hl]at hi;exact b3 i hi
   ·exact⟨rfl,rfl,fun i hi=>by simp at hi;subst hi;simp⟩
theorem zCx {T:List U3}:∀ (n k:Nat),k<n->(∀ j,j<=k->ZO T j)->(yO T k).length<=(BN T k).length:=by
 intro n;induction n with
 |zero=>intro k h;omega
 |succ n ih=>
  intro k hk hM;have hm:=hM k (QE _);unfold yO;rw[Y3 hM,zA0 hM];simp only;split
  ·rename_i h4;have hp:=(zFH hm h4).2;generalize (T.getD k default).parts=l at *;have hI:∀ p∈l,_:=fun p hpp=>ih p.toNat (by have:=hp p hpp;omega) fun j hj=>hM j (by have:=hp p hpp;omega);clear hp;induction l with
   |nil=>exact QE _
   |cons p l ihl=>
    have a:=ihl fun q hq=>hI q (Qh _ hq);have b:=hI p (Qb ..);unfold yO at b;simp only[Qm,GP,QM];omega
  ·split
   ·rename_i h4 h5;have hp:=zHU hm h5;have b:=ih (T.getD k default).elem.toNat (by omega) fun j hj=>hM j (by omega);unfold yO at b;rw[zBR];refine QO b ?_;have:1<=(T.getD k default).many.toNat:=by omega
    exact Nat.le_mul_of_pos_left _ this
   ·exact QE _
def wkL (T:List U3)(o:Bool)(s:Int)(k:Nat):List Int:=if o then yO T k else (Bw T k).1.map fun i=>s+i
theorem zAK {T:List U3}{k:Nat}(hM:∀ j,j<=k->ZO T j):yO T k=if (T.getD k default).kind=4 then ((T.getD k default).parts.map fun p=>yO T p.toNat).flatten else if (T.getD k default).kind=5 then yO T (T.getD k default).elem.toNat else [(k:Int)]:=Y3 hM
theorem zHs {T:List U3}{k:Nat}(hM:∀ j,j<=k->ZO T j):Bw T k=if (T.getD k default).kind=4 then zCH ((T.getD k default).parts.map fun p=>Bw T p.toNat) else if (T.getD k default).kind=5 then ((List.replicate (T.getD k default).many.toNat (Bw T (T.getD k default).elem.toNat).1).flatten,(Bw T (T.getD k default).elem.toNat).2) else ([0],1):=Y3 hM
def zFO (T:List U3)(o:Bool)(s:Int)(ps:List Int):List Int:=if o then (ps.map fun p=>yO T p.toNat).flatten else (zCH (ps.map fun p=>Bw T p.toNat)).1.map fun i=>s+i
theorem zI7 {T:List U3}{o:Bool}{s:Int}{k:Nat}(hM:∀ j,j<=k->ZO T j):wkL T o s k=if (T.getD k default).kind=4 then zFO T o s (T.getD k default).parts else if (T.getD k default).kind=5 then (if o then yO T (T.getD k default).elem.toNat else (List.replicate (T.getD k default).many.toNat (wkL T o s (T.getD k default).elem.toNat)).flatten) else [if o then (k:Int) else s]:=by
 conv=>lhs;unfold wkL
 rw[zAK hM,zHs hM];cases o with
 |true=>unfold zFO;simp only[Q2]
 |false=>
  unfold zFO;simp only[Qn,Gh];split
  ·rfl
  ·split
   ·rw[List.map_flatten,List.map_replicate];rfl
   ·simp
theorem zKk {T:List U3}:∀ {ps:List Int},(∀ p∈ps,(Bw T p.toNat).2=(yO T p.toNat).length)->(zCH (ps.map fun p=>Bw T p.toNat)).2=(ps.map fun p=>yO T p.toNat).flatten.length
 |[],_=>rfl
 |p::ps,h=>by
  simp only[Qm,zCH,GP,QM];rw[zKk fun q hq=>h q (Qh _ hq),h p (Qb ..)]
theorem zM9 {T:List U3}{o:Bool}{s q:Int}{ps:List Int}(h:∀ p∈ps,(Bw T p.toNat).2=(yO T p.toNat).length):
  zFO T o s (ps++[q])=zFO T o s ps++wkL T o (s+((ps.map fun p=>yO T p.toNat).flatten.length:Int)) q.toNat:=by
 unfold zFO wkL;cases o with
 |true=>simp
 |false=>
  simp only[Qn,Gh,Q9,Qm,Gf];rw[zGD,zKk h];simp only[Q9,List.map_map];congr 1;refine GY fun i _=> ?_;simp only[Function.comp];omega
theorem zUS {T:List U3}{o:Bool}{s:Int}{k:Nat}(hM:∀ j,j<=k->ZO T j):(wkL T o s k).length<=(BN T k).length:=by
 unfold wkL;split
 ·exact zCx (k+1) k (Q7 _) hM
 ·rw[Qp,(zKR (k+1) k (Q7 _) hM).2.1];exact QE _
def WN (p v:Value)(h h':U0)(v':Value):Prop:=h.n<=h'.n/\(∀ g,g<h.n->Bj p≠some g->Bj v≠some g->h'.get g=h.get g)/\∀ b,Bj v'=some b->Bj v=some b\/h.n<=b
theorem WN.refl (p v:Value)(h:U0):WN p v h h v:=⟨QE _,fun _ _ _ _=>rfl,fun _ h=> .inl h⟩
theorem WN.trans {p v v1 v2:Value}{h h1 h2:U0}(a:WN p v h h1 v1)(b:WN p v1 h1 h2 v2):WN p v h h2 v2:=by
 refine⟨QO a.1 b.1,fun g hg h1 h2=> ?_,fun k hk=> ?_⟩
 ·rw[b.2.1 g (QG hg a.1) h1 fun e=> ?_,a.2.1 g hg h1 h2];rcases a.2.2 g e with e|e
  ·exact h2 e
  ·omega
 ·rcases b.2.2 k hk with e|e
  ·exact a.2.2 k e
  ·exact .inr (QO a.1 e)
theorem WN.ext {p v:Value}{h h':U0}(e:U6 h h'):WN p v h h' v:=⟨e.n,fun g hg _ _=>e.get g hg,fun _ h=> .inl h⟩
theorem VO {h0 h h':U0}{p q v v':Value}{cs:List Value}(o:U4 h0 h q cs)(k:WN p v h h' v')(d1:WI p q)(d2:WI v q):U4 h0 h' q cs/\WI v' q:=by
 have hw:=o.within;obtain⟨g,g1,g2,rfl,g3⟩:=o;refine⟨⟨g,g1,QG g2 k.1,rfl,(k.2.1 g g2 (fun e=>d1 g e rfl) fun e=>d2 g e rfl).trans g3⟩,fun b hb hq=> ?_⟩;cases hq;rcases k.2.2 _ hb with e|e
 ·exact d2 _ e rfl
 ·have e:h.n<=g:=e;omega
end
end Go.Proofs.YtmejfcakhpihlaaGreatDoor
