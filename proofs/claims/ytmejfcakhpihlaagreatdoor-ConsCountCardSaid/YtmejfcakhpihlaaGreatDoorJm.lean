/- What functions of the program come to in the abstract machine, and plain laws about it; no statement of the seat is proved in this text. -/
import Derived.Test.YtmejfcakhpihlaaGreatDoorJl
import Derived.Test.YtmejfcakhpihlaaGreatDoorAmU
import Derived.Test.YtmejfcakhpihlaaGreatDoorAmV
import Derived.Test.YtmejfcakhpihlaaGreatDoorJh
set_option linter.unusedVariables false
set_option linter.unusedSimpArgs false
set_option maxHeartbeats 2000000
namespace Go.Proofs.YtmejfcakhpihlaaGreatDoor
noncomputable section
open Go.Am
set_option maxRecDepth 100000
section
variable {P:Program}{tab:Wd}{t:U4 Value}{h:Uz}{ds:List Deferred}{rd:Option Nat}{l:List U1}{Q:WA->Uz->Prop}
theorem Uj {c d:Nat}{cs zero:List Value}{w:Value}{x:Operand}(k:∀ h',U5 h h'->h'.get h.n=some (.row cs true 0)->h.n<h'.n->WO P tab l ⟨t.set d (.slice (some ⟨h.n,0,none⟩) 1 c),ds,rd⟩ h' Q)(hx:WE t x w:=by exact zk)(hw:w.cells=cs.toArray:=by rfl)(hc:cs.length=c:=by rfl)(hz:zero.length=c:=by rfl):
  WO P tab (⟨some d,none,.buildSlice 1 c zero [(0,c,x)]⟩::l) ⟨t,ds,rd⟩ h Q:=by
 have hx:ev t x=w:=hx;exact WO.op (.slice (some ⟨h.n,0,none⟩) 1 c) (h.push (.row cs true 0)) rfl (by
  simp only[U9,zg,Qm,Ga,hx,Yy hw hc hz,QK];rfl) (k _ (Zf _ _) (zV _ _) (GD _))
end
theorem zT4 {T:List U2}:∀ (n k:Nat),k<n->(∀ j,j<=k->ZV T j)->∀ x∈yX T k,0<=x/\x<=(k:Int):=by
 intro n;induction n with
 |zero=>intro k h;omega
 |succ n ih=>
  intro k hk hM x hx;have hm:=hM k (QE _);rw[zBL hM]at hx;split at hx
  ·rename_i h4;have hp:=(zGe hm h4).2;obtain⟨l,hl,hx⟩:=List.mem_flatten.1 hx;obtain⟨p,hpp,rfl⟩:=Q6.1 hl;have:=hp p hpp;have:=ih p.toNat (by omega) (fun j hj=>hM j (by omega)) x hx;omega
  ·split at hx
   ·rename_i h4 h5;have hp:=zI2 hm h5;have:=ih (T.getD k default).elem.toNat (by omega) (fun j hj=>hM j (by omega)) x hx;omega
   ·rw[QW]at hx;subst hx;omega
section
variable {h hB:Uz}{b:Nat}{vt vf pu po vS vR vK vO:Value}{T:List U2}{F:List WP}{ks:List Int}{f r:Int}{out:List WU}
def zN9:U0:=(oV (oR [oB .lss 22 21 20]) (oV (oT 22 0) (oV (o5 1 (oV (oR [oI 3 23 19 21,oA 3 24 23,⟨some 6,none,(.alloc [(.int .i64 0),(.int .i64 0),(.int .i64 0)])⟩,oS 3 6 24]) (oV (oR [oM 25 3,oM 26 4,oQ 27 26,oB .add 28 25 27,oM 3 28]) (oV (o6 [oM 30 0,(⟨some 31,none,(.nilCheck (.tmp 30))⟩,[]),oF 0 32 31,oF 0 33 32,oL 34 33,oF 2 35 6,oL 36 35,o2 37 80 34 36,oM 29 37,oE 38 29 0,oE 39 29 1,oM 4 38]) (oV (o6 [oF 0 40 6,oL 41 40,oM 42 0,(⟨some 43,none,(.nilCheck (.tmp 42))⟩,[]),oF 6 44 43,oL 45 44,oB .eql 46 41 45,oM 47 46,oG 47 (oF 1 48 6),oG 47 (oL 49 48),oG 47 (oM 50 0),(⟨some 51,some (47,true),(.nilCheck (.tmp 50))⟩,[]),oG 47 (oF 7 52 51),oG 47 (oL 53 52),oG 47 (oB .eql 54 49 53),oP 55 47 54]) (oJ 55 (.exit 0) .skip)))))) (oR [oC .add 56 21 1,oM 21 56]))))
def zOq:U0:=(oV (oR [oB .lss 77 76 75]) (oV (oT 77 2) (oV (o5 3 (oV (oR [oM 78 76,oI 1 79 74 76,oL 80 79,oM 7 78,oM 8 80]) (oV (oR [oM 81 0,⟨some 82,none,(.nilCheck (.tmp 81))⟩,oF 4 83 82,oL 84 83,oM 85 2,oB .add 86 84 85,oM 87 3,oB .add 88 86 87,oM 89 7,oB .add 90 88 89,oM 9 90]) (oV (oR [oM 91 0,oM 92 8,o2 93 29 91 92,oW 94 93]) (oJ 94 (oR [oM 95 0,⟨some 96,none,(.nilCheck (.tmp 95))⟩,oF 8 97 96,oL 98 97,oM 99 9,⟨some 100,none,(.build [(.int .u8 0),(.int .i64 0),(.int .i64 0),(.int .i64 0),(.slice none 0 0)] [(0,1,(.const (.int .u8 1))),(1,1,(.tmp 99))])⟩,⟨some 101,none,(.buildSlice 1 5 [(.int .u8 0),(.int .i64 0),(.int .i64 0),(.int .i64 0),(.slice none 0 0)] [(0,5,(.tmp 100))])⟩,⟨some 102,none,(.call (.tmp 98) [(.tmp 101)])⟩]) .skip))))) (oR [oC .add 103 76 1,oM 76 103]))))
def zUO:U0:=(oV (oR [oM 10 0,⟨some 11,none,(.nilCheck (.tmp 10))⟩,oF 0 12 11,oF 1 13 12,oL 14 13,oQ 15 14,oM 2 15,oN 3 0]) (oV (oR [oK 4 (.slice none 0 0)]) (oV (oV (oR [oM 16 0,⟨some 17,none,(.nilCheck (.tmp 16))⟩,oF 2 18 17,oL 19 18,oQ 20 19,oN 21 0]) (o5 0 (.loop zN9))) (oV (o6 [oM 57 0,(⟨some 58,none,(.nilCheck (.tmp 57))⟩,[]),oF 8 59 58,oL 60 59,oM 61 0,oM 62 0,(⟨some 63,none,(.nilCheck (.tmp 62))⟩,[]),oF 7 64 63,oL 65 64,(o2 66 30 61 65,[3]),oM 67 2,(⟨some 68,none,(.bin .add (.const (.int .i64 1)) (.tmp 67))⟩,[]),oM 69 3,oB .add 70 68 69,(⟨some 71,none,(.build [(.int .u8 0),(.int .i64 0),(.int .i64 0),(.int .i64 0),(.slice none 0 0)] [(0,1,(.const (.int .u8 1))),(1,1,(.tmp 66)),(3,1,(.tmp 70))])⟩,[]),(⟨some 72,none,(.buildSlice 1 5 [(.int .u8 0),(.int .i64 0),(.int .i64 0),(.int .i64 0),(.slice none 0 0)] [(0,5,(.tmp 71))])⟩,[]),(⟨some 73,none,(.call (.tmp 60) [(.tmp 72)])⟩,[])]) (oV (oR [oM 74 4,oQ 75 74,oN 76 0]) (o5 2 (.loop zOq)))))))
theorem zOG (C:CE hB b vt vf pu po vS vR T F)(M:CM hB h b vt vf pu po vS vR T F vK vO ks f r out)(hf:0<=f/\f<(F.length:Int))(hr:0<=r/\r<=1000)(hl:out.length<=90000):
  WC Tryz.prog tb 52 [pu] h fun _ h'=>CP hB b vt vf pu po vS vR T F vK vO ks f r (out++zGE T F f r (Y9 T f r (yj T F) 0 [])) h h':=by
 have hp:=(yV C.hs).1;obtain⟨hc,hF1,hF8,hfn⟩:=yo hp;have hlow:=zGq hc;have hty:=zFa C.hs;have hsl:=zJi C.hs;have hA:=(zEA C.hs hf).2.2.2.2;have hfl:∀ k:Int,0<=k->k<(T.length:Int)->(yX T k.toNat).length<=32/\∀ x∈yX T k.toNat,0<=x/\x<(T.length:Int):=fun k k0 k1=>by
  have h1:=fun j (hj:j<=k.toNat)=>(hlow j (by omega)).1;refine⟨QO (zD3 (k.toNat+1) k.toNat (GD _) h1) (hlow k.toNat (by omega)).2,fun x hx=> ?_⟩;have:=zT4 (k.toNat+1) k.toNat (GD _) h1 x hx;omega
 obtain⟨gu,_,_,rfl,_⟩:=id M.ou;have sS:=M.oS.sl;obtain⟨s1,s2,s3,rfl⟩:=zF sS;obtain⟨r1,r2,r3,rfl⟩:=WZ.shape M.oR.sl;obtain⟨k1,k2,k3,rfl⟩:=WZ.shape M.oK.sl;obtain⟨t1,t2,t3,rfl⟩:=zF C.E.st;obtain⟨f1,f2,f3,rfl⟩:=zF (Wn.ext C.E.sf M.e);have sf0:=Wn.ext C.E.sf M.e;have o0:=M.ou;replace hlow:=WW.mk hlow;replace hty:=WW.mk hty;replace hfl:=WW.mk hfl;replace hfn:=WW.mk hfn;generalize hq:Y9 T f r (yj T F) 0 []=q;refine en 104 [] zUO ?_;refine WX.cutX [22,23,24,6,25,26,27,28,3,30,31,32,33,34,35,36,37,29,38,39,4,40,41,42,43,44,45,46,47,48,49,50,51,52,53,54,55,56,21] (by kernel_rfl) (fun t h'=>U5 h h'/\zB t 3=I q.1/\(0<=q.1/\q.1<=40000)/\(∀ x∈q.2,0<=x/\x<(T.length:Int))/\q.2.length<=40/\∃ v,zB t 4=v/\WH h h' v q.2) ?_ ?_
 ·refine VD [22,23,24,6,25,26,27,28,3,30,31,32,33,34,35,36,37,29,38,39,4,40,41,42,43,44,45,46,47,48,49,50,51,52,53,54,55,56,21] (by kernel_rfl) (fun i=>(yj T F).length - i) (fun i t h1=>zB t 21=I i/\i<=(yj T F).length/\U5 h h1/\∃ a v l,zB t 3=I a/\zB t 4=v/\WH h h1 v l/\Y9 T f r ((yj T F).drop i) a l=q/\0<=a/\a+l.length<=32 * i/\l.length<=32/\∀ x∈l,0<=x/\x<(T.length:Int)) 0 ?_ ?_
  ·exact⟨U7,QT _,U5.refl _,0,_,[],U7,U7,.inl ⟨rfl,rfl⟩,by simpa using hq,by omega,by simp,by simp,fun x hx=>by cases hx⟩
  rintro i t h1 hsame ⟨s21,hi,e1,a,v,l,sl3,sl4,ov,hfq,a0,a1,ll,lin⟩;have o1:=M.ou.ext e1;have sS1:=SlS.ext sS e1;have slv:=ov.sl;obtain⟨v1,v2,v3,rfl⟩:=WZ.shape slv;refine go ?_;refine VE (fun hb=> ?_) (fun hb=> ?_)<;>simp only[DB]at hb
  ·have hi':i<(yj T F).length:=by omega
   obtain⟨cs,hcs,pc,hsS⟩:=ZC (i:=i) sS1 hi';have htyi:=hty.out _ (zK hi');have hdr:(yj T F).drop i=(yj T F).getD i default::(yj T F).drop (i+1):=by
    rw[GH hi'];simp[List.getD,QD hi']
   rw[hdr]at hfq;clear hdr;generalize (yj T F).getD i default=s at *;have hcs:cs=[I s.fn,I s.nr,I s.ty]:=hcs;subst hcs;have hfs:=hfl.out s.ty htyi.1 htyi.2;unfold Y9 at hfq;refine go ?_;refine WO.al ?_;intro p6 h2 e2 o6;refine go ?_;refine VG o6 e2 ?_;intro h3 e3 o6 _;have e13:=e1.trans e3;have o3:=M.ou.ext e13;have slv3:=slv.ext e3;refine go ?_;refine VC 0 rfl rfl ?_;have oY:U3 hB (inC (zC 0 h3)) (.pointer (some ⟨gu,0,none⟩)) [.slice t1 t2 t3,.slice f1 f2 f3,.slice s1 s2 s3,.slice r1 r2 r3,I (yC T F),.slice k1 k2 k3,I f,I r,Zc po]:=o3;have o6Y:U3 h1 (inC (zC 0 h3)) p6 [I s.fn,I s.nr,I s.ty]:=o6;have stY:Wr (inC (zC 0 h3)) (.slice t1 t2 t3) T:=zI7 0 (Wr.ext C.E.st (M.e.trans e13));refine WM ?_;refine VA (zFd _ _ T s.ty stY C.E.sm.types C.E.sm.parts hc htyi (QE _)) ?_;rintro _ X ⟨⟨w,rfl,oW⟩,eX⟩;obtain⟨w1,w2,w3,rfl⟩:=WZ.shape oW.sl;refine nE eX ?_;refine WM ?_;have eXq:=(zZ 0 h3).trans (yr (h:=h3) eX);have eX':U5 h3 (yu h3 (inC X)):=eXq;clear eXq;have oW':WH h (yu h3 (inC X)) (.slice w1 w2 w3) (yX T s.ty.toNat):=by
    rcases oW with ⟨e,z⟩|⟨g,g1,g2,g3,g4⟩
    ·exact .inl ⟨e,z⟩
    ·have g1:h3.n+0<=g:=g1;have:=e13.n;exact .inr ⟨g,by omega,g2,g3,g4⟩
   have o6':U3 h1 (yu h3 (inC X)) p6 [I s.fn,I s.nr,I s.ty]:=o6.ext eX';have e15:=e13.trans eX';generalize yu h3 (inC X)=h4 at *;have o4:=M.ou.ext e15;by_cases c1:s.fn=f
   ·by_cases c2:s.nr=r
    ·rw[QJ ⟨c1,c2⟩]at hfq;subst hfq;refine go ?_;refine zFq ?_;exact⟨e15,U7,by simp only;omega,hfs.2,by simp only;omega,_,U7,oW'⟩
    ·rw[QB (fun e=>c2 e.2)]at hfq;refine go ?_;exact zA (i+1) (by omega) ⟨Wo,by omega,e15,_,_,_,U7,U7,oW',hfq,by omega,by omega,hfs.1,hfs.2⟩
   ·rw[QB (fun e=>c1 e.1)]at hfq;refine go ?_;exact zA (i+1) (by omega) ⟨Wo,by omega,e15,_,_,_,U7,U7,oW',hfq,by omega,by omega,hfs.1,hfs.2⟩
  ·have hii:i=(yj T F).length:=by omega
   subst hii;rw[List.drop_length]at hfq;unfold Y9 at hfq;subst hfq;refine go ?_;refine zFq ?_;exact⟨e1,U7,by simp only;omega,lin,by simp only;omega,_,U7,ov⟩
 intro t' h1 hsame ⟨e1,q3,q0,qin,ql,v,q4,ov⟩;obtain⟨v1,v2,v3,rfl⟩:=WZ.shape ov.sl;have M1:=M.ext e1;clear hq;obtain⟨qa,ql'⟩:=q;simp only at *;have hv1:WI po (.slice v1 v2 v3):=(VF ov.since' M.oo.within).symm;have hv2:WI vO (.slice v1 v2 v3):=(VF ov.since' fun g hg=>(ZB M.oO g hg).2).symm;refine go ?_;refine VC 1 rfl rfl ?_;have oY:U3 hB (inC (zC 1 h1)) (.pointer (some ⟨gu,0,none⟩)) [.slice t1 t2 t3,.slice f1 f2 f3,.slice s1 s2 s3,.slice r1 r2 r3,I (yC T F),.slice k1 k2 k3,I f,I r,Zc po]:=ye 1 (M1.ou);have sY:WJ (inC (zC 1 h1)) (.slice r1 r2 r3) (Bi T F):=YR 1 (M1.oR.sl);refine WM ?_;refine VA (yw oY sY C.hs hf r hr) ?_;rintro _ _ ⟨rfl,rfl⟩;refine WO.nil (ZU zw ?_);refine WM ?_;refine WN.add (X:=inC (zC 1 _)) (⟨1,We T F f r,0,1+F.length+qa,[]⟩:WU) (fun _=>False) C M1 (U5.refl _) (by omega) Z7 (fun _ h=>h.elim) ?_;intro h2 vO2 t2' hsame2 M2 kk2;have ov2:=Ys ov kk2 hv1 hv2;have hv3:WI vO2 (.slice v1 v2 v3):=fun g h1 h2=>by
  rcases kk2.2.2 g h1 with h|h
  ·exact hv2 g h h2
  ·have:=ov.within g h2;omega
 replace qin:=WW.mk qin;refine go ?_;refine VD [77,78,79,80,7,8,81,82,83,84,85,86,87,88,89,90,9,91,92,93,94,95,96,97,98,99,100,101,102,103,76] (by kernel_rfl) (fun i=>ql'.length - i) (fun i t h3=>zB t 76=I i/\i<=ql'.length/\∃ vO',CM hB h3 b (.slice t1 t2 t3) (.slice f1 f2 f3) (.pointer (some ⟨gu,0,none⟩)) po (.slice s1 s2 s3) (.slice r1 r2 r3) T F (.slice k1 k2 k3) vO' ks f r (out++[⟨1,We T F f r,0,1+F.length+qa,[]⟩]++(List.range i).flatMap fun (i:Nat)=>if BD T (ql'.getD i 0) then [] else [⟨1,yC T F+F.length+qa+i,0,0,[]⟩])/\WL po vO2 h2 h3 vO') 0 ?_ ?_
 ·exact⟨U7,QT _,vO2,by simpa using M2,WL.refl ..⟩
 rintro i t h3 hsame3 ⟨s76,hi,vO',M3,k3'⟩;have ov3:=(Ys ov2 k3' hv1 hv3).sl;refine go ?_;refine VE (fun hb=> ?_) (fun hb=> ?_)<;>simp only[DB]at hb
 ·have hi':i<ql'.length:=by omega
  have hx:=qin.out _ (zq hi');have o3:=M3.ou;refine go ?_;refine VA (YL M3.ou (Wr.ext C.E.st M3.e) (ql'.getD i 0) hx) ?_;rintro _ _ ⟨rfl,rfl⟩;have hsn:=YC (fun (i:Nat)=>if BD T (ql'.getD i 0) then [] else [(⟨1,yC T F+F.length+qa+i,0,0,[]⟩:WU)]) i;cases hpl:BD T (ql'.getD i 0)with
  |true=>
   rw[hpl]at hsn;refine go ?_;refine zA (i+1) (by omega) ⟨Wo,by omega,vO',?_,k3'⟩;rw[hsn];simpa using M3
  |false=>
   rw[hpl]at hsn;refine go ?_;refine Uj (cs:=[.int .u8 1,I (yC T F+F.length+qa+i),I 0,I 0,.slice none 0 0]) ?_;intro h4 e4 g4 n4;have M4:=M3.ext e4;have o4:=M4.ou;refine go ?_;have hcall:=WV.func (args:=[.slice (some ⟨h3.n,0,none⟩) 1 5]) (first:=#[]) (cap:=#[po]) (zKa hB h4 b h3.n po vO' _ ⟨1,yC T F+F.length+qa+i,0,0,[]⟩ _ (fun _=>False) M4.e C.bn M4.hb M4.oo C.bo M4.oO (by have:=YT (fun (i:Nat)=>if BD T (ql'.getD i 0) then [] else [(⟨1,yC T F+F.length+qa+i,0,0,[]⟩:WU)]) (fun _=>zAE _ _) i;simp only[QM,Qa];omega) Z7 (fun _ h=>h.elim) (fun _ _ _ _ h=>h) rfl rfl g4 n4);refine VN (fv:=Zc po) hcall ?_;rintro _ h5 ⟨vO5,e5,oo5,oO5,kk5,_⟩;have M5:=M4.add C kk5 e5 oo5 oO5;refine go ?_;refine zA (i+1) (by omega) ⟨Wo,by omega,vO5,?_,k3'.trans ((WL.ext e4).trans kk5)⟩;rw[hsn,<-QZ];exact M5
 ·have hii:i=ql'.length:=by omega
  subst hii;refine go ?_;refine W5 ?_;refine⟨vO',?_,(WL.ext e1).trans (kk2.trans k3')⟩;unfold zGE zKC;simpa using M3
end
set_option maxRecDepth 100000
section
variable {h hB:Uz}{b:Nat}{vt vf pu po vS vR vK vO:Value}{T:List U2}{F:List WP}{ks:List Int}{f r:Int}{out:List WU}
def zOo:U0:=(oV (oR [oB .lss 28 27 26]) (oV (oT 28 0) (oV (o5 1 (oV (oR [oM 29 27,oI 1 30 25 27,oL 31 30,oM 5 29,oM 6 31]) (oV (oR [oM 32 0,oM 33 6,o2 34 29 32 33,oW 35 34]) (oJ 35 (o6 [oM 36 0,(⟨some 37,none,(.nilCheck (.tmp 36))⟩,[]),oF 8 38 37,oL 39 38,oM 40 0,(⟨some 41,none,(.nilCheck (.tmp 40))⟩,[]),oF 3 42 41,oL 43 42,oM 44 4,oI 1 45 43 44,oL 46 45,oM 47 5,oB .add 48 46 47,oM 49 0,oF 5 50 3,oL 51 50,oM 52 5,oI 1 53 51 52,oL 54 53,(o2 55 30 49 54,[3,7,10]),(⟨some 56,none,(.build [(.int .u8 0),(.int .i64 0),(.int .i64 0),(.int .i64 0),(.slice none 0 0)] [(0,1,(.const (.int .u8 2))),(1,1,(.tmp 48)),(2,1,(.tmp 55))])⟩,[]),(⟨some 57,none,(.buildSlice 1 5 [(.int .u8 0),(.int .i64 0),(.int .i64 0),(.int .i64 0),(.slice none 0 0)] [(0,5,(.tmp 56))])⟩,[]),(⟨some 58,none,(.call (.tmp 39) [(.tmp 57)])⟩,[])]) .skip)))) (oR [oC .add 59 27 1,oM 27 59]))))
def zUZ:U0:=(oV (oR [oX 3 1]) (oV (oR [oF 4 7 3,oL 8 7,oM 4 8]) (oV (oV (o6 [oM 9 0,(⟨some 10,none,(.nilCheck (.tmp 9))⟩,[]),oF 0 11 10,oF 0 12 11,oL 13 12,oM 14 0,(⟨some 15,none,(.nilCheck (.tmp 14))⟩,[]),oF 0 16 15,oF 1 17 16,oL 18 17,oM 19 4,oI 2 20 18 19,oF 0 21 20,oL 22 21,oI 4 23 13 22,oF 3 24 23,oL 25 24,oQ 26 25,oN 27 0]) (o5 0 (.loop zOo))) (oV (oR [oM 60 0,oF 1 61 3,oL 62 61,o2 63 29 60 62,oW 64 63]) (oJ 64 (o6 [oM 65 0,(⟨some 66,none,(.nilCheck (.tmp 65))⟩,[]),oF 8 67 66,oL 68 67,oM 69 0,oM 70 0,(⟨some 71,none,(.nilCheck (.tmp 70))⟩,[]),oF 7 72 71,oL 73 72,(o2 74 30 69 73,[3]),oM 75 0,(⟨some 76,none,(.nilCheck (.tmp 75))⟩,[]),oF 4 77 76,(oL 78 77,[9]),oM 79 4,oB .add 80 78 79,(⟨some 81,none,(.build [(.int .u8 0),(.int .i64 0),(.int .i64 0),(.int .i64 0),(.slice none 0 0)] [(0,1,(.const (.int .u8 2))),(1,1,(.tmp 74)),(2,1,(.tmp 80))])⟩,[]),(⟨some 82,none,(.buildSlice 1 5 [(.int .u8 0),(.int .i64 0),(.int .i64 0),(.int .i64 0),(.slice none 0 0)] [(0,5,(.tmp 81))])⟩,[]),(⟨some 83,none,(.call (.tmp 68) [(.tmp 82)])⟩,[])]) .skip)))))
theorem zNg (C:CE hB b vt vf pu po vS vR T F)(M:CM hB h b vt vf pu po vS vR T F vK vO ks f r out)(hf:0<=f/\f<(F.length:Int))(hr:0<=r/\r<=1000)(hl:out.length<=90000)(x:WY)(va:Value)(b1:Option Addr)(b2 b3:Nat)(sa:WJ hB va x.args)(I0:CI T F ks x)(hk:ks.length<=1000)(ho:x.op=18):
  WC Tryz.prog tb 56 [pu,.agg #[.int .u8 x.op,I x.ty,I x.a,I x.b,I x.n,va,.slice b1 b2 b3]] h fun _ h'=>CP hB b vt vf pu po vS vR T F vK vO ks f r (out++(zFY T F f x.n (yE T F x.n).parts x.args++if BD T x.ty then [] else [⟨2,We T F f r,yC T F+x.n,0,[]⟩])) h h':=by
 have hty:=I0.ty (by omega);have har:=I0.args (by omega);have hal:=I0.al;obtain⟨hn,hpl,hsg,hpin⟩:=I0.c18 ho;have hA:=zEA C.hs hn;have hFm:=C.E.sm.funcs;have hAn:=hA.2.2.2.2;obtain⟨gu,_,_,rfl,_⟩:=id M.ou;obtain⟨s1,s2,s3,rfl⟩:=zF M.oS.sl;have sR0:=M.oR.sl;obtain⟨r1,r2,r3,rfl⟩:=WZ.shape sR0;obtain⟨k1,k2,k3,rfl⟩:=WZ.shape M.oK.sl;obtain⟨a1,a2,a3,rfl⟩:=WZ.shape sa;obtain⟨csF,⟨vb,rfl,sb,hlb⟩,pcF,hsF⟩:=zp (i:=x.n.toNat) C.E.sf (by omega);obtain⟨csT,⟨vp,rfl,sp,hlp⟩,pcT,hsT⟩:=zp (i:=(F.getD x.n.toNat default).sig.toNat) C.E.st (by omega);have hsig:yE T F x.n=T.getD (F.getD x.n.toNat default).sig.toNat default:=rfl;rw[<-hsig]at sp hlp pcT;obtain⟨t1,t2,t3,rfl⟩:=zF C.E.st;obtain⟨f1,f2,f3,rfl⟩:=zF C.E.sf;obtain⟨b1',b2',b3',rfl⟩:=zF sb;obtain⟨p1,p2,p3',rfl⟩:=WZ.shape sp;generalize (F.getD x.n.toNat default).sig=sg at *;have hgat:∀ i:Nat,We T F x.n i=(Bi T F).getD x.n.toNat 0+i:=fun i=>by unfold We;rw[hA.2.1]
 have hfb:0<=(Bi T F).getD x.n.toNat 0/\(Bi T F).getD x.n.toNat 0<=8000:=by rw[hA.2.1];exact⟨hA.2.2.1,hA.2.2.2.1⟩
 have hfl:=hA.1;clear hA;unfold zFY;generalize (yE T F x.n).parts=ps at *;have hL:∀ i:Nat,(out++(List.range i).flatMap fun (i:Nat)=>if BD T (ps.getD i 0) then [] else [(⟨2,We T F x.n i,We T F f (x.args.getD i 0),0,[]⟩:WU)]).length<=90000+i:=fun i=>by
  have:=YT (fun (i:Nat)=>if BD T (ps.getD i 0) then [] else [(⟨2,We T F x.n i,We T F f (x.args.getD i 0),0,[]⟩:WU)]) (fun _=>zAE _ _) i;rw[QM];omega
 replace har:=WW.mk har;replace hpin:=WW.mk hpin;replace hgat:=WW.mk hgat;refine en 84 [] zUZ ?_;refine VI ?_;intro p3 h1 e1 o3;replace o3:U3 h h1 p3 [.int .u8 x.op,I x.ty,I x.a,I x.b,I x.n,.slice a1 a2 a3,.slice b1 b2 b3]:=o3;have M1:=M.ext e1;have o1:=M1.ou;have sp1:=sp.ext M1.e;have sf1:=Wn.ext C.E.sf M1.e;have st1:=Wr.ext C.E.st M1.e;have pcF1:=(pcF _ M1.e).1;have pcT1:=(pcT _ M1.e).1;have hp1:WI po p3:=(VF o3.since' M.oo.within).symm;have hp2:WI vO p3:=(VF o3.since' fun g hg=>(ZB M.oO g hg).2).symm;refine go ?_;refine VD [28,29,30,31,5,6,32,33,34,35,36,37,38,39,40,41,42,43,44,45,46,47,48,49,50,51,52,53,54,55,56,57,58,59,27] (by kernel_rfl) (fun i=>ps.length - i) (fun i t h3=>zB t 27=I i/\i<=ps.length/\∃ vO',CM hB h3 b (.slice t1 t2 t3) (.slice f1 f2 f3) (.pointer (some ⟨gu,0,none⟩)) po (.slice s1 s2 s3) (.slice r1 r2 r3) T F (.slice k1 k2 k3) vO' ks f r (out++(List.range i).flatMap fun (i:Nat)=>if BD T (ps.getD i 0) then [] else [⟨2,We T F x.n i,We T F f (x.args.getD i 0),0,[]⟩])/\WL po vO h1 h3 vO') 0 ?_ ?_
 ·exact⟨U7,QT _,vO,by simpa using M1,WL.refl ..⟩
 rintro i t h3 hsame ⟨s27,hi,vO',M3,k3'⟩;obtain⟨o33,hp3⟩:=VP o3 k3' hp1 hp2;have sp3:=sp.ext M3.e;have o3u:=M3.ou;refine go ?_;refine VE (fun hb=> ?_) (fun hb=> ?_)<;>simp only[DB]at hb
 ·have hi':i<ps.length:=by omega
  have hia:i<x.args.length:=by omega
  have hx:=hpin.out _ (zq hi');have hai:=har.out _ (zq hia);have hg:=hgat.out i;have hsn:=YC (fun (i:Nat)=>if BD T (ps.getD i 0) then [] else [(⟨2,We T F x.n i,We T F f (x.args.getD i 0),0,[]⟩:WU)]) i;refine go ?_;refine VA (YL M3.ou (Wr.ext C.E.st M3.e) (ps.getD i 0) hx) ?_;rintro _ _ ⟨rfl,rfl⟩;cases hplb:BD T (ps.getD i 0)with
  |true=>
   rw[hplb]at hsn;refine go ?_;refine zA (i+1) (by omega) ⟨Wo,by omega,vO',?_,k3'⟩;rw[hsn];simpa using M3
  |false=>
   rw[hplb]at hsn;refine go ?_;refine VC 1 rfl rfl ?_;have oY3:U3 hB (inC (zC 1 h3)) (.pointer (some ⟨gu,0,none⟩)) [.slice t1 t2 t3,.slice f1 f2 f3,.slice s1 s2 s3,.slice r1 r2 r3,I (yC T F),.slice k1 k2 k3,I f,I r,Zc po]:=ye 1 (M3.ou);have sY3:WJ (inC (zC 1 h3)) (.slice r1 r2 r3) (Bi T F):=YR 1 (M3.oR.sl);have o3Y:U3 h (inC (zC 1 h3)) p3 [.int .u8 x.op,I x.ty,I x.a,I x.b,I x.n,.slice a1 a2 a3,.slice b1 b2 b3]:=ye 1 (o33);have saY:WJ (inC (zC 1 h3)) (.slice a1 a2 a3) x.args:=YR 1 ((sa.ext M3.e));refine WM ?_;refine VA (yw oY3 sY3 C.hs hf (x.args.getD i 0) (by omega)) ?_;rintro _ _ ⟨rfl,rfl⟩;refine WO.nil (ZU zw ?_);refine WM ?_;rw[<-hg];refine WN.add (X:=inC (zC 1 _)) (⟨2,We T F x.n i,We T F f (x.args.getD i 0),0,[]⟩:WU) (fun _=>False) C M3 (U5.refl _) (by have:=hL i;omega) Z7 (fun _ h=>h.elim) ?_;intro H vO2 t' hsame2 MH kH;refine go ?_;refine zA (i+1) (by omega) ⟨Wo,by omega,vO2,?_,k3'.trans kH⟩;rw[hsn,<-QZ];exact MH
 ·have hii:i=ps.length:=by omega
  subst hii;refine go ?_;refine VA (YL M3.ou (Wr.ext C.E.st M3.e) x.ty hty) ?_;rintro _ _ ⟨rfl,rfl⟩;cases hplb:BD T x.ty with
  |true=>
   refine go ?_;refine W5 ?_;exact⟨vO',by simpa using M3,(WL.ext e1).trans k3'⟩
  |false=>
   refine go ?_;refine VC 1 rfl rfl ?_;have oY3:U3 hB (inC (zC 1 h3)) (.pointer (some ⟨gu,0,none⟩)) [.slice t1 t2 t3,.slice f1 f2 f3,.slice s1 s2 s3,.slice r1 r2 r3,I (yC T F),.slice k1 k2 k3,I f,I r,Zc po]:=ye 1 (M3.ou);have sY3:WJ (inC (zC 1 h3)) (.slice r1 r2 r3) (Bi T F):=YR 1 (M3.oR.sl);refine WM ?_;refine VA (yw oY3 sY3 C.hs hf r hr) ?_;rintro _ _ ⟨rfl,rfl⟩;refine WO.nil (ZU zw ?_);refine WM ?_;refine YZ (j:=4) M3.ou (by show h3.n<=h3.n+1;omega) ?_;refine WM ?_;refine WN.add (X:=inC (zC 1 _)) (⟨2,We T F f r,yC T F+x.n,0,[]⟩:WU) (fun _=>False) C M3 (U5.refl _) (by have:=hL ps.length;omega) Z7 (fun _ h=>h.elim) ?_;intro H vO2 t' hsame2 MH kH;refine go ?_;refine W5 ?_;exact⟨vO2,by simpa using MH,(WL.ext e1).trans (k3'.trans kH)⟩
def zTW:U0:=(oV (oR [oX 3 1]) (oV (oR [oF 0 4 3,oL 5 4]) (o5 0 (oV (oV (oR [oD .eql 7 5 2,oM 6 7]) (oJ 6 .skip (oR [oD .eql 8 5 3,oM 6 8]))) (oJ 6 (oR [oM 9 0,oA 7 10 3,o2 11 51 9 10]) (oV (oV (oR [oD .eql 13 5 11,oM 12 13]) (oJ 12 .skip (oR [oD .eql 14 5 12,oM 12 14]))) (oJ 12 (oR [oM 15 0,o1 16 52 15]) (oV (oV (oR [oD .eql 18 5 14,oM 17 18]) (oJ 17 .skip (oR [oD .eql 19 5 15,oM 17 19]))) (oJ 17 (oR [oM 20 0,oA 7 21 3,o2 22 53 20 21]) (oV (oR [oD .eql 24 5 16,oM 23 24]) (oJ 23 (oR [oM 25 0,oA 7 26 3,o2 27 54 25 26]) (oV (oR [oD .eql 29 5 17,oM 28 29]) (oJ 28 (oR [oM 30 0,oA 7 31 3,o2 32 55 30 31]) (oV (oR [oD .eql 34 5 18,oM 33 34]) (oJ 33 (oR [oM 35 0,oA 7 36 3,o2 37 56 35 36]) (oV (oR [oD .eql 39 5 19,oM 38 39]) (oJ 38 (oR [oM 40 0,oA 7 41 3,o2 42 57 40 41]) (oV (oR [oD .eql 44 5 22,oM 43 44]) (oJ 43 (oR [oM 45 0,oA 7 46 3,o2 47 58 45 46]) .skip)))))))))))))))))))
theorem zRF (C:CE hB b vt vf pu po vS vR T F)(M:CM hB h b vt vf pu po vS vR T F vK vO ks f r out)(hf:0<=f/\f<(F.length:Int))(hr:0<=r/\r<=1000)(hl:out.length<=90000)(x:WY)(va:Value)(b1:Option Addr)(b2 b3:Nat)(sa:WJ hB va x.args)(I0:CI T F ks x)(hk:ks.length<=1000):
  WC Tryz.prog tb 28 [pu,.agg #[.int .u8 x.op,I x.ty,I x.a,I x.b,I x.n,va,.slice b1 b2 b3]] h fun _ h'=>CP hB b vt vf pu po vS vR T F vK vO ks f r (out++Zx T F f ks r x) h h':=by
 obtain⟨a1,a2,a3,rfl⟩:=WZ.shape sa;have hop:=I0.op;refine en 48 [] zTW ?_;refine VI ?_;intro p3 h1 e1 o3;replace o3:U3 h h1 p3 [.int .u8 x.op,I x.ty,I x.a,I x.b,I x.n,.slice a1 a2 a3,.slice b1 b2 b3]:=o3;have M1:=M.ext e1;have fin:∀ {l:List WU} {h2:Uz},l=Zx T F f ks r x->CP hB b vt vf pu po vS vR T F vK vO ks f r (out++l) h1 h2->CP hB b vt vf pu po vS vR T F vK vO ks f r (out++Zx T F f ks r x) h h2:=fun e ⟨v,a,c⟩=>⟨v,by rw[<-e];exact a,(WL.ext e1).trans c⟩;have sa1:=sa.ext M1.e;by_cases c1:x.op=2\/x.op=3
 ·have hc:[(⟨1,We T F f r,0,if x.op=3 then x.n+1 else 0,[]⟩:WU)]=Zx T F f ks r x:=by unfold Zx;rw[QJ c1]
  have hn3:x.op=3->0<=x.n/\x.n<=1000:=fun e=>by have:=I0.n3 e;have:=C.E.sm.funcs;omega
  rcases c1 with c1|c1;all_goals
   refine go ?_
   refine VA (zO9 C M1 hf hr hl x a1 b1 a2 a3 b2 b3 hn3) ?_
   rintro rr h2 q2
   refine go ?_
   refine W5 ?_
   exact fin hc q2
 by_cases c2:x.op=11\/x.op=12
 ·have hc:zGE T F f r (Y9 T f r (yj T F) 0 [])=Zx T F f ks r x:=by unfold Zx;rw[QB c1,QJ c2]
  rcases c2 with c2|c2;all_goals
   refine go ?_
   refine VA (zOG C M1 hf hr hl) ?_
   rintro rr h2 q2
   refine go ?_
   refine W5 ?_
   exact fin hc q2
 by_cases c3:x.op=14\/x.op=15
 ·have hc:[(⟨3,We T F f r,We T F f x.a,if x.op=14 then stepL T (T.getD (ks.getD x.a.toNat 0).toNat default).elem x.n else 0,[]⟩:WU)]=Zx T F f ks r x:=by unfold Zx;rw[QB c1,QB c2,QJ c3]
  have c3':=c3;rcases c3 with c3|c3;all_goals
   refine go ?_
   refine VA (zOW C M1 hf hr hl x a1 b1 a2 a3 b2 b3 I0 hk c3') ?_
   rintro rr h2 q2
   refine go ?_
   refine W5 ?_
   exact fin hc q2
 by_cases c4:x.op=16
 ·have hc:(if BD T x.ty then [] else [(⟨4,We T F f r,We T F f x.a,0,[]⟩:WU)])=Zx T F f ks r x:=by unfold Zx;rw[QB c1,QB c2,QB c3,QJ c4]
  refine go ?_;refine VA (zOz C M1 hf hr hl x a1 b1 a2 a3 b2 b3 I0 hk c4) ?_;rintro rr h2 q2;refine go ?_;refine W5 ?_;exact fin hc q2
 by_cases c5:x.op=17
 ·have hc:(if BD T (ks.getD x.b.toNat 0) then [] else [(⟨5,We T F f x.a,We T F f x.b,0,[]⟩:WU)])=Zx T F f ks r x:=by unfold Zx;rw[QB c1,QB c2,QB c3,QB c4,QJ c5]
  refine go ?_;refine VA (zLZ C M1 hf hl x a1 b1 a2 a3 b2 b3 I0 hk c5) ?_;rintro rr h2 q2;refine go ?_;refine W5 ?_;exact fin hc q2
 by_cases c6:x.op=18
 ·have hc:(zFY T F f x.n (yE T F x.n).parts x.args++if BD T x.ty then [] else [(⟨2,We T F f r,yC T F+x.n,0,[]⟩:WU)])=Zx T F f ks r x:=by unfold Zx;rw[QB c1,QB c2,QB c3,QB c4,QB c5,QJ c6]
  refine go ?_;refine VA (zNg C M1 hf hr hl x _ b1 b2 b3 sa I0 hk c6) ?_;rintro rr h2 q2;refine go ?_;refine W5 ?_;exact fin hc q2
 by_cases c7:x.op=19
 ·have hc:[(⟨6,We T F f r,We T F f x.a,0,x.args.map (We T F f)⟩:WU)]=Zx T F f ks r x:=by unfold Zx;rw[QB c1,QB c2,QB c3,QB c4,QB c5,QB c6,QJ c7]
  refine go ?_;refine VA (zMd C M1 hf hr hl x _ b1 b2 b3 sa1 I0 hk c7) ?_;rintro rr h2 q2;refine go ?_;refine W5 ?_;exact fin hc q2
 by_cases c8:x.op=22
 ·have hc:(if BD T x.ty then [] else zM0 T F f r x.args)=Zx T F f ks r x:=by unfold Zx;rw[QB c1,QB c2,QB c3,QB c4,QB c5,QB c6,QB c7,QJ c8]
  refine go ?_;refine VA (zQM C M1 hf hr hl x _ b1 b2 b3 sa1 I0 hk c8) ?_;rintro rr h2 q2;refine go ?_;refine W5 ?_;exact fin hc q2
 ·have hc:[]=Zx T F f ks r x:=by unfold Zx;rw[QB c1,QB c2,QB c3,QB c4,QB c5,QB c6,QB c7,QB c8]
  refine go ?_;refine W5 ?_;exact fin hc ⟨vO,by simpa using M1,WL.refl ..⟩
end
set_option maxRecDepth 100000
theorem zS9 {h:Uz}{v:Value}{l:List WP}(k:Nat)(s:Wn h v l):Wn (inC (zC k h)) v l:=by
 have:=Wn.ext s (zZ k h);exact this
theorem zTY {X:Uz}{n:Int}{D:Nat->Prop}:Bl RI X [I n] n D:=fun _ _ _=>rfl
theorem zQ4 (T:List U2)(F:List WP)(f:Int)(ks:List Int)(r:Int)(x:WY)(h1:x.args.length<=20)(h2:(Y9 T f r (yj T F) 0 []).2.length<=40)(h3:x.op=18->(yE T F x.n).parts.length<=20):(Zx T F f ks r x).length<=41:=by
 unfold Zx;split
 ·simp
 split
 ·unfold zGE zKC;rw[GF];have:=YT (fun i=>if BD T ((Y9 T f r (yj T F) 0 []).2.getD i 0) then [] else [⟨1,yC T F+F.length+(Y9 T f r (yj T F) 0 []).1+i,0,0,[]⟩]) (fun i=>zAE _ _) (Y9 T f r (yj T F) 0 []).2.length;omega
 split
 ·simp
 split
 ·have:=zAE (BD T x.ty) ⟨4,We T F f r,We T F f x.a,0,[]⟩;omega
 split
 ·have:=zAE (BD T (ks.getD x.b.toNat 0)) ⟨5,We T F f x.a,We T F f x.b,0,[]⟩;omega
 split
 ·rename_i h;rw[QM];have:=zAE (BD T x.ty) ⟨2,We T F f r,yC T F+x.n,0,[]⟩;have h4:=h3 h;have:=YT (fun i=>if BD T ((yE T F x.n).parts.getD i 0) then [] else [⟨2,We T F x.n i,We T F f (x.args.getD i 0),0,[]⟩]) (fun i=>zAE _ _) (yE T F x.n).parts.length;unfold zFY;omega
 split
 ·simp
 split
 ·split
  ·simp
  ·unfold zM0;have:=YT (fun (i:Nat)=>[⟨2,We T F f r,We T F f (x.args.getD i 0),0,[]⟩]) (fun i=>by simp) x.args.length;omega
 ·simp
theorem zVI {hB h:Uz}{v:Value}{l:List Int}(o:WH hB h v l):WR 1 RI hB.n h v l:=by
 rcases o with ⟨rfl,rfl⟩|⟨g,g1,g2,rfl,g4⟩
 ·exact .inl ⟨rfl,rfl⟩
 ·refine .inr ⟨g,l.map I,fun _=>False,g1,g2,rfl,g4,by simp,fun h=>h,fun k hk=>hk.elim,fun i a ha=>fun _ _ _=> ?_⟩;obtain⟨hi,rfl⟩:=QQ.1 ha;unfold RI;rw[G2];apply JF
  ·simp;omega
  ·intro j h1 h2;simp at h2;subst h2;simp
theorem zPP {hB h h':Uz}{p:Value}{cs:List Value}(e:U5 hB h)(o:U3 hB h p cs)(u:Wb p h h')(wf:Wf h->Wf h')(hm:h'.mark=h.mark)(hw:h'.wr=h.wr):U5 hB h':=by
 obtain⟨g,g1,g2,rfl,g3⟩:=o;exact⟨QO e.n u.1,fun k hk=>(u.2 k (QG hk e.n) fun e=>by cases e;omega).trans (e.get k hk),fun w=>wf (e.wf w),hm.trans e.mark,fun h=>hw.trans (e.wr h)⟩
theorem Yt {h0 h h':Uz}{p q:Value}{cs:List Value}(o:U3 h0 h q cs)(u:Wb p h h')(d:WI p q):U3 h0 h' q cs:=by
 obtain⟨g,g1,g2,rfl,g3⟩:=o;exact⟨g,g1,QG g2 u.1,rfl,(u.2 g g2 fun e=>d g (by rw[e];rfl) rfl).trans g3⟩
theorem zBu {p:Value}{h h1 h2:Uz}(a:Wb p h h1)(b:Wb p h1 h2):Wb p h h2:=⟨QO a.1 b.1,fun g hg hp=>(b.2 g (QG hg a.1) hp).trans (a.2 g hg hp)⟩
theorem zCY {p:Value}{h h1:Uz}(e:U5 h h1):Wb p h h1:=⟨e.n,fun g hg _=>e.get g hg⟩
section
variable {hB h h':Uz}{b:Nat}{vt vf pu po vS vR vK vK' vO:Value}{T:List U2}{F:List WP}{ks ks':List Int}{f r f' r':Int}{out:List WU}
theorem CM.upU (M:CM hB h b vt vf pu po vS vR T F vK vO ks f r out)(C:CE hB b vt vf pu po vS vR T F)(u:Wb pu h h')(e:U5 hB h')(ou:U3 hB h' pu [vt,vf,vS,vR,I (yC T F),vK',I f',I r',Zc po])(oK:WH hB h' vK' ks')(hk:∀ g,Be vK'=some g->b<=g)(ko:WI vO vK'):
  CM hB h' b vt vf pu po vS vR T F vK' vO ks' f' r' out:=
 ⟨e,QO M.hb u.1,ou,Yt M.oo u C.uo,M.oS.upB zEz u.upB C.uS,M.oR.upB u.upB C.uR,oK,M.oO.upd (fun k k1 k2=>u.2 k k2 fun e=>by have:=C.bu k (by rw[e];rfl);omega) u.1,hk,ko⟩
theorem CM.setR (M:CM hB h b vt vf pu po vS vR T F vK vO ks f r out)(C:CE hB b vt vf pu po vS vR T F)(u:Wb pu h h')(e:U5 hB h')(ou:U3 hB h' pu [vt,vf,vS,vR,I (yC T F),vK,I f,I r',Zc po]):CM hB h' b vt vf pu po vS vR T F vK vO ks f r' out:=by
 refine M.upU C u e ou (M.oK.upB u.upB fun g h1 h2=> ?_) M.kb M.ko;have:=C.bu g h1;have:=M.kb g h2;omega
def zMz:U0:=(oV (oR [oB .lss 51 50 49]) (oV (oT 51 2) (oV (o5 3 (oV (oR [oI 7 52 48 50,oA 7 53 52,⟨some 7,none,(.alloc [(.int .u8 0),(.int .i64 0),(.int .i64 0),(.int .i64 0),(.int .i64 0),(.slice none 0 0),(.slice none 0 0)])⟩,oS 7 7 53]) (o6 [oM 54 0,oM 55 0,(⟨some 56,none,(.nilCheck (.tmp 55))⟩,[]),oF 5 57 56,oL 58 57,oF 1 59 7,oL 60 59,(⟨some 61,none,(.buildSlice 1 1 [(.int .i64 0)] [(0,1,(.tmp 60))])⟩,[]),oY 1 62 58 61,(⟨some 63,none,(.nilCheck (.tmp 54))⟩,[]),oF 5 64 63,oS 1 64 62]))) (oR [oC .add 65 50 1,oM 50 65]))))
def zNU:U0:=(oV (oR [oB .lss 44 43 42]) (oV (oT 44 0) (oV (o5 1 (oV (oR [oI 5 45 41 43,oA 5 46 45,⟨some 5,none,(.alloc [(.slice none 0 0),(.int .u8 0),(.int .i64 0),(.int .i64 0),(.int .i64 0)])⟩,oS 5 5 46]) (oV (oR [oF 0 47 5,oL 48 47,oQ 49 48,oN 50 0]) (o5 2 (.loop zMz))))) (oR [oC .add 66 43 1,oM 43 66]))))
def zTd:U0:=(oV (o6 [oM 8 0,oM 9 0,oM 10 1,oM 11 0,(⟨some 12,none,(.nilCheck (.tmp 11))⟩,[]),oF 0 13 12,oF 0 14 13,oL 15 14,oM 16 0,(⟨some 17,none,(.nilCheck (.tmp 16))⟩,[]),oF 0 18 17,oF 1 19 18,oL 20 19,oM 21 1,oI 2 22 20 21,oF 0 23 22,oL 24 23,oI 4 25 15 24,oF 3 26 25,oL 27 26,o1 28 50 27,(⟨some 29,none,(.nilCheck (.tmp 8))⟩,[]),oF 6 30 29,oS 1 30 10,(⟨some 31,none,(.nilCheck (.tmp 9))⟩,[]),oF 5 32 31,oS 1 32 28]) (oV (oR [oM 33 0,⟨some 34,none,(.nilCheck (.tmp 33))⟩,oF 0 35 34,oF 1 36 35,oL 37 36,oM 38 1,oI 2 39 37 38,oF 1 40 39,oL 41 40,oQ 42 41,oN 43 0]) (o5 0 (.loop zNU))))
theorem zRf (C:CE hB b vt vf pu po vS vR T F)(M:CM hB h b vt vf pu po vS vR T F vK vO ks f r out)(g:Nat)(hg:g<F.length):
  WC Tryz.prog tb 27 [pu,I g] h fun _ h'=>∃ vK',CM hB h' b vt vf pu po vS vR T F vK' vO (YP T F g) g r out/\Wb pu h h':=by
 obtain⟨gu,_,_,rfl,_⟩:=id M.ou;obtain⟨s1,s2,s3,rfl⟩:=zF M.oS.sl;obtain⟨r1,r2,r3,rfl⟩:=WZ.shape M.oR.sl;obtain⟨k1,k2,k3,rfl⟩:=WZ.shape M.oK.sl;have E0:=C.E;obtain⟨t1,t2,t3,rfl⟩:=zF E0.st;obtain⟨f1,f2,f3,rfl⟩:=zF E0.sf;have hp:=(yV C.hs).1;have Z:=zDf hp (f:=(g:Int)) (by omega);have hsg:=Z.sig;have hpar:=Z.par4;have hmny:=Z.many;rw[QU]at hsg;have hraw:YP T F g=(T.getD (F.getD g default).sig.toNat default).parts++(F.getD g default).blocks.flatMap fun b=>b.ins.map fun x=>x.ty:=by
  unfold YP yE zM;rw[QU]
 have hL:zM F g=(F.getD g default).blocks:=by unfold zM;rw[QU]
 have hP:yE T F g=T.getD (F.getD g default).sig.toNat default:=by unfold yE;rw[QU]
 rw[hL]at hmny;rw[hP]at hpar;rw[hraw];have hbl:=E0.sm.blocks _ (zK hg);have hil:=E0.sm.ins _ (zK hg);obtain⟨csF,⟨vb,rfl,sb,hlb⟩,pcF,hsF⟩:=zp (i:=g) E0.sf hg;obtain⟨csT,⟨va,rfl,sa,hla⟩,pcT,hsT⟩:=zp (i:=(F.getD g default).sig.toNat) E0.st (by omega);generalize F.getD g default=G at *;clear hL hP hraw Z;generalize T.getD G.sig.toNat default=X0 at *;obtain⟨b1,b2,b3,rfl⟩:=zF sb;obtain⟨a1,a2,a3,rfl⟩:=WZ.shape sa;refine en 67 [] zTd ?_;refine VC 0 rfl rfl ?_;have oY:U3 hB (inC (zC 0 h)) (.pointer (some ⟨gu,0,none⟩)) [.slice t1 t2 t3,.slice f1 f2 f3,.slice s1 s2 s3,.slice r1 r2 r3,I (yC T F),.slice k1 k2 k3,I f,I r,Zc po]:=M.ou;have eY:=M.e.trans (zZ 0 h);have pcFY:=(pcF _ eY).2;have pcTY:=(pcT _ eY).2;have saY:WJ (inC (zC 0 h)) (.slice a1 a2 a3) X0.parts:=YR 0 (sa.ext M.e);have stY:Wr (inC (zC 0 h)) (.slice t1 t2 t3) T:=zI7 0 (Wr.ext C.E.st M.e);have sfY:Wn (inC (zC 0 h)) (.slice f1 f2 f3) F:=zS9 0 (Wn.ext C.E.sf M.e);refine WM ?_;refine VA (zHV _ _ X0.parts saY (by omega)) ?_;rintro vK' X ⟨oK,eX⟩;refine nE eX ?_;have oZ:U3 hB X (.pointer (some ⟨gu,0,none⟩)) [.slice t1 t2 t3,.slice f1 f2 f3,.slice s1 s2 s3,.slice r1 r2 r3,I (yC T F),.slice k1 k2 k3,I f,I r,Zc po]:=oY.ext eX;have hmB:h.mark<=hB.n:=by rw[M.e.mark];exact C.hm
 have oZi:U3 hB (inC X) (.pointer (some ⟨gu,0,none⟩)) [.slice t1 t2 t3,.slice f1 f2 f3,.slice s1 s2 s3,.slice r1 r2 r3,I (yC T F),.slice k1 k2 k3,I f,I r,Zc po]:=oZ;obtain⟨c1,c2,c3,rfl⟩:=WZ.shape oK.sl;refine WM ?_;refine XB (hB:=hB) (j:=6) (cs:=[I g]) (hl:=by simp) oZ hmB ?_;intro X1 n1 kp1 o1 w1 cl1;replace o1:U3 hB X1 (.pointer (some ⟨gu,0,none⟩)) [.slice t1 t2 t3,.slice f1 f2 f3,.slice s1 s2 s3,.slice r1 r2 r3,I (yC T F),.slice k1 k2 k3,I g,I r,Zc po]:=o1;have o1i:U3 hB (inC X1) (.pointer (some ⟨gu,0,none⟩)) [.slice t1 t2 t3,.slice f1 f2 f3,.slice s1 s2 s3,.slice r1 r2 r3,I (yC T F),.slice k1 k2 k3,I g,I r,Zc po]:=o1;refine WM ?_;refine XA (hB:=hB) (j:=5) (cs:=[.slice c1 c2 c3]) (hl:=by simp) o1 hmB ?_;intro H n2 kp2 o2 w2 m2 wr2;replace o2:U3 hB H (.pointer (some ⟨gu,0,none⟩)) [.slice t1 t2 t3,.slice f1 f2 f3,.slice s1 s2 s3,.slice r1 r2 r3,I (yC T F),.slice c1 c2 c3,I g,I r,Zc po]:=o2;have hnX:h.n<=X.n:=eX.n;have uH:Wb (.pointer (some ⟨gu,0,none⟩)) h H:=⟨by omega,fun k hk hne=>by rw[kp2 k hne,kp1 k hne];exact eX.get k (by show k<h.n+0;omega)⟩;have eH:U5 hB H:=zPP M.e M.ou uH (fun w=>w2 (w1 (eX.wf (fun q hq=>w q (by have hq:h.n+0<=q:=hq;omega))))) m2 wr2;have hgu:gu<h.n:=M.ou.within _ rfl;have oKH:WH h H (.slice c1 c2 c3) X0.parts:=by
  rcases oK with o|⟨q,q1,q2,q3,q4⟩
  ·exact .inl o
  ·have q1:h.n+0<=q:=q1;have hq:Value.pointer (some ⟨gu,0,none⟩)≠ .pointer (some ⟨q,0,none⟩):=fun e=>by cases e;omega
   exact .inr ⟨q,by omega,by omega,q3,by rw[kp2 q hq,kp1 q hq];exact q4⟩
 have oKR:=zVI oKH;clear kp1 kp2 w1 w2 o1 oZ oK eX oY;have sbH:=W6.ext sb eH;have sfH:=Wn.ext C.E.sf eH;have pcFH:=(pcF _ eH).1;have ugb:∀ q,Value.pointer (some ⟨gu,0,none⟩)= .pointer (some ⟨q,0,none⟩)->q<h.n:=fun q e=>by cases e;exact hgu
 refine go ?_;refine VD [44,45,46,5,47,48,49,50,51,52,53,7,54,55,56,57,58,59,60,61,62,63,64,65,50,66,43] (by kernel_rfl) (fun i=>G.blocks.length - i) (fun i t h3=>zB t 43=I i/\i<=G.blocks.length/\U5 hB h3/\Wb (.pointer (some ⟨gu,0,none⟩)) h h3/\∃ v,(∃ a n c,v= .slice a n c)/\U3 hB h3 (.pointer (some ⟨gu,0,none⟩)) [.slice t1 t2 t3,.slice f1 f2 f3,.slice s1 s2 s3,.slice r1 r2 r3,I (yC T F),v,I g,I r,Zc po]/\WR 1 RI h.n h3 v (X0.parts++(G.blocks.take i).flatMap fun b=>b.ins.map fun x=>x.ty)) 0 ?_ ?_
 ·exact⟨U7,QT _,eH,uH,_,⟨_,_,_,rfl⟩,o2,by simpa using oKR⟩
 rintro i t h3 hsame ⟨s43,hi,e3,u3,v,⟨v1,v2,v3,rfl⟩,o3,l3⟩;have sb3:=W6.ext sb e3;refine go ?_;refine VE (fun hc=> ?_) (fun hc=> ?_)<;>simp only[DB]at hc
 ·have hi':i<G.blocks.length:=by omega
  obtain⟨csB,⟨vi,rfl,si,hli⟩,pcB,hsB⟩:=zp (i:=i) sb hi';have pcB3:=(pcB _ e3).1;have hsn:((G.blocks.take (i+1)).flatMap fun b=>b.ins.map fun x=>x.ty)=((G.blocks.take i).flatMap fun b=>b.ins.map fun x=>x.ty)++(G.blocks.getD i default).ins.map fun x=>x.ty:=by
   rw[ZT hi',List.flatMap_append];simp
  have hlen:(((G.blocks.take i).flatMap fun b=>b.ins.map fun x=>x.ty).length:Int)+((G.blocks.getD i default).ins.length:Int)<=zI G.blocks:=by
   have h1:=zOZ G.blocks (i+1);have h2:∀ L:List WQ,(((L.flatMap fun b=>b.ins.map fun x=>x.ty).length:Nat):Int)=zI L:=fun L=>by
    induction L with
    |nil=>rfl
    |cons c L ih=>rw[List.flatMap_cons,QM,Qz,Zw,<-ih];omega
   have h3:=h2 (G.blocks.take (i+1));rw[hsn,QM,Qz]at h3;omega
  have hil':=hil _ (zK hi');generalize (G.blocks.take i).flatMap (fun b=>b.ins.map fun x=>x.ty)=pre at *;generalize G.blocks.getD i default=B at *;obtain⟨i1,i2,i3,rfl⟩:=zF si;refine go ?_;refine WO.al ?_;intro p5 h4 e4 o5;refine go ?_;refine VG o5 e4 ?_;intro h5 e5 o5 _;have e35:=e3.trans e5;have o35:=o3.ext e5;have l35:=WR.ext l3 e5;have u35:=zBu u3 (zCY e5);have si5:=BS.ext si e35;refine go ?_;refine VD [51,52,53,7,54,55,56,57,58,59,60,61,62,63,64,65,50] (by kernel_rfl) (fun q=>B.ins.length - q) (fun q t h6=>zB t 50=I q/\q<=B.ins.length/\U5 hB h6/\Wb (.pointer (some ⟨gu,0,none⟩)) h h6/\∃ v,(∃ a n c,v= .slice a n c)/\U3 hB h6 (.pointer (some ⟨gu,0,none⟩)) [.slice t1 t2 t3,.slice f1 f2 f3,.slice s1 s2 s3,.slice r1 r2 r3,I (yC T F),v,I g,I r,Zc po]/\WR 1 RI h.n h6 v (X0.parts++pre++(B.ins.take q).map fun x=>x.ty)) 0 ?_ ?_
  ·exact⟨U7,QT _,e35,u35,_,⟨_,_,_,rfl⟩,o35,by simpa using l35⟩
  rintro q t' h6 hsame' ⟨s50,hq,e6,u6,v,⟨v1,v2,v3,rfl⟩,o6,l6⟩;have si6:=BS.ext si e6;refine go ?_;refine VE (fun hc'=> ?_) (fun hc'=> ?_)<;>simp only[DB]at hc'
  ·have hq':q<B.ins.length:=by omega
   obtain⟨csX,⟨xa,xf,rfl,sxa,sxf,hxa,hxf,ho⟩,pcX,hsX⟩:=zp (i:=q) si hq';have pcX6:=(pcX _ e6).1;have hsnq:(B.ins.take (q+1)).map (fun x=>x.ty)=(B.ins.take q).map (fun x=>x.ty)++[(B.ins.getD q default).ty]:=by
    rw[ZT hq',Qr];rfl
   have hlq:((B.ins.take q).map fun x=>x.ty).length<=q:=by rw[Qz];exact List.length_take_le _ _
   generalize B.ins.getD q default=x at *;obtain⟨xa1,xa2,xa3,rfl⟩:=WZ.shape sxa;obtain⟨xf1,xf2,xf3,rfl⟩:=WZ.shape sxf;refine go ?_;refine WO.al ?_;intro p7 h7 e7 o7;refine go ?_;refine VG (cs:=[.int .u8 x.op,I x.ty,I x.a,I x.b,I x.n,.slice xa1 xa2 xa3,.slice xf1 xf2 xf3]) o7 e7 ?_;intro h8 e8 o8 _;have e68:=e6.trans e8;have o68:=o6.ext e8;have l68:=WR.ext l6 e8;have u68:=zBu u6 (zCY e8);refine go ?_;refine VC 1 rfl rfl ?_;have oY8:U3 hB (inC (zC 1 h8)) (.pointer (some ⟨gu,0,none⟩)) [.slice t1 t2 t3,.slice f1 f2 f3,.slice s1 s2 s3,.slice r1 r2 r3,I (yC T F),.slice v1 v2 v3,I g,I r,Zc po]:=ye 1 (o68);have o8Y:U3 h6 (inC (zC 1 h8)) p7 [.int .u8 x.op,I x.ty,I x.a,I x.b,I x.n,.slice xa1 xa2 xa3,.slice xf1 xf2 xf3]:=ye 1 (o8);refine WM ?_;refine V3 (X:=inC (zC 1 _)) (hB:=hB) (b:=h.n) (v:= .slice v1 v2 v3) x.ty (fun _=>False) (U5.refl _) l68 e68 (by rw[e68.mark];exact C.hm) (QO C.bn M.hb) u68.1 (by decide) (by simp only[QM]at *;omega) o68 ugb (fun _ _ _=>rfl) (fun _ h=>h.elim) (fun _ _ _ _ h=>h) id (by simp) rfl ?_;intro H' v' t'' hsame'' eH' oH' hone lH' sH' kH' nH';obtain⟨w1,w2,w3,rfl⟩:∃ a n c,v'= .slice a n c:=by
    rcases lH' with ⟨rfl,_⟩|⟨_,_,_,_,_,rfl,_⟩
    ·exact⟨_,_,_,rfl⟩
    ·exact⟨_,_,_,rfl⟩
   replace oH':U3 hB H' (.pointer (some ⟨gu,0,none⟩)) [.slice t1 t2 t3,.slice f1 f2 f3,.slice s1 s2 s3,.slice r1 r2 r3,I (yC T F),.slice w1 w2 w3,I g,I r,Zc po]:=oH';have uH':Wb (.pointer (some ⟨gu,0,none⟩)) h H':=⟨QO u68.1 nH',fun k hk hne=>by
    rw[kH' k (QG hk u68.1) hne fun n k' e=>by have:=(ZB l68 k (by rw[e];rfl)).1;omega];exact u68.2 k hk hne⟩
   refine go ?_;refine zA (q+1) (by omega) ⟨Wo,by omega,eH',uH',_,⟨_,_,_,rfl⟩,oH',?_⟩;rw[hsnq,<-QZ];exact lH'
  ·have hqq:q=B.ins.length:=by omega
   subst hqq;rw[Q8]at l6;refine go ?_;refine zA (i+1) (by omega) ⟨Wo,by omega,e6,u6,_,⟨_,_,_,rfl⟩,o6,?_⟩;rw[hsn,<-QZ];exact l6
 ·have hii:i=G.blocks.length:=by omega
  subst hii;rw[Q8]at l3;refine go ?_;refine W5 ?_;refine⟨_,M.upU C u3 e3 o3 (zES l3 (QO C.bn M.hb)) (fun k hk=>QO M.hb (ZB l3 k hk).1) fun k h1 h2=> ?_,u3⟩;have:=(ZB M.oO k h1).2;have:=(ZB l3 k h2).1;omega
end
end
end Go.Proofs.YtmejfcakhpihlaaGreatDoor
