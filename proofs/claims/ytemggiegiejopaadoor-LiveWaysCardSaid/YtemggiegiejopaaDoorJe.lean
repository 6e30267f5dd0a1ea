/- What functions of the program come to in the abstract machine, and plain laws about it; no statement of the seat is proved in this text. -/
import Derived.Test.YtemggiegiejopaaDoorJd
import Derived.Test.YtemggiegiejopaaDoorJa
import Derived.Test.YtemggiegiejopaaDoorAmE
namespace Go.Proofs.YtemggiegiejopaaDoor
open Go.Am
set_option linter.unusedVariables false
set_option linter.unusedSimpArgs false
set_option maxHeartbeats 4000000
theorem zEi {T:List LType} {F:List LFn} {f par:Int} {L:List LBlk} (O:FnOk T F f L par) {b:Int} (hb:0≤b∧b<(L.length:Int)):zW T F f b=(L,0):=by
 have h1:(YE T F f).2=0:=by unfold YE;rw[O.ask];rfl
 have hL:=O.isL
 unfold zW
 rw[if_neg (by omega),if_neg (by rw[←hL];omega),←hL]
theorem zIJ {T:List LType} {F:List LFn} {f par:Int} {L:List LBlk} (O:FnOk T F f L par) {b:Int} (hb:0≤b∧b<(L.length:Int)):YU T F f b=(nxL L b,0):=by
 unfold YU;rw[zEi O hb];rfl
theorem preds_of {T:List LType} {F:List LFn} {f par:Int} {L:List LBlk} (O:FnOk T F f L par) {b:Int} (hb:0≤b∧b<(L.length:Int)):zAe T F f b=(ZB L b L.length,0):=by
 unfold zAe;rw[zEi O hb];rfl
theorem zCI {L:List LBlk} {b c:Int}:c∈ZB L b L.length↔0≤c∧c<(L.length:Int)∧b∈nxL L c:=by
 unfold ZB nxL
 rw[List.mem_map]
 constructor
 ·rintro⟨i,hi,rfl⟩
  obtain⟨h1,h2⟩:=List.mem_filter.1 hi
  rw[List.mem_range]at h1
  exact⟨by omega,by omega,by simpa using h2⟩
 ·rintro⟨h0,h1,h2⟩
  exact⟨c.toNat,List.mem_filter.2 ⟨List.mem_range.2 (by omega),by simpa using h2⟩,by omega⟩
theorem zAH (l:List Int) {i:Nat} (h:i<l.length):l.take (i+1)=l.take i++[l.getD i 0]:=by
 rw[List.take_add_one];simp[List.getD,List.getElem?_eq_getElem h]
theorem Yt {l:List Int} {i:Nat} (h:i<l.length):l.getD i 0∈l:=by
 rw[List.getD_eq_getElem?_getD,List.getElem?_eq_getElem h];exact List.getElem_mem h
theorem setsD {S:Zb} {P:List LWd→Prop} (h:∀ s∈S,P s) {i:Nat} (hi:i<S.length):P (S.getD i []):=by
 rw[List.getD_eq_getElem?_getD,List.getElem?_eq_getElem hi];exact h _ (List.getElem_mem hi)
theorem zIh {h h':AHeap} {v:Value} {l:List Int} {gm:Nat} (s:SlI h v l) (u:UpdM (.map (some gm)) h h') (hx:∀ a n c,v= .slice (some a) n c→a.block≠gm):SlI h' v l:=by
 refine⟨s.1,s.2.imp id ?_⟩
 rintro⟨g,off,row,rfl,hr,hc,hg⟩
 have:=hx _ _ _ rfl
 refine⟨g,off,row,rfl,?_,hc,Nat.lt_of_lt_of_le hg u.1⟩
 unfold zg at hr ⊢
 rw[u.2 g hg (fun e=>by cases e;exact this rfl)];exact hr
noncomputable def body34_0:ACode:=(.seq (.region [⟨some 36,none,(.bin .lss (.tmp 35) (.tmp 34))⟩]) (.seq (.cond (.tmp 36) .skip (.exit 0)) (.seq (.block 1 (.seq (.region [⟨some 37,none,(.idx 1 (.tmp 33) (.tmp 35))⟩,⟨some 38,none,(.load false 1 (.tmp 37))⟩,⟨some 8,none,(.mov (.tmp 38))⟩]) (.seq (.region [⟨some 40,none,(.mov (.tmp 6))⟩,⟨some 41,none,(.mov (.tmp 0))⟩,⟨some 42,none,(.nilCheck (.tmp 41))⟩,⟨some 43,none,(.fld 3 (.tmp 42))⟩,⟨some 44,none,(.load false 1 (.tmp 43))⟩,⟨some 45,none,(.mov (.tmp 8))⟩,⟨some 46,none,(.idx 1 (.tmp 44) (.tmp 45))⟩,⟨some 47,none,(.load false 1 (.tmp 46))⟩,⟨some 48,none,(.call (.func 42) [(.tmp 40),(.tmp 47)])⟩,⟨some 39,none,(.mov (.tmp 48))⟩,⟨some 49,none,(.extract (.tmp 39) 0)⟩,⟨some 50,none,(.extract (.tmp 39) 1)⟩,⟨some 6,none,(.mov (.tmp 49))⟩]) (.regionC [(⟨some 51,none,(.mov (.tmp 6))⟩,[]),(⟨some 52,none,(.mov (.tmp 0))⟩,[]),(⟨some 53,none,(.nilCheck (.tmp 52))⟩,[]),(⟨some 54,none,(.fld 0 (.tmp 53))⟩,[]),(⟨some 55,none,(.fld 1 (.tmp 54))⟩,[]),(⟨some 56,none,(.load false 1 (.tmp 55))⟩,[]),(⟨some 57,none,(.mov (.tmp 0))⟩,[]),(⟨some 58,none,(.nilCheck (.tmp 57))⟩,[]),(⟨some 59,none,(.fld 2 (.tmp 58))⟩,[]),(⟨some 60,none,(.load false 1 (.tmp 59))⟩,[]),(⟨some 61,none,(.idx 2 (.tmp 56) (.tmp 60))⟩,[]),(⟨some 62,none,(.fld 1 (.tmp 61))⟩,[]),(⟨some 63,none,(.load false 1 (.tmp 62))⟩,[]),(⟨some 64,none,(.mov (.tmp 8))⟩,[]),(⟨some 65,none,(.idx 5 (.tmp 63) (.tmp 64))⟩,[]),(⟨some 66,none,(.load true 5 (.tmp 65))⟩,[]),(⟨some 67,none,(.mov (.tmp 1))⟩,[]),(⟨some 68,none,(.call (.func 43) [(.tmp 66),(.tmp 67)])⟩,[]),(⟨some 69,none,(.call (.func 35) [(.tmp 51),(.tmp 68)])⟩,[]),(⟨some 6,none,(.mov (.tmp 69))⟩,[])])))) (.region [⟨some 70,none,(.bin .add (.tmp 35) (.const (.int .i64 1)))⟩,⟨some 35,none,(.mov (.tmp 70))⟩]))))
noncomputable def body34_1:ACode:=(.seq (.region [⟨some 113,none,(.bin .lss (.tmp 112) (.tmp 111))⟩]) (.seq (.cond (.tmp 113) .skip (.exit 2)) (.seq (.block 3 (.seq (.region [⟨some 114,none,(.idx 1 (.tmp 110) (.tmp 112))⟩,⟨some 115,none,(.load false 1 (.tmp 114))⟩,⟨some 12,none,(.mov (.tmp 115))⟩]) (.region [⟨some 116,none,(.mov (.tmp 0))⟩,⟨some 117,none,(.nilCheck (.tmp 116))⟩,⟨some 118,none,(.fld 5 (.tmp 117))⟩,⟨some 119,none,(.load false 1 (.tmp 118))⟩,⟨some 120,none,(.mov (.tmp 12))⟩,⟨some 121,none,(.mov (.tmp 1))⟩,⟨none,none,(.update (.tmp 119) (.tmp 120) (.tmp 121))⟩]))) (.region [⟨some 122,none,(.bin .add (.tmp 112) (.const (.int .i64 1)))⟩,⟨some 112,none,(.mov (.tmp 122))⟩]))))
noncomputable def body34:ACode:=(.seq (.regionC [(⟨some 14,none,(.mov (.tmp 0))⟩,[]),(⟨some 15,none,(.nilCheck (.tmp 14))⟩,[]),(⟨some 16,none,(.fld 0 (.tmp 15))⟩,[]),(⟨some 17,none,(.load true 2 (.tmp 16))⟩,[]),(⟨some 18,none,(.mov (.tmp 0))⟩,[]),(⟨some 19,none,(.nilCheck (.tmp 18))⟩,[]),(⟨some 20,none,(.fld 2 (.tmp 19))⟩,[]),(⟨some 21,none,(.load false 1 (.tmp 20))⟩,[]),(⟨some 22,none,(.mov (.tmp 1))⟩,[]),(⟨some 23,none,(.call (.func 18) [(.tmp 17),(.tmp 21),(.tmp 22)])⟩,[]),(⟨some 13,none,(.mov (.tmp 23))⟩,[]),(⟨some 24,none,(.extract (.tmp 13) 0)⟩,[]),(⟨some 25,none,(.extract (.tmp 13) 1)⟩,[]),(⟨some 4,none,(.mov (.tmp 24))⟩,[]),(⟨some 5,none,(.mov (.tmp 25))⟩,[])]) (.seq (.region [⟨some 26,none,(.mov (.tmp 0))⟩,⟨some 27,none,(.nilCheck (.tmp 26))⟩,⟨some 28,none,(.fld 4 (.tmp 27))⟩,⟨some 29,none,(.load false 1 (.tmp 28))⟩,⟨some 30,none,(.mov (.tmp 1))⟩,⟨some 31,none,(.idx 1 (.tmp 29) (.tmp 30))⟩,⟨some 32,none,(.load false 1 (.tmp 31))⟩,⟨some 6,none,(.mov (.tmp 32))⟩]) (.seq (.seq (.region [⟨some 33,none,(.mov (.tmp 4))⟩,⟨some 34,none,(.len (.tmp 33))⟩,⟨some 35,none,(.mov (.const (.int .i64 0)))⟩]) (.block 0 (.loop body34_0))) (.seq (.region [⟨some 71,none,(.mov (.tmp 0))⟩,⟨some 72,none,(.nilCheck (.tmp 71))⟩,⟨some 73,none,(.fld 4 (.tmp 72))⟩,⟨some 74,none,(.load false 1 (.tmp 73))⟩,⟨some 75,none,(.mov (.tmp 1))⟩,⟨some 76,none,(.mov (.tmp 6))⟩,⟨some 77,none,(.idx 1 (.tmp 74) (.tmp 75))⟩,⟨none,none,(.store 1 (.tmp 77) (.tmp 76))⟩]) (.seq (.region [⟨some 78,none,(.mov (.tmp 0))⟩,⟨some 79,none,(.mov (.tmp 1))⟩,⟨some 80,none,(.call (.func 24) [(.tmp 78),(.tmp 79),(.const (.int .i64 0))])⟩,⟨some 6,none,(.mov (.tmp 80))⟩]) (.seq (.seq (.region [⟨some 81,none,(.mov (.tmp 6))⟩,⟨some 82,none,(.mov (.tmp 0))⟩,⟨some 83,none,(.nilCheck (.tmp 82))⟩,⟨some 84,none,(.fld 3 (.tmp 83))⟩,⟨some 85,none,(.load false 1 (.tmp 84))⟩,⟨some 86,none,(.mov (.tmp 1))⟩,⟨some 87,none,(.idx 1 (.tmp 85) (.tmp 86))⟩,⟨some 88,none,(.load false 1 (.tmp 87))⟩,⟨some 89,none,(.call (.func 44) [(.tmp 81),(.tmp 88)])⟩]) (.cond (.tmp 89) .ret .skip)) (.seq (.region [⟨some 90,none,(.mov (.tmp 0))⟩,⟨some 91,none,(.nilCheck (.tmp 90))⟩,⟨some 92,none,(.fld 3 (.tmp 91))⟩,⟨some 93,none,(.load false 1 (.tmp 92))⟩,⟨some 94,none,(.mov (.tmp 1))⟩,⟨some 95,none,(.mov (.tmp 6))⟩,⟨some 96,none,(.idx 1 (.tmp 93) (.tmp 94))⟩,⟨none,none,(.store 1 (.tmp 96) (.tmp 95))⟩]) (.seq (.regionC [(⟨some 98,none,(.mov (.tmp 0))⟩,[]),(⟨some 99,none,(.nilCheck (.tmp 98))⟩,[]),(⟨some 100,none,(.fld 0 (.tmp 99))⟩,[]),(⟨some 101,none,(.load true 2 (.tmp 100))⟩,[]),(⟨some 102,none,(.mov (.tmp 0))⟩,[]),(⟨some 103,none,(.nilCheck (.tmp 102))⟩,[]),(⟨some 104,none,(.fld 2 (.tmp 103))⟩,[]),(⟨some 105,none,(.load false 1 (.tmp 104))⟩,[]),(⟨some 106,none,(.mov (.tmp 1))⟩,[]),(⟨some 107,none,(.call (.func 45) [(.tmp 101),(.tmp 105),(.tmp 106)])⟩,[]),(⟨some 97,none,(.mov (.tmp 107))⟩,[]),(⟨some 108,none,(.extract (.tmp 97) 0)⟩,[]),(⟨some 109,none,(.extract (.tmp 97) 1)⟩,[]),(⟨some 9,none,(.mov (.tmp 108))⟩,[]),(⟨some 10,none,(.mov (.tmp 109))⟩,[])]) (.seq (.region [⟨some 110,none,(.mov (.tmp 9))⟩,⟨some 111,none,(.len (.tmp 110))⟩,⟨some 112,none,(.mov (.const (.int .i64 0)))⟩]) (.block 2 (.loop body34_1)))))))))))
set_option maxRecDepth 100000 in
theorem tab34:tb.code 34=some ⟨123,[],body34⟩:=by kernel_rfl
theorem look_ok (hB h:AHeap) (X gp gb ge gm:Nat) (vt vf:Value) (T:List LType) (F:List LFn) (f par:Int) (L:List LBlk) (bg ed:Zb) (es:List (Int×Int)) (b:Int) (S:FS hB h X gp gb ge gm vt vf f bg ed es) (E:EnvL hB vt vf T F) (O:FnOk T F f L par)
  (U:∀ x∈L,BlkU x (yG par L) L.length) (hb:0≤b∧b<(L.length:Int)) (lb:bg.length=L.length) (le:ed.length=L.length) (okb:∀ s∈bg,OkW s∧∀ r,InW s r→r<yG par L) (oke:∀ s∈ed,OkW s∧∀ r,InW s r→r<yG par L):
  WC Tryd.prog tb 34 [.pointer (some ⟨gp,0,none⟩),I b] h fun _ h'=>∃ s1 s es',FS hB h' X gp gb ge gm vt vf f (bg.set b.toNat s) (ed.set b.toNat s1) es'∧(OkW s1∧∀ r,InW s1 r→r<yG par L)∧(OkW s∧∀ r,InW s r→r<yG par L)∧
   (∀ r,InW s1 r↔inS ed b r∨Yw L (inS bg) b r)∧(∀ r,InW s r↔yZ par L b 0 (InW s1) r)∧((s=bg.getD b.toNat []∧es'=es)∨(s≠bg.getD b.toNat []∧(ZJ es→ZJ es')∧∀ c,c∈es'.map (·.1)↔c∈es.map (·.1)∨c∈ZB L b L.length)):=by
 have hF:=E.sm.funcs
 have hN:0≤yG par L∧yG par L≤228:=by
  have:=O.par0;have:=O.parl;have:=O.many;have:=yp L;unfold yG;omega
 have hf0:=O.f0
 have hf1:=O.f1
 have hisL:=O.isL
 have hlen:=O.len
 have hmB:=E.hm
 have hnx:=zIJ O hb
 have hpr:=preds_of O hb
 have hUb:=U _ (zL (l:=L) (i:=b.toNat) (by omega))
 have hrange:∀ k∈nxL L b,0≤k∧k<(L.length:Int):=hUb.next
 have hnl:(nxL L b).length≤2:=by unfold nxL Z0;split<;>(try split)<;>(try split)<;>simp
 have hpl:=zD6 L b L.length
 have hpm:∀ c,c∈ZB L b L.length→0≤c∧c<(L.length:Int):=fun c hc=>let ⟨a,b,_⟩:=zCI.1 hc;⟨a,b⟩
 obtain⟨ta,tn,tk,rfl⟩:=zI E.st
 obtain⟨ga,gn,gk,rfl⟩:=zI E.sf
 have E0:=E.ext S.e
 have o1:=S.own
 refine WC.of (zF 34) tab34 ?_;simp only[zO,Nat.zero_add,Nat.reduceAdd]
 refine go ?_
 refine WX.regionU2 0 rfl rfl ?_
 have oX:OwnC hB (inC (zB 0 h)) (.pointer (some ⟨gp,0,none⟩)) [.slice ta tn tk,.slice ga gn gk,I f,.slice (some ⟨gb,0,none⟩) bg.length 1,.slice (some ⟨ge,0,none⟩) ed.length 1,.map (some gm)]:=o1
 refine goU ?_
 refine WO.con (zE4 (inC (zB 0 h)) _ _ T F f b E0.inC.tt (Nat.le_refl _) E0.sm E0.inC.st E0.inC.sf) ?_
 rintro _ h1 ⟨⟨vn,rfl,sn,_⟩,e1⟩
 rw[hnx]at sn ⊢
 refine WO.nil ?_
 refine yq e1 zP ?_
 refine goU ?_
 have e01:Ext h (outC h (inC h1)):=extI e1
 have sn2:SlI (outC h (inC h1)) vn (nxL L b):=sn
 generalize outC h (inC h1)=h2 at e01 sn2 ⊢
 clear sn e1 oX
 have S2:=S.ext e01
 have o2:=S2.own
 have sE2:=S2.ends
 obtain⟨csE,⟨ve,rfl,hfar⟩,pcE,hsE⟩:=yS S2.ends (i:=b.toNat) (by omega)
 obtain⟨ea,en,ek,rfl⟩:=yi hfar.1
 have hed:List.getD ed b.toNat (default:List LWd)=ed.getD b.toNat []:=rfl
 rw[hed]at hfar
 have oed:=setsD oke (i:=b.toNat) (by omega)
 refine go ?_
 refine WX.loopA [36,37,38,8,40,41,42,43,44,45,46,47,48,39,49,50,6,51,52,53,54,55,56,57,58,59,60,61,62,63,64,65,66,67,68,69,6,70,35] (by kernel_rfl) (fun i=>(nxL L b).length - i) (fun i t h3=>∃ v s,zC t 35=I i∧i≤(nxL L b).length∧Ext h2 h3∧zC t 6=v∧FarW h3 X v s∧Hid (OkW s∧∀ r,InW s r→r<yG par L)∧Hid (∀ r,InW s r↔inS ed b r∨∃ k∈(nxL L b).take i,inS bg k r∨r∈ZX (L.getD k.toNat default) b)) 0 ?_ ?_
 ·exact⟨_,ed.getD b.toNat [],sl_,Nat.zero_le _,Ext.refl _,sl_,hfar,⟨oed⟩,⟨fun r=>by simp[inS]⟩⟩
 rintro i t h3 hsame ⟨v,s,s35,hi,e3,s6,hv,os,hs⟩
 have S3:=S2.ext e3
 have E3:=E.ext S3.e
 have o3:=S3.own
 have sn3:=SlI.ext sn2 e3
 have hsl:s.length≤228:=by
  have:=zAM (N:=(yG par L).toNat) os.out.1 fun r q=>by have:=os.out.2 r q;omega
  omega
 obtain⟨wa,wn,wk,rfl⟩:=yi hv.1
 refine go ?_
 refine WX.br (fun hc=> ?_) (fun hc=> ?_)<;>simp only[DB]at hc
 ·have hi':i<(nxL L b).length:=by omega
  have hk:=hrange _ (Yt hi')
  have htk:=zAH (nxL L b) hi'
  have sB3:=S3.begs
  obtain⟨csB,⟨vb,rfl,hfb⟩,pcB,hsB⟩:=yS S3.begs (i:=((nxL L b).getD i 0).toNat) (by omega)
  obtain⟨xa,xn,xk,rfl⟩:=yi hfb.1
  have obk:=setsD okb (i:=((nxL L b).getD i 0).toNat) (by omega)
  have hbd:List.getD bg ((nxL L b).getD i 0).toNat (default:List LWd)=bg.getD ((nxL L b).getD i 0).toNat []:=rfl
  rw[hbd]at hfb
  have hbl:(bg.getD ((nxL L b).getD i 0).toNat []).length≤228:=by
   have:=zAM (N:=(yG par L).toNat) obk.1 fun r q=>by have:=obk.2 r q;omega
   omega
  have hUk:=U _ (zL (l:=L) (i:=((nxL L b).getD i 0).toNat) (by omega))
  have hbm:=O.ins _ (zL (l:=L) (i:=((nxL L b).getD i 0).toNat) (by omega))
  have hm3:h3.mark≤h3.n:=E3.hm
  refine go ?_
  refine WO.con (or_ok h3 _ _ s _ hv.1 hfb.1 (by omega) (by omega) hm3) ?_
  rintro _ h4 ⟨⟨v4,rfl,m4⟩,e4⟩
  rw[zDl os.out.1 obk.1]
  rw[zD1 os.out.1 obk.1]at m4
  obtain⟨oo,io⟩:=or_is os.out.1 obk.1
  have hlo:=ZA (fun a b=>a|||b) s (bg.getD ((nxL L b).getD i 0).toNat [])
  obtain⟨s4,hs4⟩:∃ s4,s4=zj (fun a b=>a|||b) s (bg.getD ((nxL L b).getD i 0).toNat []):=⟨_,rfl⟩
  have hor:∀ r,InW s4 r↔InW s r∨inS bg ((nxL L b).getD i 0) r:=fun r=>by
   rw[hs4,←Zy,io,Bool.or_eq_true,Zy,Zy];exact Iff.rfl
  have oo:OkW s4:=by rw[hs4];exact oo
  rw[←hs4]at m4 hlo
  clear hs4 io
  have k4:=m4.sl
  obtain⟨ya,yn,yk,rfl⟩:=yi k4
  have hX3:=S3.hX
  have hor:=Hid.mk hor
  have hfar4:=m4.far hX3
  clear m4 hfb pcB hsB sB3
  have S4:=S3.ext e4
  have E4:=E.ext S4.e
  have o4:=S4.own
  have sf4:=E4.sf
  refine go ?_
  refine WX.regionU2 0 rfl rfl ?_
  have oX:OwnC hB (inC (zB 0 h4)) (.pointer (some ⟨gp,0,none⟩)) [.slice ta tn tk,.slice ga gn gk,I f,.slice (some ⟨gb,0,none⟩) bg.length 1,.slice (some ⟨ge,0,none⟩) ed.length 1,.map (some gm)]:=o4
  have sfX:SlF (inC (zB 0 h4)) (.slice ga gn gk) F:=sf4
  obtain⟨csF,⟨vbl,rfl,sb,hlb⟩,pcF,hsF⟩:=y8 sf4 (i:=f.toNat) (by omega)
  obtain⟨ba,bn,bk,rfl⟩:=zI sb
  rw[←hisL]at sb
  have sbX:SlB (inC (zB 0 h4)) (.slice ba bn bk) L:=sb
  obtain⟨csK,hcsK,pcK,hsK⟩:=y8 sb (i:=((nxL L b).getD i 0).toNat) (by omega)
  have hcsK0:=hcsK
  have pcFX:=(pcF _ (Ext.refl _)).2
  have pcFX:Piece (inC (zB 0 h4)) (.slice ga gn gk) (f.toNat * 2) [I (F.getD f.toNat default).sig,.slice ba bn bk]:=pcFX
  have pcKX:=(pcK _ (Ext.refl _)).2
  obtain⟨vi,rfl,si,hli⟩:=hcsK0
  obtain⟨ia,iN,ik,rfl⟩:=zI si
  have pcKX:Piece (inC (zB 0 h4)) (.slice ba bn bk) (((nxL L b).getD i 0).toNat * 5) [.slice ia iN ik,.int .u8 (L.getD ((nxL L b).getD i 0).toNat default).fin.kind,I (L.getD ((nxL L b).getD i 0).toNat default).fin.a,I (L.getD ((nxL L b).getD i 0).toNat default).fin.to,I (L.getD ((nxL L b).getD i 0).toNat default).fin.els]:=pcKX
  have hcsX:RBlk (inC (zB 0 h4)) [.slice ia iN ik,.int .u8 (L.getD ((nxL L b).getD i 0).toNat default).fin.kind,I (L.getD ((nxL L b).getD i 0).toNat default).fin.a,I (L.getD ((nxL L b).getD i 0).toNat default).fin.to,I (L.getD ((nxL L b).getD i 0).toNat default).fin.els] (L.getD ((nxL L b).getD i 0).toNat default):=hcsK
  refine goU ?_
  refine WO.con (phis_ok (inC (zB 0 h4)) (L.getD ((nxL L b).getD i 0).toNat default) _ b hcsX hbm (fun x hx=>(hUk.ins x hx).frm) (fun x hx e=>((hUk.ins x hx).phi e).1)) ?_
  rintro vp h5 ⟨op,e5⟩
  refine WO.nil ?_
  refine yq e5 zP ?_
  have hpl2:(ZX (L.getD ((nxL L b).getD i 0).toNat default) b).length≤2560:=by
   have:=zDU (L.getD ((nxL L b).getD i 0).toNat default).ins b fun x hx=>(hUk.ins x hx).frm
   have h2:(ZX (L.getD ((nxL L b).getD i 0).toNat default) b).length≤20 * (L.getD ((nxL L b).getD i 0).toNat default).ins.length:=this
   omega
  have hpr2:∀ r∈ZX (L.getD ((nxL L b).getD i 0).toNat default) b,0≤r∧r<yG par L:=fun r hr=>phis_in hUk hr
  have k5:SlW (inC h5) (.slice ya yn yk) s4:=by have:=SlW.ext k4 (extI e5);exact this
  have sp5:SlI (inC h5) vp (ZX (L.getD ((nxL L b).getD i 0).toNat default) b):=by have:=op.sl;exact this
  refine goU ?_
  refine WO.con (zFM (inC h5) _ _ s4 (ZX (L.getD ((nxL L b).getD i 0).toNat default) b) k5 sp5 oo (fun n hn=>by have:=hpr2 n hn;omega) (by omega) (by omega) (Nat.le_refl _)) ?_
  rintro v6 h6 ⟨⟨t6,m6,o6,len6,mem6⟩,e6⟩
  refine WO.nil ?_
  refine yq e6 zP ?_
  have e46:Ext h4 (outC h4 (inC h6)):=extI2 e5 e6
  have m6:MineW h4 (outC h4 (inC h6)) v6 t6:=mineR m6 (by have:=e5.n;exact this)
  have hX4:=S4.hX
  refine goU ?_
  have hfar6:=m6.far hX4
  generalize outC h4 (inC h6)=h7 at e46 m6 hfar6 ⊢
  refine go ?_
  refine zA (i+1) (by omega) ⟨v6,t6,sln,by omega,e3.trans (e4.trans e46),sl_,hfar6,⟨o6,fun r q=> ?_⟩,⟨fun r=> ?_⟩⟩
  ·rcases(mem6 r).1 q with q|q
   ·rcases(hor.out r).1 q with q|q
    ·exact os.out.2 r q
    ·exact obk.2 r q
   ·exact(hpr2 r q).2
  ·rw[mem6,hor.out,hs.out,htk]
   constructor
   ·rintro(((a|⟨k,hk,q⟩)|c)|d)
    ·exact .inl a
    ·exact .inr ⟨k,List.mem_append.2 (.inl hk),q⟩
    ·exact .inr ⟨_,List.mem_append.2 (.inr (List.mem_singleton.2 rfl)),.inl c⟩
    ·exact .inr ⟨_,List.mem_append.2 (.inr (List.mem_singleton.2 rfl)),.inr d⟩
   ·rintro(a|⟨k,hk,q⟩)
    ·exact .inl (.inl (.inl a))
    ·rcases List.mem_append.1 hk with hk|hk
     ·exact .inl (.inl (.inr ⟨k,hk,q⟩))
     ·rw[List.mem_singleton]at hk
      subst hk
      exact q.elim (fun c=> .inl (.inr c)) .inr
 ·have hil:i=(nxL L b).length:=by omega
  subst hil
  rw[List.take_length]at hs
  have sE3:=S3.ends
  have hsets:∀ x:List LWd,(ed.set b.toNat x).getD b.toNat []=x:=fun x=>by
   rw[List.getD_eq_getElem?_getD,List.getElem?_set_self (by omega)];rfl
  refine go ?_
  refine WO.stRow (i:=b.toNat) S3.se S3.e S3.de S3.hX (by omega) hv ?_
  intro h4 e4 r4 n4 k4
  have S4:=S3.setE e4 r4 (by rw[List.length_set]) (by omega) k4
  have E4:=E.ext e4
  have hE:inS (ed.set b.toNat s) b=InW s:=by funext r;unfold inS;rw[hsets]
  have hat:WC Tryd.prog tb 24 [.pointer (some ⟨gp,0,none⟩),I b,I 0] h4 _:=zER hB h4 X gp gb ge gm _ _ T F f par L bg (ed.set b.toNat s) es b 0 S4 E4 O U hb (Nat.zero_le _) (by rw[List.length_set];exact le) (by rw[hsets,hE];exact os.out)
  refine go ?_
  refine WO.con hat ?_
  rintro v5 h5 ⟨⟨t5,m5,o5,mem5⟩,e5⟩
  rw[hE]at mem5
  clear hat
  have S5:=S4.ext e5
  have E5:=E4.ext e5
  have k5:=m5.sl
  have hX4:=S4.hX
  have far5:=m5.far hX4
  obtain⟨ya,yn,yk,rfl⟩:=yi k5
  have o5p:=S5.own
  have sB5:=S5.begs
  obtain⟨csB,⟨vb,rfl,hfb⟩,pcB,hsB⟩:=yS S5.begs (i:=b.toNat) (by omega)
  obtain⟨xa,xn,xk,rfl⟩:=yi hfb.1
  have hbd:List.getD bg b.toNat (default:List LWd)=bg.getD b.toNat []:=rfl
  rw[hbd]at hfb
  have hlt:∀ r,InW t5 r→r<yG par L:=fun r q=>by
   have q:=(mem5 r).1 q
   unfold yZ at q
   exact(zBn (fun x hx=>(hUb.ins x (List.mem_of_mem_drop hx)).uses) (fun r q=>q.elim (fun q=>hUb.ends r q) fun q=>⟨(InW.range os.out.1 q).1,os.out.2 r q⟩) q).2
  have ht5:t5.length≤228:=by
   have:=zAM (N:=(yG par L).toNat) o5 fun r q=>by have:=hlt r q;omega
   omega
  have mem5:=Hid.mk mem5
  have hlt:=Hid.mk hlt
  have hs':Hid (∀ r,InW s r↔inS ed b r∨Yw L (inS bg) b r):=⟨hs.out⟩
  refine go ?_
  refine WO.con (same_ok h5 _ _ t5 (bg.getD b.toNat []) k5 hfb.1 (by omega)) ?_
  rintro _ _ ⟨rfl,rfl⟩
  by_cases heq:t5=bg.getD b.toNat []
  ·rw[decide_eq_true heq]
   refine go ?_
   refine rt ?_
   refine⟨s,t5,es,?_,os.out,⟨o5,hlt.out⟩,hs'.out,mem5.out,.inl ⟨heq,rfl⟩⟩
   have hself:bg.set b.toNat t5=bg:=by
    rw[heq,List.getD_eq_getElem?_getD,List.getElem?_eq_getElem (show b.toNat<bg.length by omega)]
    exact List.set_getElem_self _
   rw[hself];exact S5
  ·rw[decide_eq_false heq]
   refine go ?_
   refine WO.stRow (i:=b.toNat) S5.sb S5.e S5.db S5.hX (by omega) far5 ?_
   intro h6 e6 r6 n6 k6
   have S6:=S5.setB e6 r6 (by rw[List.length_set]) (by omega) k6
   have E6:=E.ext e6
   have o6p:=S6.own
   clear sB5 pcB hfb hsB far5 k5 o5p S5 S4 S3 sE3
   refine go ?_
   refine WX.regionU2 0 rfl rfl ?_
   have oX:OwnC hB (inC (zB 0 h6)) (.pointer (some ⟨gp,0,none⟩)) [.slice ta tn tk,.slice ga gn gk,I f,.slice (some ⟨gb,0,none⟩) (bg.set b.toNat t5).length 1,.slice (some ⟨ge,0,none⟩) (ed.set b.toNat s).length 1,.map (some gm)]:=o6p
   refine goU ?_
   refine WO.con (Preds_ok (inC (zB 0 h6)) _ _ T F f b E6.inC.tt (Nat.le_refl _) E6.sm E6.inC.st E6.inC.sf) ?_
   rintro _ h7 ⟨⟨vp,rfl,op⟩,e7⟩
   rw[hpr]at op ⊢
   refine WO.nil ?_
   refine yq e7 zP ?_
   refine goU ?_
   have e67:Ext h6 (outC h6 (inC h7)):=extI e7
   have sp:SlI (outC h6 (inC h7)) vp (ZB L b L.length):=by have:=op.sl;exact this
   have hpX:∀ a n c,vp= .slice (some a) n c→a.block≠gm:=fun a n c e=>by
    rcases op with ⟨q,_⟩|⟨q,q1,q2,q3,q4⟩
    ·rw[q]at e;cases e
    ·rw[q3]at e;cases e
     have h1:h6.n≤q:=q1
     have:=S6.hX
     have:=S6.dm.2
     show q≠gm
     omega
   generalize outC h6 (inC h7)=h8 at e67 sp ⊢
   have S8:=S6.ext e67
   have hpl16:(ZB L b L.length).length≤16:=by omega
   generalize hA:ZB L b L.length=A at *
   refine go ?_
   refine WX.loopA [113,114,115,12,116,117,118,119,120,121,122,112] (by kernel_rfl) (fun i=>A.length - i) (fun i t h9=>∃ es',zC t 112=I i∧i≤A.length∧FS hB h9 X gp gb ge gm (.slice ta tn tk) (.slice ga gn gk) f (bg.set b.toNat t5) (ed.set b.toNat s) es'∧SlI h9 vp A∧Hid ((ZJ es→ZJ es')∧∀ c,c∈es'.map (·.1)↔c∈es.map (·.1)∨c∈A.take i)) 0 ?_ ?_
   ·exact⟨es,sl_,Nat.zero_le _,S8,sp,⟨id,fun c=>by simp⟩⟩
   rintro i t9 h9 hsame9 ⟨es',s112,hi9,S9,sp9,hK⟩
   have o9:=S9.own
   refine go ?_
   refine WX.br (fun hc9=> ?_) (fun hc9=> ?_)<;>simp only[DB]at hc9
   ·have hi':i<A.length:=by omega
    have htk:=zAH A hi'
    refine go ?_
    refine WO.upM S9.rm S9.e ?_
    intro h10 e10 o10 u10
    have S10:=S9.setM e10 o10 u10
    have sp10:=zIh sp9 u10 hpX
    refine go ?_
    refine zA (i+1) (by omega) ⟨_,sln,by omega,S10,sp10,⟨fun q=>zCE (hK.out.1 q),fun c=> ?_⟩⟩
    rw[zCP,hK.out.2,htk,List.mem_append,List.mem_singleton]
    constructor
    ·rintro(a|a|a)
     ·exact .inr (.inr a)
     ·exact .inl a
     ·exact .inr (.inl a)
    ·rintro(a|a|a)
     ·exact .inr (.inl a)
     ·exact .inr (.inr a)
     ·exact .inl a
   ·refine go ?_
    refine rtN ?_
    rw[show i=A.length by omega,List.take_length]at hK
    exact⟨s,t5,es',S9,os.out,⟨o5,hlt.out⟩,hs'.out,mem5.out,.inr ⟨heq,hK.out.1,hK.out.2⟩⟩
end Go.Proofs.YtemggiegiejopaaDoor
namespace Go.Proofs.YtemggiegiejopaaDoor
open Go.Am
set_option linter.unusedVariables false
set_option linter.unusedSimpArgs false
set_option maxHeartbeats 4000000
theorem zGm (v:Value):∀ n,zy [v] n=List.replicate n v
 |0=>rfl
 |n+1=>by rw[zy,zGm v n];rfl
theorem keys_nil {es:List (Int×Int)} (h:∀ c,c∉es.map (·.1)):es=[]:=by
 cases es with
 |nil=>rfl
 |cons e es=>exact absurd (List.mem_map.2 ⟨e,List.mem_cons_self ..,rfl⟩) (h e.1)
noncomputable def body23_0:ACode:=(.seq (.region [⟨some 32,none,(.bin .lss (.tmp 31) (.tmp 30))⟩]) (.seq (.cond (.tmp 32) .skip (.exit 0)) (.seq (.block 1 (.seq (.region [⟨some 33,none,(.mov (.tmp 31))⟩,⟨some 8,none,(.mov (.tmp 33))⟩]) (.region [⟨some 34,none,(.mov (.tmp 6))⟩,⟨some 35,none,(.nilCheck (.tmp 34))⟩,⟨some 36,none,(.fld 5 (.tmp 35))⟩,⟨some 37,none,(.load false 1 (.tmp 36))⟩,⟨some 38,none,(.mov (.tmp 8))⟩,⟨some 39,none,(.mov (.tmp 8))⟩,⟨none,none,(.update (.tmp 37) (.tmp 38) (.tmp 39))⟩]))) (.region [⟨some 40,none,(.bin .add (.tmp 31) (.const (.int .i64 1)))⟩,⟨some 31,none,(.mov (.tmp 40))⟩]))))
noncomputable def body23_1:ACode:=(.seq (.region [⟨some 49,none,(.bin .lss (.tmp 48) (.tmp 47))⟩]) (.seq (.cond (.tmp 49) .skip (.exit 4)) (.seq (.block 5 (.seq (.region [⟨some 50,none,(.mov (.tmp 48))⟩,⟨some 9,none,(.mov (.tmp 50))⟩]) (.seq (.region [⟨some 52,none,(.mov (.tmp 6))⟩,⟨some 53,none,(.nilCheck (.tmp 52))⟩,⟨some 54,none,(.fld 5 (.tmp 53))⟩,⟨some 55,none,(.load false 1 (.tmp 54))⟩,⟨some 56,none,(.mov (.tmp 9))⟩,⟨some 57,none,(.lookup true (.int .i64 0) (.tmp 55) (.tmp 56))⟩,⟨some 51,none,(.mov (.tmp 57))⟩,⟨some 58,none,(.extract (.tmp 51) 0)⟩,⟨some 59,none,(.extract (.tmp 51) 1)⟩,⟨some 10,none,(.mov (.tmp 58))⟩,⟨some 11,none,(.mov (.tmp 59))⟩]) (.seq (.region [⟨some 60,none,(.mov (.tmp 11))⟩]) (.cond (.tmp 60) (.seq (.region [⟨some 61,none,(.mov (.tmp 6))⟩,⟨some 62,none,(.nilCheck (.tmp 61))⟩,⟨some 63,none,(.fld 5 (.tmp 62))⟩,⟨some 64,none,(.load false 1 (.tmp 63))⟩,⟨some 65,none,(.mov (.tmp 9))⟩,⟨none,none,(.delete (.tmp 64) (.tmp 65))⟩]) (.region [⟨some 66,none,(.mov (.tmp 7))⟩,⟨some 67,none,(.mov (.tmp 9))⟩,⟨some 68,none,(.call (.tmp 66) [(.tmp 67)])⟩])) .skip))))) (.region [⟨some 69,none,(.bin .add (.tmp 48) (.const (.int .i64 1)))⟩,⟨some 48,none,(.mov (.tmp 69))⟩]))))
noncomputable def body23_2:ACode:=(.seq (.seq (.region [⟨some 41,none,(.mov (.tmp 6))⟩,⟨some 42,none,(.nilCheck (.tmp 41))⟩,⟨some 43,none,(.fld 5 (.tmp 42))⟩,⟨some 44,none,(.load false 1 (.tmp 43))⟩,⟨some 45,none,(.lenMap (.tmp 44))⟩,⟨some 46,none,(.bin .gtr (.tmp 45) (.const (.int .i64 0)))⟩]) (.cond (.tmp 46) .skip (.exit 2))) (.block 3 (.seq (.region [⟨some 47,none,(.mov (.tmp 5))⟩,⟨some 48,none,(.mov (.const (.int .i64 0)))⟩]) (.block 4 (.loop body23_1)))))
noncomputable def body23:ACode:=(.seq (.region [⟨some 2,none,(.box (.tmp 0))⟩,⟨some 4,none,(.mov (.const (.pointer none)))⟩]) (.seq (.region [⟨some 12,none,(.fld 1 (.tmp 2))⟩,⟨some 13,none,(.load false 1 (.tmp 12))⟩,⟨some 14,none,(.mov (.tmp 1))⟩,⟨some 15,none,(.idx 2 (.tmp 13) (.tmp 14))⟩,⟨some 16,none,(.fld 1 (.tmp 15))⟩,⟨some 17,none,(.load false 1 (.tmp 16))⟩,⟨some 18,none,(.len (.tmp 17))⟩,⟨some 5,none,(.mov (.tmp 18))⟩]) (.seq (.regionC [(⟨some 19,none,(.load true 2 (.tmp 2))⟩,[]),(⟨some 20,none,(.mov (.tmp 1))⟩,[]),(⟨some 21,none,(.mov (.tmp 5))⟩,[]),(⟨some 22,none,(.mkSlice 1 [(.slice none 0 0)] (.tmp 21) (.tmp 21))⟩,[]),(⟨some 23,none,(.mov (.tmp 5))⟩,[]),(⟨some 24,none,(.mkSlice 1 [(.slice none 0 0)] (.tmp 23) (.tmp 23))⟩,[]),(⟨some 25,none,.mkMap⟩,[]),(⟨some 26,none,(.build [(.slice none 0 0),(.slice none 0 0),(.int .i64 0),(.slice none 0 0),(.slice none 0 0),(.map none)] [(0,2,(.tmp 19)),(2,1,(.tmp 20)),(3,1,(.tmp 22)),(4,1,(.tmp 24)),(5,1,(.tmp 25))])⟩,[]),(⟨some 27,none,(.box (.tmp 26))⟩,[]),(⟨some 6,none,(.mov (.tmp 27))⟩,[])]) (.seq (.region [⟨some 28,none,(.mov (.tmp 6))⟩,⟨some 29,none,(.mkFunc (.func 34) [(.tmp 28)] [])⟩,⟨some 7,none,(.mov (.tmp 29))⟩]) (.seq (.seq (.region [⟨some 30,none,(.mov (.tmp 5))⟩,⟨some 31,none,(.mov (.const (.int .i64 0)))⟩]) (.block 0 (.loop body23_0))) (.seq (.block 2 (.loop body23_2)) (.seq (.region [⟨some 70,none,(.mov (.tmp 6))⟩,⟨some 71,none,(.nilCheck (.tmp 70))⟩,⟨some 72,none,(.fld 5 (.tmp 71))⟩,⟨some 73,none,(.load false 1 (.tmp 72))⟩,⟨none,none,(.clear (.tmp 73))⟩]) (.seq (.region [⟨some 74,none,(.mov (.tmp 6))⟩,⟨some 4,none,(.mov (.tmp 74))⟩]) .ret))))))))
set_option maxRecDepth 100000 in
theorem tab23:tb.code 23=some ⟨75,[(4,none)],body23⟩:=by kernel_rfl
theorem zIy (h:AHeap) (vt vf:Value) (T:List LType) (F:List LFn) (f par:Int) (L:List LBlk) (E:EnvL h vt vf T F) (O:FnOk T F f L par) (U:∀ x∈L,BlkU x (yG par L) L.length):
  WC Tryd.prog tb 23 [.agg #[vt,vf],I f] h fun r h'=>∃ X gp gb ge gm bg ed,r= .pointer (some ⟨gp,0,none⟩)∧FS h h' X gp gb ge gm vt vf f bg ed []∧LFix par L (inS bg) (inS ed)∧bg.length=L.length∧ed.length=L.length∧(∀ s∈bg,OkW s∧∀ r,InW s r→r<yG par L)∧(∀ s∈ed,OkW s∧∀ r,InW s r→r<yG par L):=by
 have hF:=E.sm.funcs
 have hN:0≤yG par L∧yG par L≤228:=by
  have:=O.par0;have:=O.parl;have:=O.many;have:=yp L;unfold yG;omega
 have hf0:=O.f0
 have hf1:=O.f1
 have hisL:=O.isL
 have hlen:=O.len
 have hm:=E.hm
 obtain⟨ta,tn,tk,rfl⟩:=zI E.st
 obtain⟨ga,gn,gk,rfl⟩:=zI E.sf
 refine WC.of (zF 23) tab23 ?_;simp only[zO,Nat.zero_add,Nat.reduceAdd]
 refine go ?_
 refine WO.bx ?_
 intro p2 h1 e1 o2
 have E1:=E.ext e1
 have sf1:=E1.sf
 obtain⟨csF,⟨vb,rfl,sb,hlb⟩,pcF,hsF⟩:=yS (i:=f.toNat) sf1 (by omega)
 obtain⟨ba,bn,bk,rfl⟩:=zI sb
 rw[←hisL]at sb
 refine go ?_
 refine WX.regionU2 4 rfl rfl ?_
 have eA:Ext h1 (zB 4 h1):=zCF 4 h1
 have oX:=o2.ext eA
 have oX:OwnC h (inC (zB 4 h1)) p2 [.slice ta tn tk,.slice ga gn gk]:=oX
 have hm1:h1.mark≤h1.n:=E1.hm
 refine goU ?_
 refine WU2.mkSl (n:=L.length) hm1 (by omega) ?_
 intro X1 n1 g1
 refine goU ?_
 refine WU2.mkSl (n:=L.length) (by omega) (by omega) ?_
 intro X2 n2 g2
 refine WU2.mkMp (by omega) ?_
 intro X3 n3 g3
 refine goU ?_
 refine WU2.mkBx (cs:=[.slice ta tn tk,.slice ga gn gk,I f,.slice (some ⟨h1.n,0,none⟩) L.length 1,.slice (some ⟨h1.n+1,0,none⟩) L.length 1,.map (some (h1.n+1+1))]) (by omega) ?_
 intro X4 n4 g4
 refine goU ?_
 have hn4:X4.n=h1.n+4:=by rw[n4,n3,n2,n1];rfl
 have gall:∀ j,X4.get j=if j=h1.n+3 then some (.row [.slice ta tn tk,.slice ga gn gk,I f,.slice (some ⟨h1.n,0,none⟩) L.length 1,.slice (some ⟨h1.n+1,0,none⟩) L.length 1,.map (some (h1.n+2))] true 0) else if j=h1.n+2 then some (.map [] 0) else if j=h1.n+1 then some (.row (List.replicate L.length (.slice none 0 0)) true 0) else if j=h1.n then some (.row (List.replicate L.length (.slice none 0 0)) true 0) else h1.get j:=fun j=>by
  rw[g4,g3,g2,g1,zGm];rfl
 have eH:Ext h1 (outC h1 (inC X4)):=⟨by show h1.n≤X4.n;omega,fun j hj=>by show X4.get j=_;rw[gall,if_neg (by omega),if_neg (by omega),if_neg (by omega),if_neg (by omega)],fun w j hj=>by
  have hj:X4.n≤j:=hj
  show X4.get j=_
  rw[gall,if_neg (by omega),if_neg (by omega),if_neg (by omega),if_neg (by omega)];exact w j (by omega),rfl,fun _=>rfl⟩
 have hrow:∀ H:AHeap,RowS H (h1.n+4) (h1.n) (List.replicate L.length [])→True:=fun _ _=>trivial
 have hfn:∀ (H:AHeap) (g:Nat),H.get g=some (.row (List.replicate L.length (.slice none 0 0)) true 0)→RowS H (h1.n+4) g (List.replicate L.length []):=fun H g hg=>⟨_,hg,by simp,fun i hi=>by
  rw[List.length_replicate]at hi
  rw[List.getD_eq_getElem?_getD,List.getElem?_replicate,if_pos hi,List.getD_eq_getElem?_getD,List.getElem?_replicate,if_pos hi]
  exact FarW.nil⟩
 have S0:FS h (outC h1 (inC X4)) (h1.n+4) (h1.n+3) h1.n (h1.n+1) (h1.n+2) (.slice ta tn tk) (.slice ga gn gk) f (List.replicate L.length []) (List.replicate L.length []) []:=by
  have hh:=e1.n
  refine⟨e1.trans eH,by show h1.n+4≤X4.n;omega,⟨by omega,by omega⟩,⟨by omega,by omega⟩,⟨by omega,by omega⟩,⟨by omega,by omega⟩,⟨by omega,by omega,by omega,by omega,by omega,by omega⟩,?_,hfn _ _ ?_,hfn _ _ ?_,⟨h1.n+2,0,[],by omega,by show h1.n+2<X4.n;omega,rfl,?_,rfl⟩⟩
  ·show X4.get _=_;rw[gall,if_pos rfl,List.length_replicate]
  ·show X4.get _=_;rw[gall,if_neg (by omega),if_neg (by omega),if_neg (by omega),if_pos rfl]
  ·show X4.get _=_;rw[gall,if_neg (by omega),if_neg (by omega),if_pos rfl]
  ·show X4.get _=_;rw[gall,if_neg (by omega),if_pos rfl]
 clear gall g1 g2 g3 g4 n1 n2 n3 n4 hfn hrow hn4 oX eA
 have w0:=WInv.start par L (yG par L) (K:=fun c=>0≤c∧c<(L.length:Int)) (fun b h1 h2=>⟨h1,h2⟩)
 generalize hX:h1.n+4=X at S0
 generalize hgp:h1.n+3=gp at S0 ⊢
 generalize hgb:h1.n=gb at S0
 generalize hge:gb+1=ge at S0
 generalize hgm:gb+2=gm at S0
 generalize outC h1 (inC X4)=h2 at S0 ⊢
 have hVs:∀ es:List (Int×Int),OwnM h h2 (.map (some gm)) es→True:=fun _ _=>trivial
 clear hVs hX hgp hgb hge hgm eH
 have o3:=S0.own
 refine go ?_
 refine WX.loopA [32,33,8,34,35,36,37,38,39,40,31] (by kernel_rfl) (fun i=>L.length - i) (fun i t h3=>∃ es,zC t 31=I i∧i≤L.length∧FS h h3 X gp gb ge gm (.slice ta tn tk) (.slice ga gn gk) f (List.replicate L.length []) (List.replicate L.length []) es∧Hid (ZJ es∧∀ c,c∈es.map (·.1)↔0≤c∧c<(i:Int))) 0 ?_ ?_
 ·exact⟨[],sl_,Nat.zero_le _,S0,⟨by unfold ZJ;simp,fun c=>by simp⟩⟩
 clear S0 o3
 rintro i t h3 hsame ⟨es,s31,hi,S,hK⟩
 have o3:=S.own
 refine go ?_
 refine WX.br (fun hc=> ?_) (fun hc=> ?_)<;>simp only[DB]at hc
 ·refine go ?_
  refine WO.upM S.rm S.e ?_
  intro h4 e4 o4 u4
  have S4:=S.setM e4 o4 u4
  refine go ?_
  refine zA (i+1) (by omega) ⟨_,sln,by omega,S4,⟨zCE hK.out.1,fun c=> ?_⟩⟩
  rw[zCP,hK.out.2]
  omega
 have hil:i=L.length:=by omega
 subst hil
 have w1:WInv par L (yG par L) (List.replicate L.length []) (List.replicate L.length []) (fun c=>c∈es.map (·.1)):=WInv.start par L (yG par L) (fun c h1 h2=>(hK.out.2 c).2 ⟨h1,h2⟩)
 have hkr:∀ c∈es.map (·.1),0≤c∧c<(L.length:Int):=fun c hc=>(hK.out.2 c).1 hc
 have hnxr:∀ c,0≤c→c<(L.length:Int)→∀ k∈nxL L c,0≤k∧k<(L.length:Int):=fun c h1 h2=>(U _ (zL (l:=L) (i:=c.toNat) (by omega))).next
 have hnxr:=Hid.mk hnxr
 have w1:=Hid.mk w1
 have hK1:=Hid.mk (And.intro hK.out.1 hkr)
 clear hK hkr w0
 refine go ?_
 refine WX.loopA [41,42,43,44,45,46,47,48,49,50,9,52,53,54,55,56,57,51,58,59,10,11,60,61,62,63,64,65,66,67,68,69,48] (by kernel_rfl) (fun x:Zb×Zb×List (Int×Int)=>2 * (L.length * (yG par L).toNat - Zz x.1)+(if x.2.2.length=0 then 0 else 1)) (fun x t h4=>FS h h4 X gp gb ge gm (.slice ta tn tk) (.slice ga gn gk) f x.1 x.2.1 x.2.2∧Hid (ZJ x.2.2∧∀ c∈x.2.2.map (·.1),0≤c∧c<(L.length:Int))∧Hid (WInv par L (yG par L) x.1 x.2.1 (fun c=>c∈x.2.2.map (·.1)))) (List.replicate L.length [],List.replicate L.length [],es) ?_ ?_
 ·exact⟨S,hK1,w1⟩
 clear S hK1 w1 o3
 rintro⟨bg0,ed0,es0⟩ t4 h4 hsame4 ⟨S,hK,hW⟩
 simp only at S hK hW
 have o4:=S.own
 refine go ?_
 refine WO.lnM S.rm ?_
 refine go ?_
 refine WX.br (fun hc=> ?_) (fun hc=> ?_)<;>simp only[DB]at hc
 ·refine go ?_
  refine WX.loopA [49,50,9,52,53,54,55,56,57,51,58,59,10,11,60,61,62,63,64,65,66,67,68,69,48] (by kernel_rfl) (fun i=>L.length - i) (fun i t h5=>∃ bg ed es,zC t 48=I i∧i≤L.length∧FS h h5 X gp gb ge gm (.slice ta tn tk) (.slice ga gn gk) f bg ed es∧Hid (ZJ es∧∀ c∈es.map (·.1),0≤c∧c<(L.length:Int))∧Hid (WInv par L (yG par L) bg ed (fun c=>c∈es.map (·.1)))∧Hid (Zz bg0<Zz bg∨(Zz bg0=Zz bg∧∀ c∈es.map (·.1),(i:Int)≤c))) 0 ?_ ?_
  ·exact⟨bg0,ed0,es0,sl_,Nat.zero_le _,S,hK,hW,⟨.inr ⟨rfl,fun c hc=>(hK.out.2 c hc).1⟩⟩⟩
  have hc0:es0.length≠0:=by omega
  clear S o4 hK
  rintro i t5 h5 hsame5 ⟨bg,ed,es,s48,hi,S,hK,hW5,hM⟩
  have o5:=S.own
  refine go ?_
  refine WX.br (fun hc5=> ?_) (fun hc5=> ?_)<;>simp only[DB]at hc5
  ·refine go ?_
   refine WO.lkM S.rm ?_
   by_cases hin:(i:Int)∈es.map (·.1)
   ·obtain⟨w,hw⟩:∃ w,es.lookup (i:Int)=some w:=by
     cases hl:es.lookup (i:Int)with
     |none=>exact absurd hl (look_mem.2 hin)
     |some w=>exact⟨w,rfl⟩
    rw[hw]
    refine go ?_
    refine WO.dlM S.rm S.e ?_
    intro h6 e6 o6 u6
    have S6:=S.setM e6 o6 u6
    have hlb:=hW5.out.lb
    have hle:=hW5.out.le
    have hob:=hW5.out.okb
    have hoe:=hW5.out.oke
    refine go ?_
    refine WO.conV (WV.func (look_ok h h6 X gp gb ge gm _ _ T F f par L bg ed (zAz i es) i S6 E O U ⟨by omega,by omega⟩ hlb hle hob hoe)) ?_
    rintro _ h7 ⟨s1,s,es',S7,k1,k2,m1,m2,hcase⟩
    refine go ?_
    have hdk:∀ c,c∈(zAz (i:Int) es).map (·.1)↔c≠(i:Int)∧c∈es.map (·.1):=fun c=>zCM hK.out.1
    have hdo:ZJ (zAz (i:Int) es):=zEJ hK.out.1
    have hi0:(0:Int)≤i:=by omega
    have hi1:(i:Int)<(L.length:Int):=by omega
    have hsz:=zEh (bg:=bg) (i:=(i:Int).toNat) (s:=s) (by omega)
    have hW7:WInv par L (yG par L) (bg.set (i:Int).toNat s) (ed.set (i:Int).toNat s1) (fun c=>c∈es'.map (·.1)):=by
     refine hW5.out.look hi0 hi1 hnxr.out k1 k2 m1 m2 fun c hc1 hc2 hnk=> ?_
     rcases hcase with ⟨q1,q2⟩|⟨q1,q2,q3⟩
     ·subst q2
      refine⟨?_,.inl q1⟩
      by_cases e:c=i
      ·exact .inl e
      ·exact .inr fun hm=>hnk ((hdk c).2 ⟨e,hm⟩)
     ·refine⟨?_,.inr fun hm=>hnk ((q3 c).2 (.inr (zCI.2 ⟨hc1,hc2,hm⟩)))⟩
      by_cases e:c=i
      ·exact .inl e
      ·exact .inr fun hm=>hnk ((q3 c).2 (.inl ((hdk c).2 ⟨e,hm⟩)))
    have hK7:ZJ es'∧∀ c∈es'.map (·.1),0≤c∧c<(L.length:Int):=by
     rcases hcase with ⟨q1,q2⟩|⟨q1,q2,q3⟩
     ·subst q2
      exact⟨hdo,fun c hc=>hK.out.2 c ((hdk c).1 hc).2⟩
     ·exact⟨q2 hdo,fun c hc=>((q3 c).1 hc).elim (fun hc=>hK.out.2 c ((hdk c).1 hc).2) fun hc=>let ⟨a,b,_⟩:=zCI.1 hc;⟨a,b⟩⟩
    have hM7:Zz bg0<Zz (bg.set (i:Int).toNat s)∨(Zz bg0=Zz (bg.set (i:Int).toNat s)∧∀ c∈es'.map (·.1),((i+1:Nat):Int)≤c):=by
     rcases hcase with ⟨q1,q2⟩|⟨q1,q2,q3⟩
     ·rw[q1]at hsz
      have hsz2:Zz (bg.set (i:Int).toNat s)=Zz bg:=by rw[q1];omega
      rw[hsz2]
      rcases hM.out with r|⟨r1,r2⟩
      ·exact .inl r
      ·refine .inr ⟨r1,fun c hc=> ?_⟩
       subst q2
       obtain⟨a,b⟩:=(hdk c).1 hc
       have:=r2 c b;omega
     ·left
      have hob':=setsD hob (i:=(i:Int).toNat) (by omega)
      have hmore:=zIb (s:=bg.getD (i:Int).toNat []) (t:=s) hob'.1 k2.1 (fun r q=>(m2 r).2 (yL (fun r q=>(m1 r).2 (.inl q)) (hW5.out.sub i r hi0 hi1 q))) q1
      rcases hM.out with r|⟨r1,_⟩<;>omega
    exact zA (i+1) (by omega) ⟨_,_,es',sln,by omega,S7,⟨hK7⟩,⟨hW7⟩,⟨hM7⟩⟩
   ·have hw:es.lookup (i:Int)=none:=by
     cases hl:es.lookup (i:Int)with
     |none=>rfl
     |some w=>exact absurd (look_mem.1 (by rw[hl];simp)) hin
    rw[hw]
    refine go ?_
    refine zA (i+1) (by omega) ⟨bg,ed,es,sln,by omega,S,hK,hW5,⟨?_⟩⟩
    rcases hM.out with r|⟨r1,r2⟩
    ·exact .inl r
    ·refine .inr ⟨r1,fun c hc=> ?_⟩
     have:=r2 c hc
     have:c≠i:=fun e=>hin (e▸hc)
     omega
  ·have hiL:i=L.length:=by omega
   subst hiL
   refine go ?_
   have hup:=zFy (N:=(yG par L).toNat) fun s hs=>⟨(hW5.out.okb s hs).1,fun r q=>by have:=(hW5.out.okb s hs).2 r q;omega⟩
   rw[hW5.out.lb]at hup
   refine zA (bg,ed,es) ?_ ⟨S,hK,hW5⟩
   simp only
   rw[if_neg hc0]
   rcases hM.out with r|⟨r1,r2⟩
   ·split<;>omega
   ·have hes:es=[]:=keys_nil fun c hc=>by
     have h1:=r2 c hc
     have h2:=(hK.out.2 c hc).2
     omega
    subst hes
    rw[if_pos (show ([]:List (Int×Int)).length=0 from rfl),r1];omega
 ·have hes:es0=[]:=List.eq_nil_of_length_eq_zero (by omega)
  subst hes
  refine go ?_
  refine WO.clM S.rm S.e ?_
  intro h6 e6 o6 u6
  have S6:=S.setM e6 o6 u6
  refine go ?_
  refine rt ?_
  exact⟨X,gp,gb,ge,gm,bg0,ed0,rfl,S6,hW.out.fix (fun b _ _ hb=>by cases hb),hW.out.lb,hW.out.le,hW.out.okb,hW.out.oke⟩
end Go.Proofs.YtemggiegiejopaaDoor
namespace Go.Proofs.YtemggiegiejopaaDoor
open Go.Am
set_option linter.unusedVariables false
set_option linter.unusedSimpArgs false
set_option maxHeartbeats 4000000
def LB (par:Int) (L:List LBlk) (b r:Int):Prop:=∀ B E,Clo par L B E→B b r
def LE (par:Int) (L:List LBlk) (b r:Int):Prop:=∀ B E,Clo par L B E→E b r
theorem LFix.isB {par L B E} (h:LFix par L B E) {b r:Int} (h1:0≤b) (h2:b<(L.length:Int)):B b r↔LB par L b r:=⟨fun q B' E' k=>(h.least B' E' k b r h1 h2).1 q,fun q=>q B E h.clo⟩
theorem LFix.isE {par L B E} (h:LFix par L B E) {b r:Int} (h1:0≤b) (h2:b<(L.length:Int)):E b r↔LE par L b r:=⟨fun q B' E' k=>(h.least B' E' k b r h1 h2).2 q,fun q=>q B E h.clo⟩
theorem LFix.the {par L B E} (h:LFix par L B E) (hn:∀ c,0≤c→c<(L.length:Int)→∀ k∈nxL L c,0≤k∧k<(L.length:Int)):LFix par L (LB par L) (LE par L):=by
 refine⟨fun b r h1 h2=> ?_,fun b r h1 h2=> ?_,fun B' E' k b r _ _=>⟨fun q=>q B' E' k,fun q=>q B' E' k⟩⟩
 ·rw[←h.isE h1 h2,h.e b r h1 h2]
  exact⟨Zl fun k hk r q=>(h.isB (hn b h1 h2 k hk).1 (hn b h1 h2 k hk).2).1 q,Zl fun k hk r q=>(h.isB (hn b h1 h2 k hk).1 (hn b h1 h2 k hk).2).2 q⟩
 ·rw[←h.isB h1 h2,h.b b r h1 h2]
  exact⟨yL fun r q=>(h.isE h1 h2).1 q,yL fun r q=>(h.isE h1 h2).2 q⟩
def zAf (T:List LType) (F:List LFn) (f b at':Int):Int:=
 if (YU T F f b).2≠0 then (YU T F f b).2 else if at'<0∨(((F.getD f.toNat default).blocks.getD b.toNat default).ins.length:Int)<at' then 2 else 0
theorem zFc {T:List LType} {F:List LFn} {f b:Int} (h:(YU T F f b).2=0):(yV T F f).2=0∧0≤b∧b<((F.getD f.toNat default).blocks.length:Int):=by
 have h1:(zW T F f b).2=0:=by
  unfold YU at h
  split at h
  ·rename_i q;exact absurd h q
  ·rename_i q;omega
 obtain⟨a,c,d,e⟩:=zCV h1
 rw[d]at c
 refine⟨?_,a,c⟩
 unfold YE at e
 split at e
 ·rename_i q;exact absurd e q
 ·rename_i q;omega
abbrev zJ (F:List LFn) (f:Int):List LBlk:=(F.getD f.toNat default).blocks
abbrev y9 (T:List LType) (F:List LFn) (f:Int):Int:=((T.getD (F.getD f.toNat default).sig.toNat default).parts.length:Int)
noncomputable def body21:ACode:=(.seq (.region [⟨some 4,none,(.box (.tmp 0))⟩,⟨some 8,none,(.mov (.const (.int .i64 0)))⟩]) (.seq (.seq (.region [⟨some 12,none,(.load true 2 (.tmp 4))⟩,⟨some 13,none,(.mov (.tmp 1))⟩,⟨some 14,none,(.mov (.tmp 2))⟩,⟨some 15,none,(.call (.func 18) [(.tmp 12),(.tmp 13),(.tmp 14)])⟩,⟨some 11,none,(.mov (.tmp 15))⟩,⟨some 16,none,(.extract (.tmp 11) 0)⟩,⟨some 17,none,(.extract (.tmp 11) 1)⟩,⟨some 9,none,(.mov (.tmp 16))⟩,⟨some 10,none,(.mov (.tmp 17))⟩]) (.seq (.region [⟨some 18,none,(.mov (.tmp 10))⟩,⟨some 19,none,(.bin .neq (.tmp 18) (.const (.int .i64 0)))⟩]) (.cond (.tmp 19) (.seq (.region [⟨some 20,none,(.mov (.tmp 10))⟩,⟨some 8,none,(.mov (.tmp 20))⟩]) .ret) .skip))) (.seq (.seq (.region [⟨some 21,none,(.mov (.tmp 3))⟩,⟨some 22,none,(.bin .lss (.tmp 21) (.const (.int .i64 0)))⟩,⟨some 23,none,(.mov (.tmp 22))⟩,⟨some 24,some (23,false),(.mov (.tmp 3))⟩,⟨some 25,some (23,false),(.fld 1 (.tmp 4))⟩,⟨some 26,some (23,false),(.load false 1 (.tmp 25))⟩,⟨some 27,some (23,false),(.mov (.tmp 1))⟩,⟨some 28,some (23,false),(.idx 2 (.tmp 26) (.tmp 27))⟩,⟨some 29,some (23,false),(.fld 1 (.tmp 28))⟩,⟨some 30,some (23,false),(.load false 1 (.tmp 29))⟩,⟨some 31,some (23,false),(.mov (.tmp 2))⟩,⟨some 32,some (23,false),(.idx 5 (.tmp 30) (.tmp 31))⟩,⟨some 33,some (23,false),(.fld 0 (.tmp 32))⟩,⟨some 34,some (23,false),(.load false 1 (.tmp 33))⟩,⟨some 35,some (23,false),(.len (.tmp 34))⟩,⟨some 36,some (23,false),(.bin .gtr (.tmp 24) (.tmp 35))⟩,⟨some 37,none,(.pick (.tmp 23) (.const (.bool true)) (.tmp 36))⟩]) (.cond (.tmp 37) (.seq (.region [⟨some 8,none,(.mov (.const (.int .i64 2)))⟩]) .ret) .skip)) (.seq (.region [⟨some 8,none,(.mov (.const (.int .i64 0)))⟩]) .ret))))
set_option maxRecDepth 100000 in
theorem tab21:tb.code 21=some ⟨38,[(8,none)],body21⟩:=by kernel_rfl
theorem zIY (h:AHeap) (vt vf:Value) (T:List LType) (F:List LFn) (f b at':Int) (E:EnvL h vt vf T F):
  WC Tryd.prog tb 21 [.agg #[vt,vf],I f,I b,I at'] h fun r h'=>r=I (zAf T F f b at')∧Ext h h':=by
 have hF:=E.sm.funcs
 obtain⟨ta,tn,tk,rfl⟩:=zI E.st
 obtain⟨ga,gn,gk,rfl⟩:=zI E.sf
 refine WC.of (zF 21) tab21 ?_;simp only[zO,Nat.zero_add,Nat.reduceAdd]
 refine go ?_
 refine WO.bx ?_
 intro p h1 e1 o1
 have E1:=E.ext e1
 refine go ?_
 refine WO.con (zE4 h1 _ _ T F f b E1.tt E1.hm E1.sm E1.st E1.sf) ?_
 rintro _ h2 ⟨⟨vn,rfl,sn,_⟩,e2⟩
 have e12:=e1.trans e2
 unfold zAf
 by_cases hn:(YU T F f b).2=0
 case neg=>
  rw[if_pos hn]
  refine go ?_
  refine rt ?_
  exact⟨rfl,e12⟩
 obtain⟨ha,hb0,hb1⟩:=zFc hn
 obtain⟨hf0,hf1,_⟩:=zC6 ha
 have E2:=E1.ext e2
 have sf2:=E2.sf
 have o2:=o1.ext e2
 obtain⟨csF,⟨vb,rfl,sb,hlb⟩,pcF,hsF⟩:=yS (i:=f.toNat) sf2 (by omega)
 obtain⟨ba,bn,bk,rfl⟩:=zI sb
 obtain⟨csB,⟨vi,rfl,si,hli⟩,pcB,hsB⟩:=yS (i:=b.toNat) sb (by omega)
 obtain⟨ia,iN,ik,rfl⟩:=zI si
 rw[if_neg (fun q=>q hn),hn]
 by_cases c1:at'<0
 ·rw[if_pos (.inl c1)]
  refine go ?_
  refine rt ?_
  exact⟨rfl,e12⟩
 by_cases c2:(((F.getD f.toNat default).blocks.getD b.toNat default).ins.length:Int)<at'
 ·rw[if_pos (.inr c2)]
  refine go ?_
  refine rt ?_
  exact⟨rfl,e12⟩
 rw[if_neg (by omega)]
 refine go ?_
 refine rt ?_
 exact⟨rfl,e12⟩
structure AtR (T:List LType) (F:List LFn) (f b at':Int) (l:List Int):Prop where
 rise:l.Pairwise (·<·)
 mem:∀ r,r∈l↔yZ (y9 T F f) (zJ F f) b at'.toNat (LE (y9 T F f) (zJ F f) b) r
 fix:LFix (y9 T F f) (zJ F f) (LB (y9 T F f) (zJ F f)) (LE (y9 T F f) (zJ F f))
 reg:∀ r∈l,0≤r∧r<yG (y9 T F f) (zJ F f)
noncomputable def body7:ACode:=(.seq (.region [⟨some 4,none,(.box (.tmp 0))⟩,⟨some 8,none,(.mov (.const (.slice none 0 0)))⟩,⟨some 9,none,(.mov (.const (.int .i64 0)))⟩]) (.seq (.seq (.region [⟨some 11,none,(.load true 2 (.tmp 4))⟩,⟨some 12,none,(.mov (.tmp 1))⟩,⟨some 13,none,(.mov (.tmp 2))⟩,⟨some 14,none,(.mov (.tmp 3))⟩,⟨some 15,none,(.call (.func 21) [(.tmp 11),(.tmp 12),(.tmp 13),(.tmp 14)])⟩,⟨some 10,none,(.mov (.tmp 15))⟩]) (.seq (.region [⟨some 16,none,(.mov (.tmp 10))⟩,⟨some 17,none,(.bin .neq (.tmp 16) (.const (.int .i64 0)))⟩]) (.cond (.tmp 17) (.seq (.region [⟨some 18,none,(.mov (.tmp 10))⟩,⟨some 8,none,(.mov (.const (.slice none 0 0)))⟩,⟨some 9,none,(.mov (.tmp 18))⟩]) .ret) .skip))) (.seq (.region [⟨some 19,none,(.load true 2 (.tmp 4))⟩,⟨some 20,none,(.mov (.tmp 1))⟩,⟨some 21,none,(.call (.func 23) [(.tmp 19),(.tmp 20)])⟩,⟨some 22,none,(.mov (.tmp 2))⟩,⟨some 23,none,(.mov (.tmp 3))⟩,⟨some 24,none,(.call (.func 24) [(.tmp 21),(.tmp 22),(.tmp 23)])⟩,⟨some 25,none,(.call (.func 22) [(.tmp 24)])⟩,⟨some 26,none,(.extract (.tmp 25) 0)⟩,⟨some 27,none,(.extract (.tmp 25) 1)⟩,⟨some 8,none,(.mov (.tmp 26))⟩,⟨some 9,none,(.mov (.tmp 27))⟩]) .ret)))
set_option maxRecDepth 100000 in
theorem tab7:tb.code 7=some ⟨28,[(8,none),(9,none)],body7⟩:=by kernel_rfl
theorem lAt_ok (h:AHeap) (vt vf:Value) (T:List LType) (F:List LFn) (f b at':Int) (E:EnvL h vt vf T F) (Z:TzT h):
  WC Tryd.prog tb 7 [.agg #[vt,vf],I f,I b,I at'] h fun r h'=>(∃ v l,r= .tuple #[v,I (zAf T F f b at')]∧OwnN h h' v l∧(zAf T F f b at'≠0→l=[])∧(zAf T F f b at'=0→AtR T F f b at' l))∧Ext h h':=by
 obtain⟨ta,tn,tk,rfl⟩:=zI E.st
 obtain⟨ga,gn,gk,rfl⟩:=zI E.sf
 refine WC.of (zF 7) tab7 ?_;simp only[zO,Nat.zero_add,Nat.reduceAdd]
 refine go ?_
 refine WO.bx ?_
 intro p h1 e1 o1
 have E1:=E.ext e1
 refine go ?_
 refine WO.con (zIY h1 _ _ T F f b at' E1) ?_
 rintro _ h2 ⟨rfl,e2⟩
 have e12:=e1.trans e2
 have o2:=o1.ext e2
 have E2:=E1.ext e2
 by_cases ha:zAf T F f b at'=0
 case neg=>
  refine go ?_
  refine rt ?_
  exact⟨⟨_,[],rfl,.inl ⟨rfl,rfl⟩,fun _=>rfl,fun h=>absurd h ha⟩,e12⟩
 have hn:(YU T F f b).2=0:=by
  unfold zAf at ha
  split at ha
  ·rename_i q;exact absurd ha q
  ·rename_i q;omega
 have hat:0≤at'∧at'≤(((F.getD f.toNat default).blocks.getD b.toNat default).ins.length:Int):=by
  unfold zAf at ha
  rw[if_neg (fun q=>q hn)]at ha
  split at ha
  ·cases ha
  ·rename_i q;omega
 obtain⟨hask,hb0,hb1⟩:=zFc hn
 obtain⟨O,U⟩:FnOk T F f (zJ F f) (y9 T F f)∧∀ b∈zJ F f,BlkU b (yG (y9 T F f) (zJ F f)) (zJ F f).length:=zHq E.sm hask
 have hb1:b<((zJ F f).length:Int):=hb1
 have hnx:∀ c,0≤c→c<((zJ F f).length:Int)→∀ k∈nxL (zJ F f) c,0≤k∧k<((zJ F f).length:Int):=fun c h1 h2=>(U _ (zL (l:=zJ F f) (i:=c.toNat) (by omega))).next
 refine go ?_
 refine WO.con (zIy h2 _ _ T F f _ _ E2 O U) ?_
 rintro _ h3 ⟨X,gp,gb,ge,gm,bg,ed,rfl,S,hfix,hlb,hle,hob,hoe⟩
 have e23:=S.e
 have E3:=E2.ext e23
 have hoed:=setsD hoe (i:=b.toNat) (by omega)
 have hat2:at'.toNat≤((zJ F f).getD b.toNat default).ins.length:=by
  show at'.toNat≤((F.getD f.toNat default).blocks.getD b.toNat default).ins.length
  omega
 have hA:=zER h2 h3 X gp gb ge gm _ _ T F f _ _ bg ed [] b at'.toNat S E3 O U ⟨hb0,hb1⟩ hat2 hle hoed
 rw[show ((at'.toNat:Nat):Int)=at' by omega]at hA
 refine go ?_
 refine WO.con hA ?_
 rintro v4 h4 ⟨⟨t4,m4,o4,mem4⟩,e4⟩
 have e04:=e12.trans (e23.trans e4)
 have Z4:=Z.ext e04
 have hm4:h4.mark≤h4.n:=(E3.ext e4).hm
 have hreg:∀ r,InW t4 r→0≤r∧r<yG (y9 T F f) (zJ F f):=fun r q=>by
  have q:=(mem4 r).1 q
  unfold yZ at q
  have hUb:=U _ (zL (l:=zJ F f) (i:=b.toNat) (by omega))
  exact zBn (fun x hx=>(hUb.ins x (List.mem_of_mem_drop hx)).uses) (fun r q=>q.elim (fun q=>hUb.ends r q) fun q=>⟨(InW.range hoed.1 q).1,hoed.2 r q⟩) q
 have hN:0≤yG (y9 T F f) (zJ F f)∧yG (y9 T F f) (zJ F f)≤228:=by
  have:=O.par0;have:=O.parl;have:=O.many;have:=yp (zJ F f);unfold yG;omega
 have hl4:t4.length≤228:=by
  have:=zAM (N:=(yG (y9 T F f) (zJ F f)).toNat) o4 fun r q=>by have:=hreg r q;omega
  omega
 refine go ?_
 refine WO.con (list_ok h4 v4 t4 m4.sl Z4 (by omega) hm4) ?_
 rintro _ h5 ⟨⟨w,rfl,ow⟩,e5⟩
 rw[Y2 o4,if_pos rfl]at ow
 rw[Y2 o4,show errW true=0 from rfl]
 refine go ?_
 refine rt ?_
 rw[ha]
 refine⟨⟨w,zp t4,rfl,ow.since e04,fun h=>absurd rfl h,fun _=>⟨zAO o4,fun r=> ?_,hfix.the hnx,fun r hr=>hreg r ((Zj o4).1 hr)⟩⟩,e04.trans e5⟩
 rw[Zj o4,mem4]
 exact⟨yL fun r q=>(hfix.isE hb0 hb1).1 q,yL fun r q=>(hfix.isE hb0 hb1).2 q⟩
end Go.Proofs.YtemggiegiejopaaDoor
namespace Go.Proofs.YtemggiegiejopaaDoor
open Go.Am
set_option maxRecDepth 1000000 in
theorem zJB:(aexK Tryd.prog (zFB Tryd.prog) 400).call 10 [] (Zd Tryd.prog.globals.size zBo) (fun v _=>some v)=some (.bool true):=by kernel_rfl
theorem ev_alive:((aex Tryd.prog (zFB Tryd.prog) 400).call 10 [] (Zd Tryd.prog.globals.size zBo)).map (·.1)=some (.bool true):=run_fast zJB
set_option maxRecDepth 1000000 in
theorem zFF:(zBo:List (Nat×List Value)).all (fun x=>Nat.ble (x.1+1) Tryd.prog.globals.size&&yc x.2)=true:=by kernel_rfl
set_option maxRecDepth 1000000 in
theorem tb_ok:tb.Ok Tryd.prog where
 code:=fun _ _ h=>h
 stub:=fun f s hs=>by
  have hs:(if f=10 then some (Y3 zBo (.bool true)) else none)=some s:=hs
  split at hs
  ·rename_i e;subst e;cases hs
   exact zGw Tryd.checked.mixed (zHN _) rfl (fun x hx=>by
    have h1:=List.all_eq_true.1 zFF x hx
    rw[Bool.and_eq_true]at h1
    exact⟨Nat.le_of_ble_eq_true h1.1,h1.2⟩) ev_alive
  ·cases hs
 grow:=fun f s hs args h v h' hk=>by
  have hs:(if f=10 then some (Y3 zBo (.bool true)) else none)=some s:=hs
  split at hs
  ·cases hs;exact zG9 args h v h' hk
  ·cases hs
end Go.Proofs.YtemggiegiejopaaDoor
namespace Go.Proofs.YtemggiegiejopaaDoor
open Go.Am
set_option linter.unusedVariables false
set_option linter.unusedSimpArgs false
set_option maxHeartbeats 4000000
noncomputable def body17_0:ACode:=(.seq (.seq (.region [⟨some 6,none,(.mov (.tmp 5))⟩,⟨some 7,none,(.mov (.tmp 0))⟩,⟨some 8,none,(.len (.tmp 7))⟩,⟨some 9,none,(.bin .lss (.tmp 6) (.tmp 8))⟩]) (.cond (.tmp 9) .skip (.exit 0))) (.seq (.block 1 (.seq (.region [⟨some 12,none,(.mov (.tmp 0))⟩,⟨some 13,none,(.mov (.tmp 5))⟩,⟨some 14,none,(.idx 1 (.tmp 12) (.tmp 13))⟩,⟨some 15,none,(.load false 1 (.tmp 14))⟩,⟨some 16,none,(.mov (.tmp 1))⟩,⟨some 17,none,(.bin .eql (.tmp 15) (.tmp 16))⟩]) (.cond (.tmp 17) (.seq (.region [⟨some 4,none,(.mov (.const (.bool true)))⟩]) .ret) .skip))) (.region [⟨some 10,none,(.mov (.tmp 5))⟩,⟨some 11,none,(.bin .add (.tmp 10) (.const (.int .i64 1)))⟩,⟨some 5,none,(.mov (.tmp 11))⟩])))
noncomputable def body17:ACode:=(.seq (.region [⟨some 4,none,(.mov (.const (.bool false)))⟩]) (.seq (.seq (.region [⟨some 5,none,(.mov (.const (.int .i64 0)))⟩]) (.block 0 (.loop body17_0))) (.seq (.region [⟨some 4,none,(.mov (.const (.bool false)))⟩]) .ret)))
set_option maxRecDepth 100000 in
theorem tab17:tb.code 17=some ⟨18,[(4,none)],body17⟩:=by kernel_rfl
theorem zAs (h:AHeap) (v:Value) (l:List Int) (n:Int) (s:SlI h v l) (hl:(l.length:Int)≤9223372036854775807):
  WC Tryd.prog tb 17 [v,I n] h fun r h'=>r= .bool (decide (n∈l))∧h=h':=by
 refine WC.of (zF 17) tab17 ?_;simp only[zO,Nat.zero_add,Nat.reduceAdd]
 refine go ?_
 refine WX.loopA [6,7,8,9,12,13,14,15,16,17,4,10,11,5] (by kernel_rfl) (fun i=>l.length - i) (fun i t h1=>h=h1∧zC t 5=I i∧i≤l.length∧∀ j,j<i→l.getD j 0≠n) 0 ?_ ?_
 ·exact⟨rfl,sl_,Nat.zero_le _,fun j hj=>absurd hj (Nat.not_lt_zero _)⟩
 rintro i t _ hsame ⟨rfl,s5,hi,hm⟩
 refine go ?_
 refine WX.br (fun hb=> ?_) (fun hb=> ?_)<;>simp only[DB]at hb
 ·have hi':i<l.length:=by omega
  refine go ?_
  refine WX.br (fun hc=> ?_) (fun hc=> ?_)<;>simp only[DB]at hc<;>refine go ?_
  ·refine rt ?_
   exact⟨by rw[decide_eq_true (mem_of hi' hc)];rfl,rfl⟩
  ·refine zA (i+1) (by omega) ⟨rfl,sln,by omega,fun j hj=> ?_⟩
   by_cases e:j=i
   ·subst e;exact hc
   ·exact hm j (by omega)
 ·refine go ?_
  refine rt ?_
  exact⟨by rw[decide_eq_false (zDL fun j hj=>hm j (by omega))];rfl,rfl⟩
theorem rise_len {l:List Int} {N:Int} (h:l.Pairwise (·<·)) (hr:∀ r∈l,0≤r∧r<N):(l.length:Int)≤N∨l=[]:=by
 by_cases hN:0≤N
 ·left
  have hd:l.Nodup:=h.imp fun h=>by omega
  have:=List.Nodup.length_le_of_subset hd (l₂:=(List.range N.toNat).map fun (i:Nat)=>(i:Int)) fun x hx=>by
   have:=hr x hx
   exact List.mem_map.2 ⟨x.toNat,List.mem_range.2 (by omega),by omega⟩
  simp at this;omega
 ·right
  cases l with
  |nil=>rfl
  |cons x l=>have:=hr x (List.mem_cons_self ..);omega
theorem rise_le {l:List Int} {N:Int} (h:l.Pairwise (·<·)) (hr:∀ r∈l,0≤r∧r<N) (hN:0≤N):(l.length:Int)≤N:=by
 rcases rise_len h hr with q|q
 ·exact q
 ·subst q;exact hN
theorem regs_of {T:List LType} {F:List LFn} {f:Int} (h:(yV T F f).2=0):YE T F f=(yG (y9 T F f) (zJ F f),0):=by
 obtain⟨_,_,_,ha⟩:=zC6 h
 unfold YE;rw[ha];rfl
theorem regN_le {T:List LType} {F:List LFn} {f par:Int} {L:List LBlk} (O:FnOk T F f L par):0≤yG par L∧yG par L≤228:=by
 have:=O.par0;have:=O.parl;have:=O.many;have:=yp L;unfold yG;omega
theorem ask_next {T:List LType} {F:List LFn} {f b at':Int} (h:zAf T F f b at'=0):(YU T F f b).2=0∧0≤at'∧at'≤(((F.getD f.toNat default).blocks.getD b.toNat default).ins.length:Int):=by
 unfold zAf at h
 split at h
 ·rename_i q;exact absurd h q
 ·split at h
  ·cases h
  ·omega
end Go.Proofs.YtemggiegiejopaaDoor
namespace Go.Proofs.YtemggiegiejopaaDoor
open Go.Am
set_option linter.unusedVariables false
set_option linter.unusedSimpArgs false
set_option maxHeartbeats 4000000
end Go.Proofs.YtemggiegiejopaaDoor
namespace Go.Proofs.YtemggiegiejopaaDoor
open Go.Am
set_option linter.unusedVariables false
set_option linter.unusedSimpArgs false
set_option maxHeartbeats 4000000
def winS (ends:List Int):List LIns→Int→Int→Int
 |[],_,r=>if r∈ends then 1 else 0
 |x::l,k,r=>if r∈yj x then 1 else if k=r then -1 else winS ends l (k+1) r
def ZQ (par:Int) (L:List LBlk) (b:Int) (k:Nat) (r:Int):Int:=
 winS (YA (L.getD b.toNat default).fin) ((L.getD b.toNat default).ins.drop k) (Za par L b+k) r
theorem zEr {ends:List Int} {E:Int→Prop}:∀ {l:List LIns} {k r:Int},zB0 (fun r=>r∈ends∨E r) l k r↔winS ends l k r=1∨(winS ends l k r=0∧E r)
 |[],k,r=>by
  unfold zB0 winS
  by_cases q:r∈ends
  ·simp[q]
  ·simp[q]
 |x::l,k,r=>by
  unfold zB0 winS
  by_cases q:r∈yj x
  ·simp[q]
  ·by_cases q2:k=r
   ·subst q2;simp[q]
   ·have q3:r≠k:=fun e=>q2 e.symm
    have:=zEr (ends:=ends) (E:=E) (l:=l) (k:=k+1) (r:=r)
    simp[q,q2,q3,this]
theorem Zm {par:Int} {L:List LBlk} {b:Int} {k:Nat} {E:Int→Prop} {r:Int}:yZ par L b k E r↔ZQ par L b k r=1∨(ZQ par L b k r=0∧E r):=zEr
theorem winL_end {par:Int} {L:List LBlk} {b:Int} {r:Int} {k:Nat} (hk:(L.getD b.toNat default).ins.length≤k):ZQ par L b k r=if r∈YA (L.getD b.toNat default).fin then 1 else 0:=by
 unfold ZQ
 rw[List.drop_eq_nil_of_le hk];rfl
theorem zI0 {par:Int} {L:List LBlk} {b:Int} {r:Int} {k:Nat} (hk:k<(L.getD b.toNat default).ins.length):
  ZQ par L b k r=if r∈yj ((L.getD b.toNat default).ins.getD k default) then 1 else if Za par L b+k=r then -1 else ZQ par L b (k+1) r:=by
 unfold ZQ
 rw[zGQ hk,winS]
 rw[show Za par L b+(k:Int)+1=Za par L b+((k+1:Nat):Int) by omega]
structure WayI (par:Int) (L:List LBlk) (v b:Int) (k:Nat) (O:List Int) (rd:Bool) (D:Int→Int→Prop):Prop where
 nd:O.Nodup
 rng:∀ c∈O,0≤c∧c<(L.length:Int)
 st:ZQ par L b k v=0→b∈O
 no:rd=false→ZQ par L b k v≠1
 snd:∀ c∈O,LE par L c v→yZ par L b k (LE par L b) v
 snr:rd=true→yZ par L b k (LE par L b) v
 cls:rd=false→∀ c j,D c j→v∉ZX (L.getD j.toNat default) c∧ZQ par L j 0 v≠1∧(ZQ par L j 0 v=0→j∈O)
theorem WayI.mono {par L v b k O rd} {D D':Int→Int→Prop} (h:WayI par L v b k O rd D) (hd:∀ c j,D' c j→D c j):WayI par L v b k O rd D':=
 {h with cls:=fun q c j x=>h.cls q c j (hd c j x)}
theorem WayI.init {par:Int} {L:List LBlk} {v b:Int} {k:Nat} (hb:0≤b∧b<(L.length:Int)) (D:Int→Int→Prop) (hD:∀ c j,¬D c j):
  WayI par L v b k (if ZQ par L b k v=0 then [b] else []) (decide (ZQ par L b k v=1)) D:=by
 refine⟨?_,?_,?_,?_,?_,?_,fun _ c j q=>absurd q (hD c j)⟩
 ·split<;>simp
 ·split
  ·intro c hc;rw[List.mem_singleton.1 hc];exact hb
  ·intro c hc;cases hc
 ·intro q;rw[if_pos q];exact List.mem_singleton_self _
 ·intro q;exact of_decide_eq_false q
 ·intro c hc q
  by_cases w:ZQ par L b k v=0
  ·rw[if_pos w]at hc
   rw[List.mem_singleton.1 hc]at q
   exact Zm.2 (.inr ⟨w,q⟩)
  ·rw[if_neg w]at hc;cases hc
 ·intro q;exact Zm.2 (.inl (of_decide_eq_true q))
theorem WayI.step {par:Int} {L:List LBlk} {v b:Int} {k:Nat} {O:List Int} {rd:Bool} {D:Int→Int→Prop} (h:WayI par L v b k O rd D) (fx:LFix par L (LB par L) (LE par L)) {c j:Int} (hc:c∈O) (hj:j∈nxL L c) (hj2:0≤j∧j<(L.length:Int))
  {rd':Bool} {O':List Int} (hr:rd'=true↔rd=true∨v∈ZX (L.getD j.toNat default) c∨ZQ par L j 0 v=1) (hO:O'=if ZQ par L j 0 v=0∧j∉O then O++[j] else O):
  WayI par L v b k O' rd' (fun c' j'=>D c' j'∨(c'=c∧j'=j)):=by
 obtain⟨c0,c1⟩:=h.rng c hc
 have hsub:∀ x∈O,x∈O':=fun x hx=>by
  rw[hO];split
  ·exact List.mem_append_left _ hx
  ·exact hx
 have hback:rd'=false→rd=false∧v∉ZX (L.getD j.toNat default) c∧ZQ par L j 0 v≠1:=fun q=>by
  have hn:¬(rd=true∨v∈ZX (L.getD j.toNat default) c∨ZQ par L j 0 v=1):=fun q2=>by
   have:=hr.2 q2;rw[q]at this;cases this
  refine⟨?_,fun q=>hn (.inr (.inl q)),fun q=>hn (.inr (.inr q))⟩
  cases rd
  ·rfl
  ·exact absurd (.inl rfl) hn
 refine⟨?_,?_,fun q=>hsub _ (h.st q),fun q=>h.no (hback q).1,?_,?_,?_⟩
 ·rw[hO];split
  ·rename_i q
   rw[List.nodup_append]
   exact⟨h.nd,by simp,fun a ha e he=>by rw[List.mem_singleton.1 he];exact fun e=>q.2 (e▸ha)⟩
  ·exact h.nd
 ·rw[hO];split
  ·intro x hx
   rcases List.mem_append.1 hx with hx|hx
   ·exact h.rng x hx
   ·rw[List.mem_singleton.1 hx];exact hj2
  ·exact h.rng
 ·intro x hx q
  rw[hO]at hx
  split at hx
  ·rename_i w
   rcases List.mem_append.1 hx with hx|hx
   ·exact h.snd x hx q
   ·rw[List.mem_singleton.1 hx]at q
    refine h.snd c hc ((fx.e c v c0 c1).2 ⟨j,hj,.inl ?_⟩)
    exact(fx.b j v hj2.1 hj2.2).2 (Zm.2 (.inr ⟨w.1,q⟩))
  ·exact h.snd x hx q
 ·intro q
  rcases hr.1 q with q|q|q
  ·exact h.snr q
  ·exact h.snd c hc ((fx.e c v c0 c1).2 ⟨j,hj,.inr q⟩)
  ·exact h.snd c hc ((fx.e c v c0 c1).2 ⟨j,hj,.inl ((fx.b j v hj2.1 hj2.2).2 (Zm.2 (.inl q)))⟩)
 ·intro q c' j' d
  obtain⟨q1,q2,q3⟩:=hback q
  rcases d with d|⟨rfl,rfl⟩
  ·obtain⟨a1,a2,a3⟩:=h.cls q1 c' j' d
   exact⟨a1,a2,fun w=>hsub _ (a3 w)⟩
  ·refine⟨q2,q3,fun w=> ?_⟩
   rw[hO]
   split
   ·exact List.mem_append_right _ (List.mem_singleton_self _)
   ·rename_i w2
    exact Classical.byContradiction fun w3=>w2 ⟨w,w3⟩
theorem WayI.out {par:Int} {L:List LBlk} {v b:Int} {k:Nat} {O:List Int} {rd:Bool} {D:Int→Int→Prop} (h:WayI par L v b k O rd D) (fx:LFix par L (LB par L) (LE par L)) (hD:∀ c∈O,∀ j∈nxL L c,D c j) (hb:0≤b∧b<(L.length:Int))
  (hn:∀ c,0≤c→c<(L.length:Int)→∀ k∈nxL L c,0≤k∧k<(L.length:Int)):rd=true↔yZ par L b k (LE par L b) v:=by
 refine⟨h.snr,fun g=> ?_⟩
 cases hrd:rd
 case true=>rfl
 exfalso
 have cl:Clo par L (fun c r=>LB par L c r∧(r=v→ZQ par L c 0 v=0→c∉O)) (fun c r=>LE par L c r∧(r=v→c∉O)):=by
  refine⟨fun c r h1 h2 q=>⟨(fx.e c r h1 h2).2 (Zl (fun k _ r q=>q.1) q),fun e hc=> ?_⟩,fun c r h1 h2 q=>⟨(fx.b c r h1 h2).2 (yL (fun r q=>q.1) q),fun e w hc=> ?_⟩⟩
  ·subst e
   obtain⟨j,hj,q⟩:=q
   obtain⟨a1,a2,a3⟩:=h.cls hrd c j (hD c hc j hj)
   rcases q with q|q
   ·obtain⟨j0,j1⟩:=hn c h1 h2 j hj
    rcases Zm.1 ((fx.b j r j0 j1).1 q.1)with w|w
    ·exact a2 w
    ·exact q.2 rfl w.1 (a3 w.1)
   ·exact a1 q
  ·subst e
   rcases Zm.1 q with w2|w2
   ·rw[w]at w2;cases w2
   ·exact w2.2.2 rfl hc
 rcases Zm.1 g with w|w
 ·exact h.no hrd w
 ·exact((fx.least _ _ cl b v hb.1 hb.2).2 w.2).2 rfl (h.st w.1)
theorem zGj {O:List Int} {n:Nat} (h:O.Nodup) (hr:∀ c∈O,0≤c∧c<(n:Int)):O.length≤n:=by
 have:=List.Nodup.length_le_of_subset h (l₂:=(List.range n).map fun (i:Nat)=>(i:Int)) fun x hx=>by
  have:=hr x hx
  exact List.mem_map.2 ⟨x.toNat,List.mem_range.2 (by omega),by omega⟩
 simpa using this
theorem zH6:∀ (fs gs:List Int) (b:Int) (j:Nat) (r:Int),fs.length=gs.length→j<fs.length→fs.getD j 0=b→gs.getD j 0=r→r∈Z2 fs gs b
 |[],_,_,_,_,_,h,_,_=>absurd h (Nat.not_lt_zero _)
 |f::fs,[],_,_,_,h,_,_,_=>by simp at h
 |f::fs,a::gs,b,0,r,h,hj,h1,h2=>by
  simp only[List.getD_cons_zero]at h1 h2
  subst h1 h2
  simp[Z2]
 |f::fs,a::gs,b,j+1,r,h,hj,h1,h2=>by
  have:=zH6 fs gs b j r (by simpa using h) (by simpa using hj) (by simpa using h1) (by simpa using h2)
  unfold Z2;split
  ·exact List.mem_cons_of_mem _ this
  ·exact this
noncomputable def body20_0:ACode:=(.seq (.seq (.region [⟨some 16,none,(.mov (.tmp 8))⟩,⟨some 17,none,(.fld 0 (.tmp 3))⟩,⟨some 18,none,(.load false 1 (.tmp 17))⟩,⟨some 19,none,(.mov (.tmp 7))⟩,⟨some 20,none,(.idx 7 (.tmp 18) (.tmp 19))⟩,⟨some 21,none,(.fld 6 (.tmp 20))⟩,⟨some 22,none,(.load false 1 (.tmp 21))⟩,⟨some 23,none,(.len (.tmp 22))⟩,⟨some 24,none,(.bin .lss (.tmp 16) (.tmp 23))⟩,⟨some 25,none,(.mov (.tmp 24))⟩,⟨some 26,some (25,true),(.mov (.tmp 8))⟩,⟨some 27,some (25,true),(.fld 0 (.tmp 3))⟩,⟨some 28,some (25,true),(.load false 1 (.tmp 27))⟩,⟨some 29,some (25,true),(.mov (.tmp 7))⟩,⟨some 30,some (25,true),(.idx 7 (.tmp 28) (.tmp 29))⟩,⟨some 31,some (25,true),(.fld 5 (.tmp 30))⟩,⟨some 32,some (25,true),(.load false 1 (.tmp 31))⟩,⟨some 33,some (25,true),(.len (.tmp 32))⟩,⟨some 34,some (25,true),(.bin .lss (.tmp 26) (.tmp 33))⟩,⟨some 35,none,(.pick (.tmp 25) (.tmp 34) (.const (.bool false)))⟩]) (.cond (.tmp 35) .skip (.exit 2))) (.seq (.block 3 (.seq (.region [⟨some 38,none,(.fld 0 (.tmp 3))⟩,⟨some 39,none,(.load false 1 (.tmp 38))⟩,⟨some 40,none,(.mov (.tmp 7))⟩,⟨some 41,none,(.idx 7 (.tmp 39) (.tmp 40))⟩,⟨some 42,none,(.fld 0 (.tmp 41))⟩,⟨some 43,none,(.load false 1 (.tmp 42))⟩,⟨some 44,none,(.bin .eql (.tmp 43) (.const (.int .u8 22)))⟩,⟨some 45,none,(.mov (.tmp 44))⟩,⟨some 46,some (45,true),(.fld 0 (.tmp 3))⟩,⟨some 47,some (45,true),(.load false 1 (.tmp 46))⟩,⟨some 48,some (45,true),(.mov (.tmp 7))⟩,⟨some 49,some (45,true),(.idx 7 (.tmp 47) (.tmp 48))⟩,⟨some 50,some (45,true),(.fld 6 (.tmp 49))⟩,⟨some 51,some (45,true),(.load false 1 (.tmp 50))⟩,⟨some 52,some (45,true),(.mov (.tmp 8))⟩,⟨some 53,some (45,true),(.idx 1 (.tmp 51) (.tmp 52))⟩,⟨some 54,some (45,true),(.load false 1 (.tmp 53))⟩,⟨some 55,some (45,true),(.mov (.tmp 2))⟩,⟨some 56,some (45,true),(.bin .eql (.tmp 54) (.tmp 55))⟩,⟨some 57,none,(.pick (.tmp 45) (.tmp 56) (.const (.bool false)))⟩,⟨some 58,none,(.mov (.tmp 57))⟩,⟨some 59,some (58,true),(.fld 0 (.tmp 3))⟩,⟨some 60,some (58,true),(.load false 1 (.tmp 59))⟩,⟨some 61,some (58,true),(.mov (.tmp 7))⟩,⟨some 62,some (58,true),(.idx 7 (.tmp 60) (.tmp 61))⟩,⟨some 63,some (58,true),(.fld 5 (.tmp 62))⟩,⟨some 64,some (58,true),(.load false 1 (.tmp 63))⟩,⟨some 65,some (58,true),(.mov (.tmp 8))⟩,⟨some 66,some (58,true),(.idx 1 (.tmp 64) (.tmp 65))⟩,⟨some 67,some (58,true),(.load false 1 (.tmp 66))⟩,⟨some 68,some (58,true),(.mov (.tmp 1))⟩,⟨some 69,some (58,true),(.bin .eql (.tmp 67) (.tmp 68))⟩,⟨some 70,none,(.pick (.tmp 58) (.tmp 69) (.const (.bool false)))⟩]) (.cond (.tmp 70) (.seq (.region [⟨some 6,none,(.mov (.const (.bool true)))⟩]) .ret) .skip))) (.region [⟨some 36,none,(.mov (.tmp 8))⟩,⟨some 37,none,(.bin .add (.tmp 36) (.const (.int .i64 1)))⟩,⟨some 8,none,(.mov (.tmp 37))⟩])))
noncomputable def body20_1:ACode:=(.seq (.seq (.region [⟨some 9,none,(.mov (.tmp 7))⟩,⟨some 10,none,(.fld 0 (.tmp 3))⟩,⟨some 11,none,(.load false 1 (.tmp 10))⟩,⟨some 12,none,(.len (.tmp 11))⟩,⟨some 13,none,(.bin .lss (.tmp 9) (.tmp 12))⟩]) (.cond (.tmp 13) .skip (.exit 0))) (.seq (.block 1 (.seq (.region [⟨some 8,none,(.mov (.const (.int .i64 0)))⟩]) (.block 2 (.loop body20_0)))) (.region [⟨some 14,none,(.mov (.tmp 7))⟩,⟨some 15,none,(.bin .add (.tmp 14) (.const (.int .i64 1)))⟩,⟨some 7,none,(.mov (.tmp 15))⟩])))
noncomputable def body20:ACode:=(.seq (.region [⟨some 3,none,(.box (.tmp 0))⟩,⟨some 6,none,(.mov (.const (.bool false)))⟩]) (.seq (.seq (.region [⟨some 7,none,(.mov (.const (.int .i64 0)))⟩]) (.block 0 (.loop body20_1))) (.seq (.region [⟨some 6,none,(.mov (.const (.bool false)))⟩]) .ret)))
set_option maxRecDepth 100000 in
theorem tab20:tb.code 20=some ⟨71,[(6,none)],body20⟩:=by kernel_rfl
theorem byPhi_ok (h:AHeap) (B:LBlk) (cs:List Value) (r from':Int) (hcs:RBlk h cs B) (hB:(B.ins.length:Int)≤128) (hfr:∀ x∈B.ins,x.frm.length≤20) (hp:∀ x∈B.ins,x.op=22→x.frm.length=x.args.length) (hq:∀ x∈B.ins,x.op≠22→x.frm.length=0):
  WC Tryd.prog tb 20 [.agg cs.toArray,I r,I from'] h fun w h'=>w= .bool (decide (r∈ZX B from'))∧Ext h h':=by
 obtain⟨vi,rfl,si,hli⟩:=hcs
 obtain⟨ia,iN,ik,rfl⟩:=zI si
 have hfr:=Hid.mk hfr
 have hp:=Hid.mk hp
 have hq:=Hid.mk hq
 refine WC.of (zF 20) tab20 ?_;simp only[zO,Nat.zero_add,Nat.reduceAdd]
 refine go ?_
 refine WO.bx ?_
 intro p h1 e1 o1
 have si1:=SlN.ext si e1
 refine go ?_
 refine WX.loopA [9,10,11,12,13,8,16,17,18,19,20,21,22,23,24,25,26,27,28,29,30,31,32,33,34,35,38,39,40,41,42,43,44,45,46,47,48,49,50,51,52,53,54,55,56,57,58,59,60,61,62,63,64,65,66,67,68,69,70,6,36,37,8,14,15,7] (by kernel_rfl) (fun i=>B.ins.length - i) (fun i t h2=>h1=h2∧zC t 7=I i∧i≤B.ins.length∧r∉((B.ins.take i).flatMap fun x=>zAb x from')) 0 ?_ ?_
 ·exact⟨rfl,sl_,Nat.zero_le _,by simp⟩
 rintro i t _ hsame ⟨rfl,s7,hi,hno⟩
 refine go ?_
 refine WX.br (fun hb=> ?_) (fun hb=> ?_)<;>simp only[DB]at hb
 ·have hi':i<B.ins.length:=by omega
  have hmem:=zL (l:=B.ins) hi'
  have hfx:=hfr.out _ hmem
  have hpx:=hp.out _ hmem
  have hqx:=hq.out _ hmem
  have hsn:=zEd (b:=from') hi'
  obtain⟨csx,⟨va,vf,rfl,sa,sf,ha1,ha2,ho1,ho2⟩,pcX,hs⟩:=y8 si1 hi'
  have pc:=(pcX _ (Ext.refl _)).1
  obtain⟨aa,an,ak,rfl⟩:=SlC.shape sa
  obtain⟨fa,fn,fk,rfl⟩:=SlC.shape sf
  have hin:∀ q,r∈zAb (B.ins.getD i default) q→r∈ZX B q:=fun q hr=>List.mem_flatMap.2 ⟨_,hmem,hr⟩
  have hin:=Hid.mk (hin from')
  generalize (B.ins.take i).flatMap (fun x=>zAb x from')=P at *
  generalize B.ins.getD i default=x at *
  have hsn:=Hid.mk hsn
  refine go ?_
  refine WX.loopA [16,17,18,19,20,21,22,23,24,25,26,27,28,29,30,31,32,33,34,35,38,39,40,41,42,43,44,45,46,47,48,49,50,51,52,53,54,55,56,57,58,59,60,61,62,63,64,65,66,67,68,69,70,6,36,37,8] (by kernel_rfl) (fun j=>x.frm.length - j) (fun j t h2=>h1=h2∧zC t 8=I j∧j≤x.frm.length∧r∉Z2 (x.frm.take j) (x.args.take j) from') 0 ?_ ?_
  ·exact⟨rfl,sl_,Nat.zero_le _,by simp[Z2]⟩
  rintro j t5 _ hsame5 ⟨rfl,s8,hj,hno5⟩
  by_cases cj:(j:Int)<(x.frm.length:Int)
  ·have hop:x.op=22:=by
    by_cases q:x.op=22
    ·exact q
    ·exact absurd (hqx q) (by omega)
   have hfa:=hpx hop
   have cj2:(j:Int)<(x.args.length:Int):=by omega
   have hps:=zCD x.frm x.args from' j hfa (by omega)
   by_cases hk:x.frm.getD j 0=from'
   ·rw[if_pos hk]at hps
    by_cases hr:x.args.getD j 0=r
    ·refine go ?_
     refine rt ?_
     have:r∈zAb x from':=by
      unfold zAb
      rw[if_pos hop]
      exact zH6 x.frm x.args from' j r hfa (by omega) hk hr
     exact⟨by rw[decide_eq_true (hin.out this)];rfl,e1⟩
    ·refine go ?_
     exact zA (j+1) (by omega) ⟨rfl,sln,by omega,by rw[hps];simp[hno5];exact fun e=>hr e.symm⟩
   ·rw[if_neg hk,List.append_nil]at hps
    refine go ?_
    exact zA (j+1) (by omega) ⟨rfl,sln,by omega,by rw[hps];exact hno5⟩
  ·have hjl:j=x.frm.length:=by omega
   subst hjl
   have hphx:Z2 x.frm (x.args.take x.frm.length) from'=zAb x from':=by
    unfold zAb
    split
    ·next q=>rw[hpx q,List.take_length]
    ·next q=>rw[List.eq_nil_of_length_eq_zero (by have:=hqx q;omega:x.frm.length=0)];simp[Z2]
   rw[List.take_length,hphx]at hno5
   refine go ?_
   exact zA (i+1) (by omega) ⟨rfl,sln,by omega,by rw[hsn.out];exact fun q=>(List.mem_append.1 q).elim hno hno5⟩
 ·refine go ?_
  refine rt ?_
  rw[show i=B.ins.length by omega,List.take_length]at hno
  have hno:r∉ZX B from':=hno
  exact⟨by rw[decide_eq_false hno];rfl,e1⟩
noncomputable def body19_0:ACode:=(.seq (.seq (.region [⟨some 25,none,(.mov (.tmp 12))⟩,⟨some 26,none,(.fld 0 (.tmp 11))⟩,⟨some 27,none,(.load false 1 (.tmp 26))⟩,⟨some 28,none,(.len (.tmp 27))⟩,⟨some 29,none,(.bin .lss (.tmp 25) (.tmp 28))⟩]) (.cond (.tmp 29) .skip (.exit 0))) (.seq (.block 1 (.seq (.seq (.region [⟨some 32,none,(.fld 0 (.tmp 11))⟩,⟨some 33,none,(.load false 1 (.tmp 32))⟩,⟨some 34,none,(.mov (.tmp 12))⟩,⟨some 35,none,(.idx 7 (.tmp 33) (.tmp 34))⟩,⟨some 36,none,(.fld 0 (.tmp 35))⟩,⟨some 37,none,(.load false 1 (.tmp 36))⟩,⟨some 38,none,(.bin .neq (.tmp 37) (.const (.int .u8 22)))⟩,⟨some 39,none,(.mov (.tmp 38))⟩,⟨some 40,some (39,true),(.fld 0 (.tmp 11))⟩,⟨some 41,some (39,true),(.load false 1 (.tmp 40))⟩,⟨some 42,some (39,true),(.mov (.tmp 12))⟩,⟨some 43,some (39,true),(.idx 7 (.tmp 41) (.tmp 42))⟩,⟨some 44,some (39,true),(.load true 7 (.tmp 43))⟩,⟨some 45,some (39,true),(.call (.func 15) [(.tmp 44)])⟩,⟨some 46,some (39,true),(.mov (.tmp 2))⟩,⟨some 47,some (39,true),(.call (.func 17) [(.tmp 45),(.tmp 46)])⟩,⟨some 48,none,(.pick (.tmp 39) (.tmp 47) (.const (.bool false)))⟩]) (.cond (.tmp 48) (.seq (.region [⟨some 10,none,(.mov (.const (.int .i64 1)))⟩]) .ret) .skip)) (.seq (.region [⟨some 50,none,(.load true 2 (.tmp 5))⟩,⟨some 51,none,(.mov (.tmp 1))⟩,⟨some 52,none,(.mov (.tmp 3))⟩,⟨some 53,none,(.mov (.tmp 12))⟩,⟨some 54,none,(.call (.func 16) [(.tmp 50),(.tmp 51),(.tmp 52),(.tmp 53)])⟩,⟨some 49,none,(.mov (.tmp 54))⟩,⟨some 55,none,(.extract (.tmp 49) 0)⟩,⟨some 56,none,(.extract (.tmp 49) 1)⟩,⟨some 13,none,(.mov (.tmp 55))⟩,⟨some 14,none,(.mov (.tmp 56))⟩]) (.seq (.region [⟨some 57,none,(.mov (.tmp 13))⟩,⟨some 58,none,(.mov (.tmp 2))⟩,⟨some 59,none,(.bin .eql (.tmp 57) (.tmp 58))⟩]) (.cond (.tmp 59) (.seq (.region [⟨some 10,none,(.mov (.const (.int .i64 (-1))))⟩]) .ret) .skip))))) (.region [⟨some 30,none,(.mov (.tmp 12))⟩,⟨some 31,none,(.bin .add (.tmp 30) (.const (.int .i64 1)))⟩,⟨some 12,none,(.mov (.tmp 31))⟩])))
noncomputable def body19:ACode:=(.seq (.region [⟨some 5,none,(.box (.tmp 0))⟩,⟨some 10,none,(.mov (.const (.int .i64 0)))⟩]) (.seq (.region [⟨some 15,none,(.fld 1 (.tmp 5))⟩,⟨some 16,none,(.load false 1 (.tmp 15))⟩,⟨some 17,none,(.mov (.tmp 1))⟩,⟨some 18,none,(.idx 2 (.tmp 16) (.tmp 17))⟩,⟨some 19,none,(.fld 1 (.tmp 18))⟩,⟨some 20,none,(.load false 1 (.tmp 19))⟩,⟨some 21,none,(.mov (.tmp 3))⟩,⟨some 22,none,(.idx 5 (.tmp 20) (.tmp 21))⟩,⟨some 23,none,(.load true 5 (.tmp 22))⟩,⟨some 11,none,(.alloc [(.slice none 0 0),(.int .u8 0),(.int .i64 0),(.int .i64 0),(.int .i64 0)])⟩,⟨none,none,(.store 5 (.tmp 11) (.tmp 23))⟩]) (.seq (.seq (.region [⟨some 24,none,(.mov (.tmp 4))⟩,⟨some 12,none,(.mov (.tmp 24))⟩]) (.block 0 (.loop body19_0))) (.seq (.seq (.region [⟨some 60,none,(.fld 1 (.tmp 11))⟩,⟨some 61,none,(.load true 4 (.tmp 60))⟩,⟨some 62,none,(.call (.func 14) [(.tmp 61)])⟩,⟨some 63,none,(.mov (.tmp 2))⟩,⟨some 64,none,(.call (.func 17) [(.tmp 62),(.tmp 63)])⟩]) (.cond (.tmp 64) (.seq (.region [⟨some 10,none,(.mov (.const (.int .i64 1)))⟩]) .ret) .skip)) (.seq (.region [⟨some 10,none,(.mov (.const (.int .i64 0)))⟩]) .ret)))))
set_option maxRecDepth 100000 in
theorem tab19:tb.code 19=some ⟨65,[(10,none)],body19⟩:=by kernel_rfl
theorem zBM (h:AHeap) (vt vf:Value) (T:List LType) (F:List LFn) (f r b:Int) (k:Nat) (E:EnvL h vt vf T F) (O:FnOk T F f (zJ F f) (y9 T F f)) (U:Hid (∀ b∈zJ F f,BlkU b (yG (y9 T F f) (zJ F f)) (zJ F f).length)) (hb:0≤b∧b<((zJ F f).length:Int)) (hk:k≤((zJ F f).getD b.toNat default).ins.length):
  WC Tryd.prog tb 19 [.agg #[vt,vf],I f,I r,I b,I k] h fun w h'=>w=I (ZQ (y9 T F f) (zJ F f) b k r)∧Ext h h':=by
 obtain⟨ta,tn,tk,rfl⟩:=zI E.st
 obtain⟨ga,gn,gk,rfl⟩:=zI E.sf
 have hF:=E.sm.funcs
 have hf0:=O.f0
 have hf1:=O.f1
 have hbm:=O.ins _ (zL (l:=zJ F f) (i:=b.toNat) (by omega))
 have hUb:=Hid.mk (U.out _ (zL (l:=zJ F f) (i:=b.toNat) (by omega)))
 refine WC.of (zF 19) tab19 ?_;simp only[zO,Nat.zero_add,Nat.reduceAdd]
 refine go ?_
 refine WO.bx ?_
 intro p h1 e1 o1
 have E1:=E.ext e1
 have sf1:=E1.sf
 obtain⟨csF,⟨vb,rfl,sb,hlb⟩,pcF,hsF⟩:=yS (i:=f.toNat) sf1 (by omega)
 obtain⟨ba,bn,bk,rfl⟩:=zI sb
 have hb2:b<((F.getD f.toNat default).blocks.length:Int):=hb.2
 have hb0:=hb.1
 obtain⟨csB,⟨vi,rfl,si,hli⟩,pcB,hsB⟩:=yS (i:=b.toNat) sb (by omega)
 obtain⟨ia,iN,ik,rfl⟩:=zI si
 obtain⟨B,hB⟩:∃ B,B=(zJ F f).getD b.toNat default:=⟨_,rfl⟩
 have hB':(F.getD f.toNat default).blocks.getD b.toNat default=B:=hB.symm
 rw[hB']at si hli pcB
 rw[←hB]at hbm hk hUb
 have hBh:=Hid.mk hB
 have hwe:∀ i,B.ins.length≤i→ZQ (y9 T F f) (zJ F f) b i r=if r∈YA B.fin then 1 else 0:=fun i hi=>by rw[winL_end (by rw[←hB];exact hi),←hB]
 have hws:∀ i,i<B.ins.length→ZQ (y9 T F f) (zJ F f) b i r=if r∈yj (B.ins.getD i default) then 1 else if Za (y9 T F f) (zJ F f) b+(i:Int)=r then -1 else ZQ (y9 T F f) (zJ F f) b (i+1) r:=fun i hi=>by rw[zI0 (by rw[←hB];exact hi),←hB]
 have hwe:=Hid.mk hwe
 have hws:=Hid.mk hws
 clear hB hB'
 refine go ?_
 refine WO.al ?_
 intro p11 h2 e2 o11
 have E2:=E1.ext e2
 refine go ?_
 refine WO.stC0 (cs:=[.slice ia iN ik,.int .u8 B.fin.kind,I B.fin.a,I B.fin.to,I B.fin.els]) o11 e2 ?_
 intro h3 e3 o113 u3
 have E3:=E1.ext e3
 have o13:=o1.ext e3
 have si3:=SlN.ext si e3
 clear pcB pcF sb sf1 o11 u3
 refine go ?_
 refine WX.loopA [25,26,27,28,29,32,33,34,35,36,37,38,39,40,41,42,43,44,45,46,47,48,10,50,51,52,53,54,49,55,56,13,14,57,58,59,10,30,31,12] (by kernel_rfl) (fun i=>B.ins.length - i) (fun i t h'=>Ext h3 h'∧zC t 12=I i∧i≤B.ins.length∧ZQ (y9 T F f) (zJ F f) b k r=ZQ (y9 T F f) (zJ F f) b i r) k ?_ ?_
 ·exact⟨Ext.refl _,sl_,hk,rfl⟩
 rintro i t h4 hsame ⟨e4,s12,hi,hw⟩
 have E4:=E3.ext e4
 have o14:=o13.ext e4
 have si4:=SlN.ext si3 e4
 have o114:=o113.ext e4
 refine go ?_
 refine WX.br (fun hc=> ?_) (fun hc=> ?_)<;>simp only[DB]at hc
 ·have hi':i<B.ins.length:=by omega
  rw[hws.out i hi']at hw
  obtain⟨csx,hcsx,pcx,hsx⟩:=yS si4 hi'
  have hcsx0:=hcsx
  obtain⟨va,vf,rfl,sa,sfr,ha1',ha2',ho1,ho2⟩:=hcsx0
  obtain⟨aa,an,ak,rfl⟩:=SlC.shape sa
  obtain⟨fa,fn,fk,rfl⟩:=SlC.shape sfr
  have hUx:=hUb.out.ins _ (zL (l:=B.ins) hi')
  have hx20:=hUx.args
  have hub:(YV (B.ins.getD i default)).length≤22:=by
   unfold YV
   simp only[List.length_append]
   split<;>split<;>split<;>simp only[List.length_cons,List.length_nil]<;>omega
  have hkb:0≤(i:Int)∧(i:Int)<(((zJ F f).getD b.toNat default).ins.length:Int):=by rw[←hBh.out];omega
  clear hUx
  by_cases c22:(B.ins.getD i default).op=22
  ·rw[show yj (B.ins.getD i default)=[] by unfold yj;rw[if_pos c22],if_neg (by simp)]at hw
   refine go ?_
   refine WO.con (zE6 h4 _ _ T F f _ _ E4 O b (i:Int) hb hkb) ?_
   rintro _ h5 ⟨rfl,e5⟩
   have o115:=o114.ext e5
   have si5:=SlN.ext si4 e5
   refine go ?_
   refine WX.br (fun hc2=> ?_) (fun hc2=> ?_)<;>simp only[DB]at hc2<;>refine go ?_
   ·refine rt ?_
    rw[hw,if_pos hc2]
    exact⟨rfl,e1.trans (e3.trans (e4.trans e5))⟩
   ·rw[if_neg hc2]at hw
    exact zA (i+1) (by omega) ⟨e4.trans e5,sln,by omega,hw⟩
  ·rw[show yj (B.ins.getD i default)=YV (B.ins.getD i default) by unfold yj;rw[if_neg c22]]at hw
   refine go ?_
   refine WO.con (zG0 h4 _ _ hcsx E4.tt hx20) ?_
   rintro v5 h5 ⟨o5,e5⟩
   have E5:=E4.ext e5
   have o15:=o14.ext e5
   refine go ?_
   refine WO.con (zAs h5 v5 _ r o5.sl (by omega)) ?_
   rintro _ _ ⟨rfl,rfl⟩
   by_cases q:r∈YV (B.ins.getD i default)
   ·rw[decide_eq_true q]
    rw[if_pos q]at hw
    refine go ?_
    refine rt ?_
    rw[hw]
    exact⟨rfl,e1.trans (e3.trans (e4.trans e5))⟩
   rw[decide_eq_false q]
   rw[if_neg q]at hw
   refine go ?_
   refine WO.con (zE6 h5 _ _ T F f _ _ E5 O b (i:Int) hb hkb) ?_
   rintro _ h6 ⟨rfl,e6⟩
   refine go ?_
   refine WX.br (fun hc2=> ?_) (fun hc2=> ?_)<;>simp only[DB]at hc2<;>refine go ?_
   ·refine rt ?_
    rw[hw,if_pos hc2]
    exact⟨rfl,e1.trans (e3.trans (e4.trans (e5.trans e6)))⟩
   ·rw[if_neg hc2]at hw
    exact zA (i+1) (by omega) ⟨e4.trans (e5.trans e6),sln,by omega,hw⟩
 ·have hil:i=B.ins.length:=by omega
  rw[hwe.out i (by omega)]at hw
  have hul:(YA B.fin).length≤1:=by unfold YA;split<;>simp
  refine go ?_
  refine WO.con (zFp h4 B.fin) ?_
  rintro v5 h5 ⟨o5,e5⟩
  refine go ?_
  refine WO.con (zAs h5 v5 _ r o5.sl (by omega)) ?_
  rintro _ _ ⟨rfl,rfl⟩
  by_cases q:r∈YA B.fin
  ·rw[decide_eq_true q]
   rw[if_pos q]at hw
   refine go ?_
   refine rt ?_
   rw[hw]
   exact⟨rfl,e1.trans (e3.trans (e4.trans e5))⟩
  ·rw[decide_eq_false q]
   rw[if_neg q]at hw
   refine go ?_
   refine rt ?_
   rw[hw]
   exact⟨rfl,e1.trans (e3.trans (e4.trans e5))⟩
theorem zCe (h:AHeap) (vt vf:Value) (T:List LType) (F:List LFn) (f r b:Int) (E:EnvL h vt vf T F) (O:FnOk T F f (zJ F f) (y9 T F f)) (U:Hid (∀ b∈zJ F f,BlkU b (yG (y9 T F f) (zJ F f)) (zJ F f).length)) (hb:0≤b∧b<((zJ F f).length:Int)):
  WC Tryd.prog tb 19 [.agg #[vt,vf],I f,I r,I b,I 0] h fun w h'=>w=I (ZQ (y9 T F f) (zJ F f) b 0 r)∧Ext h h':=by
 have q:=zBM h vt vf T F f r b 0 E O U hb (Nat.zero_le _)
 rw[show ((0:Nat):Int)=0 from rfl]at q
 exact q
end Go.Proofs.YtemggiegiejopaaDoor
namespace Go.Proofs.YtemggiegiejopaaDoor
open Go.Am
set_option linter.unusedVariables false
set_option linter.unusedSimpArgs false
set_option maxHeartbeats 4000000
theorem way_push {par:Int} {L:List LBlk} {v b:Int} {k:Nat} {O O':List Int} {rd:Bool} {i:Nat} {c:Int} (h:i<O.length) (hO:O.take i=O'.take i) (hc:O'.getD i 0=c) (hl:i<O'.length)
  (w:WayI par L v b k O' rd (fun c' j'=>(c'∈O.take i∧j'∈nxL L c')∨(c'=c∧j'∈nxL L c))):WayI par L v b k O' rd (fun c' j'=>c'∈O'.take (i+1)∧j'∈nxL L c'):=
 w.mono fun c' j' q=>by
  rw[zAH O' hl,hc]at q
  rcases List.mem_append.1 q.1 with m|m
  ·exact .inl ⟨by rw[hO];exact m,q.2⟩
  ·have:=List.mem_singleton.1 m
   exact .inr ⟨this,this▸q.2⟩
def ApV (v w:Value):Prop:=∀ a n c a' n' c',v= .slice (some a) n c→w= .slice (some a') n' c'→a.block≠a'.block
theorem slI_updA {h h':AHeap} {v w:Value} {l:List Int} (s:SlI h v l) (u:Upd w h h') (ap:ApV v w):SlI h' v l:=by
 refine⟨s.1,s.2.imp id ?_⟩
 rintro⟨g,off,row,rfl,hr,hc,hg⟩
 refine⟨g,off,row,rfl,?_,hc,Nat.lt_of_lt_of_le hg u.1⟩
 unfold zg at hr ⊢
 rw[u.2 g hg (fun a n c e q=>ap _ _ _ _ _ _ rfl e q.symm)];exact hr
theorem ap_first {h0 h:AHeap} {v w:Value} {xs:List Int} (f:∀ a n c,v= .slice (some a) n c→h.n≤a.block) (o:OwnN h0 h w xs):ApV v w:=by
 intro a n c a' n' c' e e'
 have:=f a n c e
 rcases o with ⟨rfl,_⟩|⟨g,g1,g2,rfl,_⟩
 ·cases e'
 ·cases e'
  show a.block≠g
  omega
theorem ap_next {h0 h h':AHeap} {v w:Value} {l xs:List Int} (s:SlI h v l) (hl:0<l.length) (q:∀ g n c,w= .slice (some ⟨g,0,none⟩) n c→h.n≤g) (o:OwnN h0 h' w xs):ApV v w:=by
 intro a n c a' n' c' e e'
 rcases o with ⟨rfl,_⟩|⟨g,g1,g2,rfl,_⟩
 ·cases e'
 ·have:=q _ _ _ rfl
  cases e'
  rcases s.2 with ⟨e2,_⟩|⟨g',off,row,e2,_,_,hg⟩
  ·omega
  ·rw[e2]at e;cases e
   show g'≠g
   omega
noncomputable def body6_0:ACode:=(.seq (.seq (.region [⟨some 103,none,(.mov (.tmp 21))⟩,⟨some 104,none,(.mov (.tmp 19))⟩,⟨some 105,none,(.len (.tmp 104))⟩,⟨some 106,none,(.bin .lss (.tmp 103) (.tmp 105))⟩]) (.cond (.tmp 106) .skip (.exit 2))) (.seq (.block 3 (.seq (.regionC [(⟨some 109,none,(.mov (.tmp 16))⟩,[]),(⟨some 110,none,(.mov (.tmp 109))⟩,[]),(⟨some 111,some (110,false),(.fld 1 (.tmp 4))⟩,[]),(⟨some 112,some (110,false),(.load false 1 (.tmp 111))⟩,[]),(⟨some 113,some (110,false),(.mov (.tmp 1))⟩,[]),(⟨some 114,some (110,false),(.idx 2 (.tmp 112) (.tmp 113))⟩,[]),(⟨some 115,some (110,false),(.fld 1 (.tmp 114))⟩,[]),(⟨some 116,some (110,false),(.load false 1 (.tmp 115))⟩,[]),(⟨some 117,some (110,false),(.mov (.tmp 19))⟩,[]),(⟨some 118,some (110,false),(.mov (.tmp 21))⟩,[]),(⟨some 119,some (110,false),(.idx 1 (.tmp 117) (.tmp 118))⟩,[]),(⟨some 120,some (110,false),(.load false 1 (.tmp 119))⟩,[]),(⟨some 121,some (110,false),(.idx 5 (.tmp 116) (.tmp 120))⟩,[]),(⟨some 122,some (110,false),(.load true 5 (.tmp 121))⟩,[]),(⟨some 123,some (110,false),(.mov (.tmp 2))⟩,[]),(⟨some 124,some (110,false),(.mov (.tmp 17))⟩,[]),(⟨some 125,some (110,false),(.mov (.tmp 18))⟩,[]),(⟨some 126,some (110,false),(.idx 1 (.tmp 124) (.tmp 125))⟩,[]),(⟨some 127,some (110,false),(.load false 1 (.tmp 126))⟩,[]),(⟨some 128,some (110,false),(.call (.func 20) [(.tmp 122),(.tmp 123),(.tmp 127)])⟩,[]),(⟨some 129,none,(.pick (.tmp 110) (.const (.bool true)) (.tmp 128))⟩,[]),(⟨some 130,none,(.mov (.tmp 129))⟩,[]),(⟨some 131,some (130,false),(.load true 2 (.tmp 4))⟩,[]),(⟨some 132,some (130,false),(.mov (.tmp 1))⟩,[]),(⟨some 133,some (130,false),(.mov (.tmp 2))⟩,[]),(⟨some 134,some (130,false),(.mov (.tmp 19))⟩,[]),(⟨some 135,some (130,false),(.mov (.tmp 21))⟩,[]),(⟨some 136,some (130,false),(.idx 1 (.tmp 134) (.tmp 135))⟩,[]),(⟨some 137,some (130,false),(.load false 1 (.tmp 136))⟩,[]),(⟨some 138,some (130,false),(.call (.func 19) [(.tmp 131),(.tmp 132),(.tmp 133),(.tmp 137),(.const (.int .i64 0))])⟩,[]),(⟨some 139,some (130,false),(.bin .eql (.tmp 138) (.const (.int .i64 1)))⟩,[]),(⟨some 140,none,(.pick (.tmp 130) (.const (.bool true)) (.tmp 139))⟩,[]),(⟨some 16,none,(.mov (.tmp 140))⟩,[])]) (.seq (.regionC [(⟨some 141,none,(.load true 2 (.tmp 4))⟩,[]),(⟨some 142,none,(.mov (.tmp 1))⟩,[]),(⟨some 143,none,(.mov (.tmp 2))⟩,[]),(⟨some 144,none,(.mov (.tmp 19))⟩,[]),(⟨some 145,none,(.mov (.tmp 21))⟩,[]),(⟨some 146,none,(.idx 1 (.tmp 144) (.tmp 145))⟩,[]),(⟨some 147,none,(.load false 1 (.tmp 146))⟩,[]),(⟨some 148,none,(.call (.func 19) [(.tmp 141),(.tmp 142),(.tmp 143),(.tmp 147),(.const (.int .i64 0))])⟩,[]),(⟨some 149,none,(.bin .eql (.tmp 148) (.const (.int .i64 0)))⟩,[]),(⟨some 150,none,(.mov (.tmp 149))⟩,[]),(⟨some 151,some (150,true),(.mov (.tmp 17))⟩,[]),(⟨some 152,some (150,true),(.mov (.tmp 19))⟩,[]),(⟨some 153,some (150,true),(.mov (.tmp 21))⟩,[]),(⟨some 154,some (150,true),(.idx 1 (.tmp 152) (.tmp 153))⟩,[]),(⟨some 155,some (150,true),(.load false 1 (.tmp 154))⟩,[]),(⟨some 156,some (150,true),(.call (.func 17) [(.tmp 151),(.tmp 155)])⟩,[]),(⟨some 157,some (150,true),(.un .not (.tmp 156))⟩,[]),(⟨some 158,none,(.pick (.tmp 150) (.tmp 157) (.const (.bool false)))⟩,[])]) (.cond (.tmp 158) (.region [⟨some 159,none,(.mov (.tmp 17))⟩,⟨some 160,none,(.mov (.tmp 19))⟩,⟨some 161,none,(.mov (.tmp 21))⟩,⟨some 162,none,(.idx 1 (.tmp 160) (.tmp 161))⟩,⟨some 163,none,(.load false 1 (.tmp 162))⟩,⟨some 164,none,(.buildSlice 1 1 [(.int .i64 0)] [(0,1,(.tmp 163))])⟩,⟨some 165,none,(.append 1 (.tmp 159) (.tmp 164))⟩,⟨some 17,none,(.mov (.tmp 165))⟩]) .skip)))) (.region [⟨some 107,none,(.mov (.tmp 21))⟩,⟨some 108,none,(.bin .add (.tmp 107) (.const (.int .i64 1)))⟩,⟨some 21,none,(.mov (.tmp 108))⟩])))
noncomputable def body6_1:ACode:=(.seq (.seq (.region [⟨some 83,none,(.mov (.tmp 18))⟩,⟨some 84,none,(.mov (.tmp 17))⟩,⟨some 85,none,(.len (.tmp 84))⟩,⟨some 86,none,(.bin .lss (.tmp 83) (.tmp 85))⟩,⟨some 87,none,(.mov (.tmp 86))⟩,⟨some 88,some (87,true),(.mov (.tmp 18))⟩,⟨some 89,some (87,true),(.bin .lss (.tmp 88) (.const (.int .i64 40)))⟩,⟨some 90,none,(.pick (.tmp 87) (.tmp 89) (.const (.bool false)))⟩]) (.cond (.tmp 90) .skip (.exit 0))) (.seq (.block 1 (.seq (.regionC [(⟨some 94,none,(.load true 2 (.tmp 4))⟩,[]),(⟨some 95,none,(.mov (.tmp 1))⟩,[]),(⟨some 96,none,(.mov (.tmp 17))⟩,[]),(⟨some 97,none,(.mov (.tmp 18))⟩,[]),(⟨some 98,none,(.idx 1 (.tmp 96) (.tmp 97))⟩,[]),(⟨some 99,none,(.load false 1 (.tmp 98))⟩,[]),(⟨some 100,none,(.call (.func 18) [(.tmp 94),(.tmp 95),(.tmp 99)])⟩,[]),(⟨some 93,none,(.mov (.tmp 100))⟩,[]),(⟨some 101,none,(.extract (.tmp 93) 0)⟩,[]),(⟨some 102,none,(.extract (.tmp 93) 1)⟩,[]),(⟨some 19,none,(.mov (.tmp 101))⟩,[]),(⟨some 20,none,(.mov (.tmp 102))⟩,[])]) (.seq (.region [⟨some 21,none,(.mov (.const (.int .i64 0)))⟩]) (.block 2 (.loop body6_0))))) (.region [⟨some 91,none,(.mov (.tmp 18))⟩,⟨some 92,none,(.bin .add (.tmp 91) (.const (.int .i64 1)))⟩,⟨some 18,none,(.mov (.tmp 92))⟩])))
noncomputable def body6:ACode:=(.seq (.region [⟨some 4,none,(.box (.tmp 0))⟩,⟨some 7,none,(.box (.tmp 3))⟩,⟨some 8,none,(.mov (.const (.bool false)))⟩]) (.seq (.region [⟨some 22,none,(.call (.func 10) [])⟩,⟨some 9,none,(.mov (.tmp 22))⟩]) (.seq (.seq (.region [⟨some 23,none,(.load true 2 (.tmp 4))⟩,⟨some 24,none,(.call (.func 12) [(.tmp 23),(.const (.int .i64 200))])⟩,⟨some 25,none,(.mov (.tmp 24))⟩,⟨some 26,some (25,false),(.mov (.tmp 9))⟩,⟨some 27,some (25,false),(.un .not (.tmp 26))⟩,⟨some 28,none,(.pick (.tmp 25) (.const (.bool true)) (.tmp 27))⟩]) (.cond (.tmp 28) (.seq (.region [⟨some 29,none,(.mov (.tmp 9))⟩,⟨some 8,none,(.mov (.tmp 29))⟩]) .ret) .skip)) (.seq (.regionC [(⟨some 30,none,(.idxArr 2 1 (.tmp 7) (.const (.int .i64 0)))⟩,[]),(⟨some 31,none,(.load false 1 (.tmp 30))⟩,[]),(⟨some 32,none,(.idxArr 2 1 (.tmp 7) (.const (.int .i64 1)))⟩,[]),(⟨some 33,none,(.load false 1 (.tmp 32))⟩,[]),(⟨some 10,none,(.mov (.tmp 31))⟩,[]),(⟨some 11,none,(.mov (.tmp 33))⟩,[])]) (.seq (.region [⟨some 35,none,(.load true 2 (.tmp 4))⟩,⟨some 36,none,(.mov (.tmp 1))⟩,⟨some 37,none,(.mov (.tmp 10))⟩,⟨some 38,none,(.mov (.tmp 11))⟩,⟨some 39,none,(.call (.func 7) [(.tmp 35),(.tmp 36),(.tmp 37),(.tmp 38)])⟩,⟨some 34,none,(.mov (.tmp 39))⟩,⟨some 40,none,(.extract (.tmp 34) 0)⟩,⟨some 41,none,(.extract (.tmp 34) 1)⟩,⟨some 12,none,(.mov (.tmp 40))⟩,⟨some 13,none,(.mov (.tmp 41))⟩]) (.seq (.region [⟨some 43,none,(.load true 2 (.tmp 4))⟩,⟨some 44,none,(.mov (.tmp 1))⟩,⟨some 45,none,(.call (.func 13) [(.tmp 43),(.tmp 44)])⟩,⟨some 42,none,(.mov (.tmp 45))⟩,⟨some 46,none,(.extract (.tmp 42) 0)⟩,⟨some 47,none,(.extract (.tmp 42) 1)⟩,⟨some 14,none,(.mov (.tmp 46))⟩,⟨some 15,none,(.mov (.tmp 47))⟩]) (.seq (.seq (.region [⟨some 48,none,(.mov (.tmp 13))⟩,⟨some 49,none,(.bin .neq (.tmp 48) (.const (.int .i64 0)))⟩,⟨some 50,none,(.mov (.tmp 49))⟩,⟨some 51,some (50,false),(.mov (.tmp 15))⟩,⟨some 52,some (50,false),(.bin .neq (.tmp 51) (.const (.int .i64 0)))⟩,⟨some 53,none,(.pick (.tmp 50) (.const (.bool true)) (.tmp 52))⟩,⟨some 54,none,(.mov (.tmp 53))⟩,⟨some 55,some (54,false),(.mov (.tmp 2))⟩,⟨some 56,some (54,false),(.bin .lss (.tmp 55) (.const (.int .i64 0)))⟩,⟨some 57,none,(.pick (.tmp 54) (.const (.bool true)) (.tmp 56))⟩,⟨some 58,none,(.mov (.tmp 57))⟩,⟨some 59,some (58,false),(.mov (.tmp 2))⟩,⟨some 60,some (58,false),(.mov (.tmp 14))⟩,⟨some 61,some (58,false),(.bin .geq (.tmp 59) (.tmp 60))⟩,⟨some 62,none,(.pick (.tmp 58) (.const (.bool true)) (.tmp 61))⟩]) (.cond (.tmp 62) (.seq (.region [⟨some 63,none,(.mov (.tmp 9))⟩,⟨some 8,none,(.mov (.tmp 63))⟩]) .ret) .skip)) (.seq (.region [⟨some 64,none,(.load true 2 (.tmp 4))⟩,⟨some 65,none,(.mov (.tmp 1))⟩,⟨some 66,none,(.mov (.tmp 2))⟩,⟨some 67,none,(.mov (.tmp 10))⟩,⟨some 68,none,(.mov (.tmp 11))⟩,⟨some 69,none,(.call (.func 19) [(.tmp 64),(.tmp 65),(.tmp 66),(.tmp 67),(.tmp 68)])⟩,⟨some 70,none,(.bin .eql (.tmp 69) (.const (.int .i64 1)))⟩,⟨some 16,none,(.mov (.tmp 70))⟩]) (.seq (.region [⟨some 71,none,(.buildSlice 0 1 [(.int .i64 0)] [])⟩,⟨some 17,none,(.mov (.tmp 71))⟩]) (.seq (.seq (.region [⟨some 72,none,(.load true 2 (.tmp 4))⟩,⟨some 73,none,(.mov (.tmp 1))⟩,⟨some 74,none,(.mov (.tmp 2))⟩,⟨some 75,none,(.mov (.tmp 10))⟩,⟨some 76,none,(.mov (.tmp 11))⟩,⟨some 77,none,(.call (.func 19) [(.tmp 72),(.tmp 73),(.tmp 74),(.tmp 75),(.tmp 76)])⟩,⟨some 78,none,(.bin .eql (.tmp 77) (.const (.int .i64 0)))⟩]) (.cond (.tmp 78) (.region [⟨some 79,none,(.mov (.tmp 17))⟩,⟨some 80,none,(.mov (.tmp 10))⟩,⟨some 81,none,(.buildSlice 1 1 [(.int .i64 0)] [(0,1,(.tmp 80))])⟩,⟨some 82,none,(.append 1 (.tmp 79) (.tmp 81))⟩,⟨some 17,none,(.mov (.tmp 82))⟩]) .skip)) (.seq (.seq (.region [⟨some 18,none,(.mov (.const (.int .i64 0)))⟩]) (.block 0 (.loop body6_1))) (.seq (.region [⟨some 166,none,(.mov (.tmp 9))⟩,⟨some 167,none,(.mov (.tmp 166))⟩,⟨some 168,some (167,true),(.mov (.tmp 12))⟩,⟨some 169,some (167,true),(.mov (.tmp 2))⟩,⟨some 170,some (167,true),(.call (.func 17) [(.tmp 168),(.tmp 169)])⟩,⟨some 171,some (167,true),(.mov (.tmp 16))⟩,⟨some 172,some (167,true),(.binB false (.tmp 170) (.tmp 171))⟩,⟨some 173,none,(.pick (.tmp 167) (.tmp 172) (.const (.bool false)))⟩,⟨some 8,none,(.mov (.tmp 173))⟩]) .ret))))))))))))
set_option maxRecDepth 100000 in
theorem tab6:tb.code 6=some ⟨174,[(8,none)],body6⟩:=by kernel_rfl
theorem zGi (h:AHeap) (vt vf:Value) (T:List LType) (F:List LFn) (f r b at':Int) (tt:Tbl h) (hm:h.mark≤h.n) (Z:TzT h) (st:SlT h vt T) (sf:SlF h vf F) (hT:(T.length:Int)≤1152921504606846976) (hF:(F.length:Int)≤1152921504606846976):
  WC Tryd.prog tb 6 [.agg #[vt,vf],I f,I r,.agg #[I b,I at']] h fun r h'=>r= .bool true:=by
 obtain⟨ta,tn,tk,rfl⟩:=zI st
 obtain⟨ga,gn,gk,rfl⟩:=zI sf
 refine WC.of (zF 6) tab6 ?_;simp only[zO,Nat.zero_add,Nat.reduceAdd]
 refine go ?_
 refine WO.bx ?_
 intro p h0 e0 o0
 refine go ?_
 refine WO.bx ?_
 intro p7 h1 e01 o7
 have e1:=e0.trans e01
 have o1:=o0.ext e01
 have tt1:=tt.ext e1
 have Z1:=Z.ext e1
 refine go ?_
 refine WO.con (alive_ok h1 tt1.1 Z1.1) ?_
 rintro _ _ ⟨rfl,rfl⟩
 refine go ?_
 refine WO.con (great_ok h1 _ _ T F 200 (by omega) (st.ext e1) (SlF.ext sf e1) (by omega) (by omega)) ?_
 rintro x h3 ⟨hr,e3⟩
 have o1:=o1.ext e3
 have o7:=o7.ext e3
 rcases hr with rfl|⟨rfl,sm⟩
 ·refine go ?_
  refine rt ?_
  rfl
 have E:EnvL h3 (.slice ta tn tk) (.slice ga gn gk) T F:=⟨tt1.ext e3,ZH e3 (ZH e1 hm),sm,(st.ext e1).ext e3,SlF.ext (SlF.ext sf e1) e3⟩
 have Z3:=Z1.ext e3
 clear st sf tt tt1 Z Z1 hm e1 e3 o0 e0 e01
 refine go ?_
 refine WO.con (lAt_ok h3 _ _ T F f b at' E Z3) ?_
 rintro _ h4 ⟨⟨vn,l,rfl,on,hl1,hl2⟩,e4⟩
 have o1:=o1.ext e4
 have o7:=o7.ext e4
 have E:=E.ext e4
 have Z4:=Z3.ext e4
 have sn:=on.sl
 refine go ?_
 refine WO.con (zH1 h4 _ _ T F f E.tt E.hm E.sm E.st E.sf) ?_
 rintro _ h5 ⟨rfl,e5⟩
 have o1:=o1.ext e5
 have E:=E.ext e5
 have Z5:=Z4.ext e5
 have sn:=SlI.ext sn e5
 by_cases ha:zAf T F f b at'=0
 case neg=>
  refine go ?_
  refine rt ?_
  rfl
 have A:=hl2 ha
 obtain⟨hnx,ha0,ha1⟩:=ask_next ha
 obtain⟨hask,hb0,hb1⟩:=zFc hnx
 obtain⟨hf0,hf1,_⟩:=zC6 hask
 obtain⟨O,U⟩:FnOk T F f (zJ F f) (y9 T F f)∧∀ b∈zJ F f,BlkU b (yG (y9 T F f) (zJ F f)) (zJ F f).length:=zHq E.sm hask
 have hb1:b<((zJ F f).length:Int):=hb1
 rw[regs_of hask,ha]
 have hN:=regN_le O
 have hll:=rise_le A.rise A.reg hN.1
 by_cases hr0:r<0
 ·refine go ?_
  refine rt ?_
  rfl
 by_cases hr1:yG (y9 T F f) (zJ F f)≤r
 ·refine go ?_
  refine rt ?_
  rfl
 obtain⟨k,rfl⟩:∃ k:Nat,at'=k:=⟨at'.toNat,by omega⟩
 have hnext:∀ c,0≤c→c<((zJ F f).length:Int)→∀ j∈nxL (zJ F f) c,0≤j∧j<((zJ F f).length:Int):=fun c h1 h2=>(U _ (zL (l:=zJ F f) (i:=c.toNat) (by omega))).next
 have hnl:∀ c,(nxL (zJ F f) c).length≤2:=fun c=>by unfold nxL Z0;split<;>(try split)<;>(try split)<;>simp
 have hmem:r∈l↔yZ (y9 T F f) (zJ F f) b k (LE (y9 T F f) (zJ F f) b) r:=A.mem r
 have hmem:=Hid.mk hmem
 have hfix:=Hid.mk A.fix
 have U:=Hid.mk U
 have hk:k≤((zJ F f).getD b.toNat default).ins.length:=by show k≤((F.getD f.toNat default).blocks.getD b.toNat default).ins.length;omega
 have hlen:(zJ F f).length≤16:=O.len.2
 have hO:=Hid.mk (fun b h=>O.ins b h)
 have hnxt:=Hid.mk (fun k (h1:0≤k) (h2:k<((zJ F f).length:Int))=>zIJ O ⟨h1,h2⟩)
 have hnext:=Hid.mk hnext
 have hl:(l.length:Int)≤228:=by omega
 clear hl1 hl2 A on hask hnx
 refine go ?_
 refine WO.con (zBM h5 _ _ T F f r b k E O U ⟨hb0,hb1⟩ hk) ?_
 rintro _ h6 ⟨rfl,e6⟩
 have o1:=o1.ext e6
 have E:=E.ext e6
 have sn:=SlI.ext sn e6
 have o16:=o1
 have E6:=E
 have sn6:=sn
 have Z6:=Z5.ext e6
 refine go ?_
 refine WO.bl [] ?_
 intro v17 h7 e7 o17
 have o1:=o1.ext e7
 have E:=E.ext e7
 have sn:=SlI.ext sn e7
 refine go ?_
 refine WO.con (zBM h7 _ _ T F f r b k E O U ⟨hb0,hb1⟩ hk) ?_
 rintro _ h8 ⟨rfl,e8⟩
 have o1:=o1.ext e8
 have E:=E.ext e8
 have sn:=SlI.ext sn e8
 have o17:=OwnN.ext (.inr o17) e8
 have e68:=e7.trans e8
 refine go ?_
 refine WX.cutA [79,80,81,82,17] (by kernel_rfl) (fun t h'=>∃ w,Ext h6 h'∧zC t 17=w∧OwnN h6 h' w (if ZQ (y9 T F f) (zJ F f) b k r=0 then [b] else [])) ?_ ?_
 ·refine WX.br (fun hc=> ?_) (fun hc=> ?_)<;>simp only[DB]at hc
  ·refine go ?_
   refine WO.bl [b] ?_
   intro v9 h9 e9 o9
   obtain⟨wa,wn,wk,rfl⟩:=SlC.shape o17.sl
   refine go ?_
   refine WO.apN (OwnN.ext o17 e9) o9.sl (e68.trans e9) (by simp) ?_
   intro v10 h10 e10 o10
   refine go ?_
   exact zE ⟨_,e10,sl_,by rw[if_pos hc];exact o10⟩
  ·refine go ?_
   exact zE ⟨_,e68,sl_,by rw[if_neg hc];exact o17⟩
 rintro t9 h9 hs9 ⟨w9,e9,s17,o17⟩
 have o19:=o16.ext e9
 have E9:=E6.ext e9
 refine go ?_
 refine WX.loopA [83,84,85,86,87,88,89,90,94,95,96,97,98,99,100,93,101,102,19,20,21,103,104,105,106,109,110,111,112,113,114,115,116,117,118,119,120,121,122,123,124,125,126,127,128,129,130,131,132,133,134,135,136,137,138,139,140,16,141,142,143,144,145,146,147,148,149,150,151,152,153,154,155,156,157,158,159,160,161,162,163,164,165,17,107,108,21,91,92,18] (by kernel_rfl) (fun i=>40 - i) (fun i t h'=>∃ w W rd,zC t 18=I i∧i≤W.length∧Ext h6 h'∧zC t 17=w∧OwnN h6 h' w W∧zC t 16= .bool rd∧Hid (WayI (y9 T F f) (zJ F f) r b k W rd (fun c j=>c∈W.take i∧j∈nxL (zJ F f) c))) 0 ?_ ?_
 ·refine⟨_,_,_,sl_,Nat.zero_le _,e9,sl_,o17,sl_,⟨WayI.init ⟨hb0,hb1⟩ _ fun c j q=> ?_⟩⟩
  rw[List.take_zero]at q;cases q.1
 rintro i t h10 hsame ⟨w,W,rd,s18,hi,e10,s17,ow,s16,hW⟩
 have hWl:=zGj hW.out.nd hW.out.rng
 have o110:=o16.ext e10
 have E10:=E6.ext e10
 have Z10:=Z6.ext e10
 have swl:=ow.sl
 by_cases hiW:i<W.length
 ·have hrng:=hW.out.rng _ (Yt (i:=i) hiW)
  have hcW:=Yt (l:=W) (i:=i) hiW
  refine go ?_
  refine WX.regionU2 0 rfl rfl ?_
  have oX:OwnC h (inC (zB 0 h10)) p [.slice ta tn tk,.slice ga gn gk]:=o110
  have swX:SlI (inC (zB 0 h10)) w W:=swl
  refine goU ?_
  refine WO.con (zE4 (inC (zB 0 h10)) _ _ T F f (W.getD i 0) E10.inC.tt (Nat.le_refl _) E10.sm E10.inC.st E10.inC.sf) ?_
  rintro _ h11 ⟨⟨vto,rfl,sto,hfrs⟩,e11⟩
  rw[hnxt.out _ hrng.1 hrng.2]at sto ⊢
  refine WO.nil ?_
  refine yq e11 zP ?_
  refine goU ?_
  have e1011:Ext h10 (outC h10 (inC h11)):=extI e11
  have sto:SlI (outC h10 (inC h11)) vto (nxL (zJ F f) (W.getD i 0)):=by have:=sto;exact this
  generalize outC h10 (inC h11)=h12 at e1011 sto ⊢
  have e612:=e10.trans e1011
  have ow12:=OwnN.ext ow e1011
  have hap:ApV vto w:=ap_first (h:=h10) (fun a n c e=>hfrs a n c e) ow
  clear oX swX e11 E10 Z10 swl o110
  generalize hc:W.getD i 0=c at *
  have hn2:=hnl c
  have hW0:=hW.out
  have hap:=Hid.mk hap
  refine go ?_
  refine WX.loopA [103,104,105,106,109,110,111,112,113,114,115,116,117,118,119,120,121,122,123,124,125,126,127,128,129,130,131,132,133,134,135,136,137,138,139,140,16,141,142,143,144,145,146,147,148,149,150,151,152,153,154,155,156,157,158,159,160,161,162,163,164,165,17,107,108,21] (by kernel_rfl) (fun j=>(nxL (zJ F f) c).length - j) (fun j t h'=>∃ w' W' rd',zC t 21=I j∧j≤(nxL (zJ F f) c).length∧Ext h6 h'∧zC t 17=w'∧OwnN h6 h' w' W'∧zC t 16= .bool rd'∧SlI h' vto (nxL (zJ F f) c)∧Hid (ApV vto w')∧Hid (i<W'.length∧W.take i=W'.take i∧W'.getD i 0=c)∧
    Hid (WayI (y9 T F f) (zJ F f) r b k W' rd' (fun c' j'=>(c'∈W.take i∧j'∈nxL (zJ F f) c')∨(c'=c∧j'∈(nxL (zJ F f) c).take j)))) 0 ?_ ?_
  ·refine⟨_,_,_,sl_,Nat.zero_le _,e612,sl_,ow12,sl_,sto,hap,⟨hiW,rfl,hc⟩,⟨hW0.mono fun c' j' q=> ?_⟩⟩
   rcases q with q|⟨_,q⟩
   ·exact q
   ·rw[List.take_zero]at q;cases q
  rintro j t13 h13 hsame13 ⟨w',W',rd',s21,hj,e13,s17',ow',s16',sto',hap',hV,hW'⟩
  have hWl':=zGj hW'.out.nd hW'.out.rng
  obtain⟨hiW',htk',hcc⟩:=hV.out
  have o113:=o16.ext e13
  have E13:=E6.ext e13
  refine go ?_
  refine WX.br (fun hcj=> ?_) (fun hcj=> ?_)<;>simp only[DB]at hcj
  ·have hj':j<(nxL (zJ F f) c).length:=by omega
   have hjm:=Yt (l:=nxL (zJ F f) c) (i:=j) hj'
   obtain⟨hj0,hj1⟩:=hnext.out c hrng.1 hrng.2 _ hjm
   have htkj:=zAH (nxL (zJ F f) c) hj'
   have hcW':c∈W':=by rw[←hcc];exact Yt hiW'
   have sw':=ow'.sl
   generalize hjj:(nxL (zJ F f) c).getD j 0=jj at *
   have htkj:=Hid.mk htkj
   have hjj:=Hid.mk hjj
   refine go ?_
   refine WX.cutA [109,110,111,112,113,114,115,116,117,118,119,120,121,122,123,124,125,126,127,128,129,130,131,132,133,134,135,136,137,138,139,140,16] rfl (fun t h'=>∃ rd2,Ext h13 h'∧zC t 16= .bool rd2∧(rd2=true↔rd'=true∨r∈ZX ((zJ F f).getD jj.toNat default) c∨ZQ (y9 T F f) (zJ F f) jj 0 r=1)) ?_ ?_
   ·obtain⟨hjx⟩:=hjj
    subst hjx
    cases rd'
    case true=>
     refine WX.regionU2 0 rfl rfl ?_
     refine goU ?_
     show zDu _ _ _ _ _ _ _
     exact zE ⟨true,by have:=extI (h:=h13) (h':=inC (zB 0 h13)) (Ext.refl _);exact this,sl_,⟨fun _=> .inl rfl,fun _=>rfl⟩⟩
    case false=>
     obtain⟨csF,⟨vbl,rfl,sb,hlb⟩,pcF,hsF⟩:=y8 E13.sf (i:=f.toNat) (by omega)
     obtain⟨ba,bn,bk,rfl⟩:=zI sb
     have hjlt:((nxL (zJ F f) c).getD j 0).toNat<(F.getD f.toNat default).blocks.length:=by show _<(zJ F f).length;omega
     have hUj:=U.out _ (zL (l:=zJ F f) (i:=((nxL (zJ F f) c).getD j 0).toNat) hjlt)
     have hbm:=hO.out _ (zL (l:=zJ F f) (i:=((nxL (zJ F f) c).getD j 0).toNat) hjlt)
     obtain⟨csK,hcsK,pcK,hsK⟩:=y8 sb (i:=((nxL (zJ F f) c).getD j 0).toNat) hjlt
     have hjj2:(nxL (zJ F f) c).getD j 0<((F.getD f.toNat default).blocks.length:Int):=hj1
     have hcsK0:=hcsK
     refine WX.regionU2 0 rfl rfl ?_
     have oX:OwnC h (inC (zB 0 h13)) p [.slice ta tn tk,.slice ga gn gk]:=o113
     have sfX:SlF (inC (zB 0 h13)) (.slice ga gn gk) F:=E13.sf
     have sbX:SlB (inC (zB 0 h13)) (.slice ba bn bk) (zJ F f):=sb
     have pcFX:=(pcF _ (Ext.refl _)).2
     have pcFX:Piece (inC (zB 0 h13)) (.slice ga gn gk) (f.toNat * 2) [I (F.getD f.toNat default).sig,.slice ba bn bk]:=pcFX
     have pcKX:=(pcK _ (Ext.refl _)).2
     have stoX:SlI (inC (zB 0 h13)) vto (nxL (zJ F f) c):=sto'
     have swX:SlI (inC (zB 0 h13)) w' W':=sw'
     obtain⟨vi,rfl,si,hli⟩:=hcsK
     obtain⟨ia,iN,ik,rfl⟩:=zI si
     have pcKX:Piece (inC (zB 0 h13)) (.slice ba bn bk) (((nxL (zJ F f) c).getD j 0).toNat * 5) [.slice ia iN ik,.int .u8 ((zJ F f).getD ((nxL (zJ F f) c).getD j 0).toNat default).fin.kind,I ((zJ F f).getD ((nxL (zJ F f) c).getD j 0).toNat default).fin.a,I ((zJ F f).getD ((nxL (zJ F f) c).getD j 0).toNat default).fin.to,I ((zJ F f).getD ((nxL (zJ F f) c).getD j 0).toNat default).fin.els]:=pcKX
     have hcsX:RBlk (inC (zB 0 h13)) [.slice ia iN ik,.int .u8 ((zJ F f).getD ((nxL (zJ F f) c).getD j 0).toNat default).fin.kind,I ((zJ F f).getD ((nxL (zJ F f) c).getD j 0).toNat default).fin.a,I ((zJ F f).getD ((nxL (zJ F f) c).getD j 0).toNat default).fin.to,I ((zJ F f).getD ((nxL (zJ F f) c).getD j 0).toNat default).fin.els] ((zJ F f).getD ((nxL (zJ F f) c).getD j 0).toNat default):=hcsK0
     have hq1:∀ x∈((zJ F f).getD ((nxL (zJ F f) c).getD j 0).toNat default).ins,x.frm.length≤20:=fun x hx=>(hUj.ins x hx).frm
     have hq2:∀ x∈((zJ F f).getD ((nxL (zJ F f) c).getD j 0).toNat default).ins,x.op=22→x.frm.length=x.args.length:=fun x hx e=>((hUj.ins x hx).phi e).1
     have hq3:∀ x∈((zJ F f).getD ((nxL (zJ F f) c).getD j 0).toNat default).ins,x.op≠22→x.frm.length=0:=fun x hx e=>(hUj.ins x hx).none e
     have hq1:=Hid.mk hq1
     have hq2:=Hid.mk hq2
     have hq3:=Hid.mk hq3
     clear hUj hcsK0 pcF pcK
     refine goU ?_
     refine WO.con (byPhi_ok (inC (zB 0 h13)) ((zJ F f).getD ((nxL (zJ F f) c).getD j 0).toNat default) _ r (W'.getD i 0) hcsX hbm hq1.out hq2.out hq3.out) ?_
     rintro _ h20 ⟨rfl,e20⟩
     refine WO.nil ?_
     refine yq e20 zP ?_
     have e1320:Ext h13 (outC h13 (inC h20)):=extI e20
     clear pcFX pcKX hcsX sbX sfX oX stoX swX
     by_cases hph:r∈ZX ((zJ F f).getD ((nxL (zJ F f) c).getD j 0).toNat default) (W'.getD i 0)
     ·rw[decide_eq_true hph]
      refine goU ?_
      show zDu _ _ _ _ _ _ _
      exact zE ⟨true,e1320,sl_,⟨fun _=> .inr (.inl (hcc▸hph)),fun _=>rfl⟩⟩
     ·rw[decide_eq_false hph]
      have oX:OwnC h (inC h20) p [.slice ta tn tk,.slice ga gn gk]:=by have:=o113.ext e1320;exact this
      have stoX:SlI (inC h20) vto (nxL (zJ F f) c):=by have:=SlI.ext sto' e1320;exact this
      have E20:=E13.ext e1320
      have EX:EnvL (inC h20) (.slice ta tn tk) (.slice ga gn gk) T F:=⟨by have:=E20.tt;exact this,Nat.le_refl _,sm,by have:=E20.st;exact this,by have:=E20.sf;exact this⟩
      refine goU ?_
      refine WO.con (zCe (inC h20) _ _ T F f r ((nxL (zJ F f) c).getD j 0) EX O U ⟨hj0,hj1⟩) ?_
      rintro _ h21 ⟨rfl,e21⟩
      refine WO.nil ?_
      refine yq e21 zP ?_
      refine goU ?_
      have e1321:Ext h13 (outC h13 (inC h21)):=extI2 e20 e21
      show zDu _ _ _ _ _ _ _
      refine zE ⟨_,e1321,sl_,⟨fun q=> .inr (.inr (of_decide_eq_true q)),fun q=> ?_⟩⟩
      rcases q with q|q|q
      ·cases q
      ·exact absurd (hcc▸q) hph
      ·exact decide_eq_true q
   rintro t14 h14 hs14 ⟨rd2,e14,s16,hrd2⟩
   have o114:=o113.ext e14
   have E14:=E13.ext e14
   have sto14:=SlI.ext sto' e14
   have sw14:=SlI.ext sw' e14
   refine go ?_
   refine WX.cutA [141,142,143,144,145,146,147,148,149,150,151,152,153,154,155,156,157,158] rfl (fun t h'=>∃ q,Ext h14 h'∧zC t 158= .bool q∧(q=true↔ZQ (y9 T F f) (zJ F f) jj 0 r=0∧jj∉W')) ?_ ?_
   ·obtain⟨hjx⟩:=hjj
    subst hjx
    refine WX.regionU2 0 rfl rfl ?_
    have oX:OwnC h (inC (zB 0 h14)) p [.slice ta tn tk,.slice ga gn gk]:=o114
    have stoX:SlI (inC (zB 0 h14)) vto (nxL (zJ F f) c):=sto14
    refine goU ?_
    refine WO.con (zCe (inC (zB 0 h14)) _ _ T F f r ((nxL (zJ F f) c).getD j 0) E14.inC O U ⟨hj0,hj1⟩) ?_
    rintro _ h21 ⟨rfl,e21⟩
    refine WO.nil ?_
    refine yq e21 zP ?_
    have e1421:Ext h14 (outC h14 (inC h21)):=extI e21
    clear oX stoX
    by_cases hz:ZQ (y9 T F f) (zJ F f) ((nxL (zJ F f) c).getD j 0) 0 r=0
    ·rw[hz]
     have stoX:SlI (inC h21) vto (nxL (zJ F f) c):=by have:=SlI.ext sto14 e1421;exact this
     have swX:SlI (inC h21) w' W':=by have:=SlI.ext sw14 e1421;exact this
     refine goU ?_
     refine WO.con (zAs (inC h21) w' W' ((nxL (zJ F f) c).getD j 0) swX (by omega)) ?_
     rintro _ _ ⟨rfl,rfl⟩
     refine WO.nil ?_
     refine yq (Ext.refl _) zP ?_
     refine goU ?_
     show zDu _ _ _ _ _ _ _
     refine zE ⟨_,e1421,sl_,⟨fun q=>⟨rfl,fun m=> ?_⟩,fun q=> ?_⟩⟩
     ·rw[decide_eq_true m]at q;cases q
     ·rw[decide_eq_false q.2];rfl
    ·refine goU ?_
     show zDu _ _ _ _ _ _ _
     exact zE ⟨false,e1421,sl_,⟨(fun q=>by cases q),(fun q=>absurd q.1 hz)⟩⟩
   rintro t15 h15 hs15 ⟨q,e15,s158,hq⟩
   have e1315:=e14.trans e15
   have ow15:=OwnN.ext ow' e1315
   have sto15:=SlI.ext sto14 e15
   cases q
   ·refine go ?_
    refine zA (j+1) (by omega) ⟨_,_,_,sln,by omega,e13.trans e1315,sl_,ow15,sl_,sto15,hap',hV,⟨?_⟩⟩
    have:=hW'.out.step hfix.out hcW' hjm ⟨hj0,hj1⟩ hrd2 (O':=W') (by rw[if_neg];intro x;have:=hq.2 x;cases this)
    refine this.mono fun c' j' x=> ?_
    rcases x with x|⟨x1,x2⟩
    ·exact .inl (.inl x)
    ·rw[htkj.out]at x2
     rcases List.mem_append.1 x2 with x2|x2
     ·exact .inl (.inr ⟨x1,x2⟩)
     ·exact .inr ⟨x1,List.mem_singleton.1 x2⟩
   ·obtain⟨wa,wn,wk,rfl⟩:=SlC.shape ow15.sl
    have hjx:=hjj.out
    refine go ?_
    refine WO.bl [(nxL (zJ F f) c).getD j 0] ?_
    intro v16 h16 e16 o16b
    have ow16:=OwnN.ext ow15 e16
    have sto16:=SlI.ext sto15 e16
    refine go ?_
    refine WO.apNw ow16 o16b.sl ((e13.trans e1315).trans e16) (by simp) (by simp only[List.length_singleton];omega) ?_
    intro v17 h17 e17 o17b u17 _ hn17
    rw[hjx]at o17b
    have sto17:=slI_updA sto16 u17 hap'.out
    have hap17:=ap_next sto16 (by omega) hn17 o17b
    refine go ?_
    refine zA (j+1) (by omega) ⟨_,W'++[jj],_,sln,by omega,e17,sl_,o17b,sl_,sto17,⟨hap17⟩,⟨by simp;omega,by rw[htk',List.take_append_of_le_length (by omega)],by rw[List.getD_eq_getElem?_getD,List.getElem?_append_left hiW',←List.getD_eq_getElem?_getD];exact hcc⟩,⟨?_⟩⟩
    have:=hW'.out.step hfix.out hcW' hjm ⟨hj0,hj1⟩ hrd2 (O':=W'++[jj]) (by rw[if_pos (hq.1 rfl)])
    refine this.mono fun c' j' x=> ?_
    rcases x with x|⟨x1,x2⟩
    ·exact .inl (.inl x)
    ·rw[htkj.out]at x2
     rcases List.mem_append.1 x2 with x2|x2
     ·exact .inl (.inr ⟨x1,x2⟩)
     ·exact .inr ⟨x1,List.mem_singleton.1 x2⟩
  ·have hjl:j=(nxL (zJ F f) c).length:=by omega
   subst hjl
   rw[List.take_length]at hW'
   refine go ?_
   exact zA (i+1) (by omega) ⟨_,_,_,sln,by omega,e13,sl_,ow',sl_,⟨way_push hiW htk' hcc hiW' hW'.out⟩⟩
 ·refine go ?_
  have hrd:=hW.out.out hfix.out (fun c hcW j hj=>⟨by rw[List.take_of_length_le (by omega)];exact hcW,hj⟩) ⟨hb0,hb1⟩ hnext.out
  refine WO.con (zAs h10 _ l r (SlI.ext sn6 e10) (by omega)) ?_
  rintro _ _ ⟨rfl,rfl⟩
  have hq:decide (r∈l)=rd:=by
   cases hrd2:rd
   ·exact decide_eq_false fun q=>by have:=hrd.2 (hmem.out.1 q);rw[hrd2]at this;cases this
   ·exact decide_eq_true (hmem.out.2 (hrd.1 hrd2))
  rw[hq]
  refine go ?_
  refine rt ?_
  cases rd<;>rfl
end Go.Proofs.YtemggiegiejopaaDoor
