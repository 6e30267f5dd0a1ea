/- What functions of the program come to in the abstract machine, and plain laws about it; no statement of the seat is proved in this text. -/
import Derived.Test.YteekipjpghikkaaGreatDoorJl
import Derived.Test.YteekipjpghikkaaGreatDoorJe
import Derived.Test.YteekipjpghikkaaGreatDoorJh
import Derived.Test.YteekipjpghikkaaGreatDoorAmV
set_option linter.unusedVariables false
set_option linter.unusedSimpArgs false
set_option maxHeartbeats 2000000
namespace Go.Proofs.YteekipjpghikkaaGreatDoor
noncomputable section
open Go.Am
set_option maxRecDepth 100000
theorem zLp {x:Int} {l:List Int}:x∈ZT l↔x∈l:=(JI l _).mem_iff
theorem zM6 (l:List Int):(ZT l).length=l.length:=(JI l _).length_eq
theorem zJv (l:List Int):(ZT l).Pairwise (·<=·):=by
 have hp:(ZT l).Pairwise (fun a b=>decide (a<=b)=true):=List.pairwise_mergeSort (fun a b c h1 h2=>by simp only[Qb]at *;omega) (fun a b=>by simp only[Q7,Qb];omega) l;exact hp.imp fun h=>Gt h
theorem zSy {s:List LWd} {xs:List Int} {n:Int} (u:Upto s xs) (h:∀ x∈xs,x<=n):∀ w∈s,w.pos<=n / 64:=by
 intro w hw;obtain⟨a,b,c,d⟩:=u.ok.each w hw;obtain⟨k,hk⟩:=zDx c;have hk2:=YR d hk;have:=(u.mem (64 * w.pos+k)).1 ⟨w,hw,by omega,by rw[show ((64 * w.pos+(k:Int)) % 64).toNat=k by omega];exact hk⟩;have:=h _ this;omega
def ofE (l:List Int):Int:=if l.all (fun n=>decide (0<=n)&&decide (n<1048576)) then 0 else 2
theorem zRd {l:List Int} {n:Int} (h:n∈l) (hn:(decide (0<=n)&&decide (n<1048576))=false):ofE l=2:=by
 unfold ofE;rw[QC fun ha=>by
  have:=QZ.1 ha n h;rw[hn]at this;cases this]
theorem zEk {l:List Int} (h:∀ n∈l,0<=n/\n<1048576):ofE l=0:=by
 unfold ofE;rw[QH (QZ.2 fun n hn=>by have:=h n hn;simp[this.1,this.2])]
theorem Upto.perm {s:List LWd} {xs ys:List Int} (u:Upto s xs) (h:∀ n,n∈xs↔n∈ys):Upto s ys:=⟨u.ok,fun n=>(u.mem n).trans (h n)⟩
theorem zNG {α:Type} (l:List α) (h:l≠[]):∃ s w,l=s++[w]:=⟨l.dropLast,l.getLast h,(List.dropLast_concat_getLast h).symm⟩
theorem zNl:Upto [] []:=⟨OkW.nil,fun n=>⟨(fun ⟨_,h,_⟩=>by cases h),(fun h=>by cases h)⟩⟩
def zNN:ACode:=(oV (oR [oB .lss 17 16 15]) (oV (oT 17 0) (oV (o5 1 (oV (oR [oI 1 18 14 16,oL 19 18,oM 7 19]) (oV (oV (oR [oM 20 7,o1 21 186 20,oW 22 21]) (oJ 22 (oV (oR [oK 2 (.slice none 0 0),oN 3 2]) .ret) .skip)) (oV (oR [oM 23 7,oC .quo 24 23 64,oM 8 24]) (oV (oV (oR [oM 25 5,oQ 26 25,oM 9 26]) (oV (oR [oM 27 9,oC .eql 28 27 0,oM 29 28,oH 29 (oM 30 5),oH 29 (oM 31 9),oH 29 (oC .sub 32 31 1),oH 29 (oI 2 33 30 32),oH 29 (oF 0 34 33),oH 29 (oL 35 34),oH 29 (oM 36 8),oH 29 (oB .neq 37 35 36),oO 38 29 37]) (oJ 38 (oR [oM 39 5,oM 40 8,⟨some 41,none,(.build [(.int .i64 0),(.int .u64 0)] [(0,1,(.tmp 40))])⟩,⟨some 42,none,(.buildSlice 1 2 [(.int .i64 0),(.int .u64 0)] [(0,2,(.tmp 41))])⟩,oY 2 43 39 42,oM 5 43]) .skip))) (o6 [oM 44 5,oM 45 5,oQ 46 45,oC .sub 47 46 1,oI 2 48 44 47,oF 1 49 48,oL 50 49,oM 51 7,oC .rem 52 51 64,(⟨some 53,none,(.bin .shl (.const (.int .u64 1)) (.tmp 52))⟩,[]),oB .or 54 50 53,oI 2 55 44 47,oF 1 56 55,oS 1 56 54])))))) (oR [oC .add 57 16 1,oM 16 57]))))
def zRe:ACode:=(oV (oR [oK 2 (.slice none 0 0),oN 3 0]) (oV (oR [oM 10 0,o1 11 55 10,oM 4 11]) (oV (oR [oM 12 4,o1 13 159 12]) (oV (oR [oK 5 (.slice none 0 0)]) (oV (oV (oR [oM 14 4,oQ 15 14,oN 16 0]) (o5 0 (.loop zNN))) (oV (oR [oM 58 5,oM 2 58,oN 3 0]) .ret))))))
theorem zPR (h:AHeap) (v:Value) (l:List Int) (s:SlI h v l) (hl:l.length<=10000) (hm:h.mark<=h.n):
  WC Tryz.prog tb 136 [v] h fun r h'=>(∃ w t,r= .tuple #[w,I (ofE l)]/\MineW h h' w t/\(ofE l=0->Upto t l)/\(ofE l≠0->t=[]))/\Ext h h':=by
 refine en 59 [(2,none),(3,none)] zRe ?_;refine WO.con (zIZ h v l s (by omega)) ?_;rintro c h1 ⟨o1,e1⟩;refine go ?_;refine WO.con (zK2 h h1 c l e1 hm o1 (by omega)) ?_;rintro _ h2 ⟨o2,e2,_⟩;have sl2:=o2.sl;have hlen:=zM6 l;have hrise:=zJv l;have hmem:∀ n,n∈ZT l↔n∈l:=fun n=>zLp;generalize ZT l=L at *;have hrise:=Hid.mk hrise;have hmem:=Hid.mk hmem;have hm2:h2.mark<=h2.n:=by have:=e2.mark;have:=e2.n;omega
 refine go ?_;refine WX.loopA [17,18,19,7,20,21,22,2,3,23,24,8,25,26,9,27,28,29,30,31,32,33,34,35,36,37,38,39,40,41,42,43,5,44,45,46,47,48,49,50,51,52,53,54,55,56,57,16] (by kernel_rfl) (fun i=>L.length - i) (fun i t h3=>∃ w out,zB t 16=I i/\i<=L.length/\Ext h2 h3/\zB t 5=w/\zFV h2.n h3 w out/\Hid (Upto out (L.take i))/\out.length<=i/\Hid (∀ j,j<i->0<=L.getD j 0/\L.getD j 0<1048576)) 0 ?_ ?_
 ·exact⟨_,[],sl_,QW _,Ext.refl _,sl_,OwnR.nil,⟨zNl⟩,QF _,⟨fun j hj=>by omega⟩⟩
 rintro i t h3 hsame ⟨w,out,s16,hi,e3,s5,ow,hU,hol,hin⟩;have sl3:SlI h3 c L:=SlI.ext sl2 e3;refine go ?_;refine WX.br (fun hb=> ?_) (fun hb=> ?_)<;>simp only[DB]at hb
 ·have hi':i<L.length:=by omega
  refine go ?_;refine WO.con (zMc h3 (L.getD i 0)) ?_;rintro _ _ ⟨rfl,rfl⟩;have hmi:L.getD i 0∈L:=by rw[QE,QB hi'];exact JE hi'
  have htk:L.take (i+1)=L.take i++[L.getD i 0]:=by rw[GI];simp[List.getD,QB hi']
  have hle:∀ x∈L.take i,x<=L.getD i 0:=fun x hx=>by
   obtain⟨j,hj,rfl⟩:=List.getElem_of_mem hx;rw[Q1]at hj;rw[List.getElem_take,QE,QB hi'];exact List.pairwise_iff_getElem.1 hrise.out j i (by omega) hi' (by omega)
  have hup:=zSy hU.out hle;by_cases hw:(decide (0<=L.getD i 0)&&decide (L.getD i 0<1048576))=false
  ·rw[hw];have hE:=zRd ((hmem.out _).1 hmi) hw;refine gr ?_;rw[hE];exact⟨⟨_,[],rfl,MineW.nil,(fun h=>by cases h),fun _=>rfl⟩,e2.trans e3⟩
  have hw:(decide (0<=L.getD i 0)&&decide (L.getD i 0<1048576))=true:=by simpa using hw
  have hn:0<=L.getD i 0/\L.getD i 0<1048576:=by simpa using hw
  rw[hw];generalize hnn:L.getD i 0=n at *;have htk:=Hid.mk htk;have hin2:Hid (∀ j,j<i+1->0<=L.getD j 0/\L.getD j 0<1048576):=⟨fun j hj=>by
   by_cases e:j=i
   ·subst e;rw[hnn];exact hn
   ·exact hin.out j (by omega)⟩
  clear hle hmi hw;have hup:=Hid.mk hup;refine go ?_;refine WO.bin zU rfl (zVp hn.1 (by omega)) ?_;have owl:=OwnR.sl ow;have hm3:h3.mark<=h2.n:=by rw[e3.mark];exact hm2
  by_cases h0:out.length=0
  ·have ho:out=[]:=Gq h0;subst ho;refine go ?_;refine WO.apRw (b:=h2.n) (R:=RW) (hB:=h2) ⟨n / 64,0⟩ (fun _=>False) ow e3 (QF _) e3.n (by decide) (by omega) (RW.dep (show (0:Nat)<18446744073709551616 by decide) (by simp only;omega) (by simp only;omega) _) (fun k hk=>hk.elim) (fun _ _ _ _ h=>h) ?_;intro w5 h5 lit e5 ow5 n5 keep5 wr5;obtain⟨va,vn,vk,rfl,_⟩:=YW ow5;obtain⟨O5,sI,lw,hO,hsI,hlw⟩:∃ (O5 sI:List LWd) (lw:LWd),O5=sI++[lw]/\sI=[]/\lw=⟨n / 64,0⟩:=⟨_,_,_,rfl,rfl,rfl⟩;have ow5:zFV h2.n h5 (.slice va vn vk) O5:=by rw[hO,hsI,hlw];exact ow5
   have hsl:sI.length=0:=by rw[hsI];rfl
   have hsl:sI.length<=i:=by omega
   have hO5:O5.length=sI.length+1:=by rw[hO];simp
   have hlO:O5.length<=20000:=by omega
   refine go ?_;refine WX.regionU2 0 rfl rfl ?_;have owX:zFV h2.n (zC 0 h5) (.slice va vn vk) O5:=OwnR.upd ow5 (fun _ _ _=>rfl) (QF _);have slX:SlW (inC (zC 0 h5)) (.slice va vn vk) O5:=OwnR.sl owX;obtain⟨cs,⟨rfl,y1,y2,y3⟩,pc,hs⟩:=zDZ (i:=((O5.length:Int) - 1).toNat) slX (by omega);have hgl:O5.getD ((O5.length:Int) - 1).toNat default=lw:=by
    rw[show ((O5.length:Int) - 1).toNat=sI.length by omega,hO];simp[List.getD]
   rw[hgl]at y1 y2 y3 pc;have hsh:zh .shl (W 1) (I (n % 64))=some (W (2 ^ (n % 64).toNat)):=by
    rw[show I (n % 64)=I (((n % 64).toNat:Nat):Int) by congr 1;omega];exact(zC0 (by omega)).1
   have hp2:2 ^ (n % 64).toNat<18446744073709551616:=(zC0 (k:=(n % 64).toNat) (by omega)).2;have hor:=zNy y1 hp2;generalize hk2:2 ^ (n % 64).toNat=k2 at hsh hp2 hor;refine goU ?_;refine WO.bin zU rfl (zNg hn.1) ?_;refine nQ ?_;refine goU ?_;refine WO.bin rfl zU hsh ?_;refine nQ ?_;refine goU ?_;refine WO.bin zU zU hor.1 ?_;refine nQ ?_;refine goU ?_;refine WU2.stR (i:=((O5.length:Int) - 1).toNat) (off:=1) (cs:=[W (lw.bits|||k2)]) (ho:=by simp) ⟨lw.pos,lw.bits|||k2⟩ owX e5 (by rw[e5.mark];exact hm2) rfl (QF _) (by omega) (fun old hx hr ho=>by
    rw[hgl]at hr;obtain⟨rfl,r1,r2,r3⟩:=hr;exact⟨rfl,hor.2,r2,r3⟩) ?_
   intro h6 e6 ow6 n6 f6;have hset:O5.set ((O5.length:Int) - 1).toNat ⟨lw.pos,lw.bits|||k2⟩=sI++[⟨lw.pos,lw.bits|||k2⟩]:=by
    rw[show ((O5.length:Int) - 1).toNat=sI.length by omega,hO,List.set_append_right _ _ (QF _),Nat.sub_self];rfl
   rw[hset]at ow6;refine go ?_;refine zA (i+1) (by omega) ⟨_,_,sln,by omega,e6,sl_,ow6,⟨?_⟩,by simp only[QY,Qa];omega,hin2⟩;rw[htk.out,<-hk2];subst hlw hsI;have:=hU.out.new hn (fun w hw=>by cases hw);rw[Nat.zero_or];exact this
  ·obtain⟨sI,lw,hO⟩:=zNG out (fun e=>h0 (by rw[e];rfl));have hO5:out.length=sI.length+1:=by rw[hO];simp
   obtain⟨cs,⟨rfl,y1,y2,y3⟩,pc,hs⟩:=zDZ (i:=((out.length:Int) - 1).toNat) owl (by omega);have hgl:out.getD ((out.length:Int) - 1).toNat default=lw:=by
    rw[show ((out.length:Int) - 1).toNat=sI.length by omega,hO];simp[List.getD]
   rw[hgl]at y1 y2 y3 pc;by_cases hat:lw.pos=n / 64
   ·refine go ?_;clear pc y1 y2 y3 hs hgl hO5;obtain⟨O5,hOO⟩:∃ O5,O5=out:=⟨_,rfl⟩;rw[<-hOO]at ow hO hol;have hsl:sI.length<=i:=by rw[hO,QY,Qa]at hol;omega
    have hO5:O5.length=sI.length+1:=by rw[hO];simp
    have hlO:O5.length<=20000:=by omega
    refine go ?_;refine WX.regionU2 0 rfl rfl ?_;have owX:zFV h2.n (zC 0 h3) w O5:=OwnR.upd ow (fun _ _ _=>rfl) (QF _);have slX:SlW (inC (zC 0 h3)) w O5:=OwnR.sl owX;obtain⟨cs,⟨rfl,y1,y2,y3⟩,pc,hs⟩:=zDZ (i:=((O5.length:Int) - 1).toNat) slX (by omega);have hgl:O5.getD ((O5.length:Int) - 1).toNat default=lw:=by
     rw[show ((O5.length:Int) - 1).toNat=sI.length by omega,hO];simp[List.getD]
    rw[hgl]at y1 y2 y3 pc;have hsh:zh .shl (W 1) (I (n % 64))=some (W (2 ^ (n % 64).toNat)):=by
     rw[show I (n % 64)=I (((n % 64).toNat:Nat):Int) by congr 1;omega];exact(zC0 (by omega)).1
    have hp2:2 ^ (n % 64).toNat<18446744073709551616:=(zC0 (k:=(n % 64).toNat) (by omega)).2;have hor:=zNy y1 hp2;generalize hk2:2 ^ (n % 64).toNat=k2 at hsh hp2 hor;refine goU ?_;refine WO.bin zU rfl (zNg hn.1) ?_;refine nQ ?_;refine goU ?_;refine WO.bin rfl zU hsh ?_;refine nQ ?_;refine goU ?_;refine WO.bin zU zU hor.1 ?_;refine nQ ?_;refine goU ?_;refine WU2.stR (i:=((O5.length:Int) - 1).toNat) (off:=1) (cs:=[W (lw.bits|||k2)]) (ho:=by simp) ⟨lw.pos,lw.bits|||k2⟩ owX e3 (by rw[e3.mark];exact hm2) rfl (QF _) (by omega) (fun old hx hr ho=>by
     rw[hgl]at hr;obtain⟨rfl,r1,r2,r3⟩:=hr;exact⟨rfl,hor.2,r2,r3⟩) ?_
    intro h6 e6 ow6 n6 f6;have hset:O5.set ((O5.length:Int) - 1).toNat ⟨lw.pos,lw.bits|||k2⟩=sI++[⟨lw.pos,lw.bits|||k2⟩]:=by
     rw[show ((O5.length:Int) - 1).toNat=sI.length by omega,hO,List.set_append_right _ _ (QF _),Nat.sub_self];rfl
    rw[hset]at ow6;refine go ?_;refine zA (i+1) (by omega) ⟨_,_,sln,by omega,e6,sl_,ow6,⟨?_⟩,by simp only[QY,Qa];omega,hin2⟩;rw[htk.out,<-hk2];subst hOO;rw[hO]at hU;exact hU.out.old hn hat
   ·refine go ?_;refine WO.apRw (b:=h2.n) (R:=RW) (hB:=h2) ⟨n / 64,0⟩ (fun _=>False) ow e3 (QF _) e3.n (by decide) (by omega) (RW.dep (show (0:Nat)<18446744073709551616 by decide) (by simp only;omega) (by simp only;omega) _) (fun k hk=>hk.elim) (fun _ _ _ _ h=>h) ?_;intro w5 h5 lit e5 ow5 n5 keep5 wr5;obtain⟨va,vn,vk,rfl,_⟩:=YW ow5;clear pc y1 y2 y3 hs hgl hO5;have hfar:∀ x∈out,x.pos<n / 64:=fun x hx=>by
     have hle:=hup.out x hx;rcases Qf.1 (hO▸hx:x∈sI++[lw])with h|h
     ·have h1:=(List.pairwise_append.1 (hO▸hU.out.ok.rise:(sI++[lw]).Pairwise _)).2.2 x h lw (by simp);have h2:=hup.out lw (by rw[hO];simp);omega
     ·rw[QS]at h;subst h;omega
    have hfar:=Hid.mk hfar;clear hO;obtain⟨O5,sI2,lw2,hO,hsI,hlw⟩:∃ (O5 sI:List LWd) (lw:LWd),O5=sI++[lw]/\sI=out/\lw=⟨n / 64,0⟩:=⟨_,_,_,rfl,rfl,rfl⟩;have ow5:zFV h2.n h5 (.slice va vn vk) O5:=by rw[hO,hsI,hlw];exact ow5
    have hsl:sI2.length=out.length:=by rw[hsI]
    have hsl:sI2.length<=i:=by omega
    have hO5:O5.length=sI2.length+1:=by rw[hO];simp
    have hlO:O5.length<=20000:=by omega
    refine go ?_;refine WX.regionU2 0 rfl rfl ?_;have owX:zFV h2.n (zC 0 h5) (.slice va vn vk) O5:=OwnR.upd ow5 (fun _ _ _=>rfl) (QF _);have slX:SlW (inC (zC 0 h5)) (.slice va vn vk) O5:=OwnR.sl owX;obtain⟨cs,⟨rfl,y1,y2,y3⟩,pc,hs⟩:=zDZ (i:=((O5.length:Int) - 1).toNat) slX (by omega);have hgl:O5.getD ((O5.length:Int) - 1).toNat default=lw2:=by
     rw[show ((O5.length:Int) - 1).toNat=sI2.length by omega,hO];simp[List.getD]
    rw[hgl]at y1 y2 y3 pc;have hsh:zh .shl (W 1) (I (n % 64))=some (W (2 ^ (n % 64).toNat)):=by
     rw[show I (n % 64)=I (((n % 64).toNat:Nat):Int) by congr 1;omega];exact(zC0 (by omega)).1
    have hp2:2 ^ (n % 64).toNat<18446744073709551616:=(zC0 (k:=(n % 64).toNat) (by omega)).2;have hor:=zNy y1 hp2;generalize hk2:2 ^ (n % 64).toNat=k2 at hsh hp2 hor;refine goU ?_;refine WO.bin zU rfl (zNg hn.1) ?_;refine nQ ?_;refine goU ?_;refine WO.bin rfl zU hsh ?_;refine nQ ?_;refine goU ?_;refine WO.bin zU zU hor.1 ?_;refine nQ ?_;refine goU ?_;refine WU2.stR (i:=((O5.length:Int) - 1).toNat) (off:=1) (cs:=[W (lw2.bits|||k2)]) (ho:=by simp) ⟨lw2.pos,lw2.bits|||k2⟩ owX e5 (by rw[e5.mark];exact hm2) rfl (QF _) (by omega) (fun old hx hr ho=>by
     rw[hgl]at hr;obtain⟨rfl,r1,r2,r3⟩:=hr;exact⟨rfl,hor.2,r2,r3⟩) ?_
    intro h6 e6 ow6 n6 f6;have hset:O5.set ((O5.length:Int) - 1).toNat ⟨lw2.pos,lw2.bits|||k2⟩=sI2++[⟨lw2.pos,lw2.bits|||k2⟩]:=by
     rw[show ((O5.length:Int) - 1).toNat=sI2.length by omega,hO,List.set_append_right _ _ (QF _),Nat.sub_self];rfl
    rw[hset]at ow6;refine go ?_;refine zA (i+1) (by omega) ⟨_,_,sln,by omega,e6,sl_,ow6,⟨?_⟩,by simp only[QY,Qa];omega,hin2⟩;rw[htk.out,<-hk2];subst hlw hsI;have:=hU.out.new hn hfar.out;rw[Nat.zero_or];exact this
 ·refine gr ?_;have hiL:i=L.length:=by omega
  subst hiL;rw[GN]at hU;have hE:ofE l=0:=zEk fun n hn=>by
   obtain⟨j,hj,e⟩:=List.getElem_of_mem ((hmem.out n).2 hn);have:=hin.out j hj;rwa [QE,QB hj,Q9,e]at this
  rw[hE];subst s5;exact⟨⟨_,out,rfl,⟨h2.n,e2.n,ow⟩,fun _=>hU.out.perm hmem.out,fun h=>absurd rfl h⟩,e2.trans e3⟩
theorem ZU (f:Nat->Nat->Nat):∀ A B:List LWd,(zq f A B).length<=A.length+B.length
 |[],[]=>by rw[zq];exact QF _
 |x::a,[]=>by
  have:=ZU f a [];rw[zq];unfold zAt;split<;>simp only[Q2,Gg]at * <;>omega
 |[],y::b=>by
  have:=ZU f [] b;rw[zq];unfold zAt;split<;>simp only[Q2,Gg]at * <;>omega
 |x::a,y::b=>by
  rw[zq];have h1:=ZU f a (y::b);have h2:=ZU f (x::a) b;have h3:=ZU f a b;unfold zAt;split
  ·split<;>simp only[Q2]at * <;>omega
  ·split
   ·split<;>simp only[Q2]at * <;>omega
   ·split<;>simp only[Q2]at * <;>omega
 termination_by A B=>A.length+B.length
theorem zAS {s:List LWd} (h:OkW s):yJ (-1) s=true:=(zK3 h.bd).2 h
abbrev orL (A B:List LWd):=zq (fun a b=>a|||b) A B
abbrev zVf (A B:List LWd):=zq zC3 A B
theorem zTG {A B:List LWd} (ha:OkW A) (hb:OkW B):OkW (orL A B)/\∀ n,inB (orL A B) n=(inB A n||inB B n):=let ⟨a,b,_⟩:=YM bit_or ha hb;⟨a,b⟩
theorem zTO {A B:List LWd} (ha:OkW A) (hb:OkW B):OkW (zVf A B)/\∀ n,inB (zVf A B) n=(inB A n&& !inB B n):=let ⟨a,b,_⟩:=YM bit_not ha hb;⟨a,b⟩
theorem zEl {A B:List LWd} (ha:OkW A) (hb:OkW B):zDY A B=0:=by unfold zDY;rw[zAS ha,zAS hb];rfl
theorem zFK {f:Nat->Nat->Nat} {A B:List LWd} (ha:OkW A) (hb:OkW B):zGC f A B=zq f A B:=by unfold zGC;rw[zAS ha,zAS hb];rfl
section
variable {P:Program} {tab:Tab} {t:Trie Value} {h:AHeap} {ds:List Deferred} {rd:Option Nat} {l:List AOper} {Q:AFr->AHeap->Prop}
end
def Zx (x:LIns):List Int:=if x.op=22 then [] else yj x
def zGO (E:Int->Prop):List LIns->Int->Int->Prop
 |[],_,r=>E r
 |x::l,k,r=>r∈Zx x\/(r≠k/\zGO E l (k+1) r)
def Ya (par:Int) (L:List LBlk) (b:Int):Int:=par+zg (L.take b.toNat)
def ZH (par:Int) (L:List LBlk) (b:Int) (k:Nat) (E:Int->Prop) (r:Int):Prop:=
 zGO (fun r=>r∈yW (L.getD b.toNat default).fin\/E r) ((L.getD b.toNat default).ins.drop k) (Ya par L b+k) r
def Y0:List Int->List Int->Int->List Int
 |f::fs,a::gs,b=>if f=b then a::Y0 fs gs b else Y0 fs gs b
 |_,_,_=>[]
def zAv (B:LBlk) (from':Int):List Int:=B.ins.flatMap fun x=>if x.op=22 then Y0 x.frm x.args from' else []
def zAU (L:List LBlk) (B:Int->Int->Prop) (b r:Int):Prop:=∃ k∈nxL L b,B k r\/r∈zAv (L.getD k.toNat default) b
theorem zEV {E E':Int->Prop} (h:∀ r,E r->E' r):∀ (l:List LIns) (k r:Int),zGO E l k r->zGO E' l k r
 |[],_,r,q=>h r q
 |x::l,k,r,q=>q.imp id fun ⟨a,b⟩=>⟨a,zEV h l (k+1) r b⟩
theorem yg {par:Int} {L:List LBlk} {b:Int} {k:Nat} {E E':Int->Prop} (h:∀ r,E r->E' r) {r:Int} (q:ZH par L b k E r):ZH par L b k E' r:=
 zEV (fun r q=>q.imp id (h r)) _ _ _ q
theorem Ym {L:List LBlk} {B B':Int->Int->Prop} {b r:Int} (h:∀ k∈nxL L b,∀ r,B k r->B' k r) (q:zAU L B b r):zAU L B' b r:=
 let ⟨k,hk,q⟩:=q;⟨k,hk,q.imp (h k hk r) id⟩
structure Clo (par:Int) (L:List LBlk) (B E:Int->Int->Prop):Prop where
 e:∀ b r,0<=b->b<(L.length:Int)->zAU L B b r->E b r
 b:∀ b r,0<=b->b<(L.length:Int)->ZH par L b 0 (E b) r->B b r
structure LFix (par:Int) (L:List LBlk) (B E:Int->Int->Prop):Prop where
 e:∀ b r,0<=b->b<(L.length:Int)->(E b r↔zAU L B b r)
 b:∀ b r,0<=b->b<(L.length:Int)->(B b r↔ZH par L b 0 (E b) r)
 least:∀ B' E',Clo par L B' E'->∀ b r,0<=b->b<(L.length:Int)->(B b r->B' b r)/\(E b r->E' b r)
theorem LFix.clo {par L B E} (h:LFix par L B E):Clo par L B E:=⟨fun b r h1 h2 q=>(h.e b r h1 h2).2 q,fun b r h1 h2 q=>(h.b b r h1 h2).2 q⟩
theorem zDA {par:Int} {L:List LBlk} {b:Int} {E:Int->Prop} {r:Int} {k:Nat} (hk:(L.getD b.toNat default).ins.length<=k):ZH par L b k E r↔r∈yW (L.getD b.toNat default).fin\/E r:=by
 unfold ZH;rw[G8 hk];exact Iff.rfl
theorem zPh {l:List LIns} {i:Nat} (h:i<l.length):l.drop i=l.getD i default::l.drop (i+1):=by
 rw[Qt h,QE,QB h];rfl
theorem zBy {par:Int} {L:List LBlk} {b:Int} {E:Int->Prop} {r:Int} {k:Nat} (hk:k<(L.getD b.toNat default).ins.length):
  ZH par L b k E r↔r∈Zx ((L.getD b.toNat default).ins.getD k default)\/(r≠Ya par L b+k/\ZH par L b (k+1) E r):=by
 unfold ZH;rw[zPh hk,zGO];rw[show Ya par L b+(k:Int)+1=Ya par L b+((k+1:Nat):Int) by omega]
abbrev Z6:=List (List LWd)
def inS (s:Z6) (b r:Int):Prop:=InW (s.getD b.toNat []) r
structure WInv (par:Int) (L:List LBlk) (N:Int) (bg ed:Z6) (K:Int->Prop):Prop where
 lb:bg.length=L.length
 le:ed.length=L.length
 okb:∀ s∈bg,OkW s/\∀ r,InW s r->r<N
 oke:∀ s∈ed,OkW s/\∀ r,InW s r->r<N
 low:∀ b r,0<=b->b<(L.length:Int)->inS ed b r->zAU L (inS bg) b r
 sub:∀ b r,0<=b->b<(L.length:Int)->inS bg b r->ZH par L b 0 (inS ed b) r
 done:∀ b,0<=b->b<(L.length:Int)->¬K b->(∀ r,zAU L (inS bg) b r->inS ed b r)/\∀ r,ZH par L b 0 (inS ed b) r->inS bg b r
 least:∀ B' E',Clo par L B' E'->∀ b r,0<=b->b<(L.length:Int)->(inS bg b r->B' b r)/\(inS ed b r->E' b r)
theorem ZM {s:Z6} {b c r:Int} {x:List LWd} (hb:0<=b) (hb2:b<(s.length:Int)) (hc:0<=c):inS (s.set b.toNat x) c r↔if c=b then InW x r else inS s c r:=by
 unfold inS;by_cases e:c=b
 ·subst e;rw[QH rfl,QE,JM (by omega)];rfl
 ·rw[QC e,QE,List.getElem?_set_ne (by omega),<-QE]
theorem zQI {s:Z6} {i:Nat} {x:List LWd} {P:List LWd->Prop} (h:∀ y∈s,P y) (hx:P x):∀ y∈s.set i x,P y:=fun y hy=>by
 rcases List.mem_or_eq_of_mem_set hy with h1|h1
 ·exact h y h1
 ·rw[h1];exact hx
theorem WInv.look {par:Int} {L:List LBlk} {N:Int} {bg ed:Z6} {K K':Int->Prop} {b:Int} {s1 s:List LWd} (I:WInv par L N bg ed K) (hb:0<=b) (hb2:b<(L.length:Int)) (hn:∀ c,0<=c->c<(L.length:Int)->∀ k∈nxL L c,0<=k/\k<(L.length:Int))
  (h1:OkW s1/\∀ r,InW s1 r->r<N) (h2:OkW s/\∀ r,InW s r->r<N) (m1:∀ r,InW s1 r↔inS ed b r\/zAU L (inS bg) b r) (m2:∀ r,InW s r↔ZH par L b 0 (InW s1) r)
  (hK:∀ c,0<=c->c<(L.length:Int)->¬K' c->(c=b\/¬K c)/\(s=bg.getD b.toNat []\/b∉nxL L c)):WInv par L N (bg.set b.toNat s) (ed.set b.toNat s1) K':=by
 have hbl:b<(bg.length:Int):=by rw[I.lb];exact hb2
 have hel:b<(ed.length:Int):=by rw[I.le];exact hb2
 have gb:∀ c r,0<=c->c<(L.length:Int)->inS bg c r->inS (bg.set b.toNat s) c r:=fun c r hc hc2 q=>by
  rw[ZM hb hbl hc];by_cases e:c=b
  ·subst e;rw[QH rfl,m2];exact yg (fun r q=>(m1 r).2 (.inl q)) (I.sub c r hc hc2 q)
  ·rw[QC e];exact q
 have ge:∀ r,zAU L (inS bg) b r->zAU L (inS (bg.set b.toNat s)) b r:=fun r q=>Ym (fun k hk r q=>gb k r (hn b hb hb2 k hk).1 (hn b hb hb2 k hk).2 q) q;have same:∀ c,0<=c->c<(L.length:Int)->(s=bg.getD b.toNat []\/b∉nxL L c)->∀ r,zAU L (inS (bg.set b.toNat s)) c r->zAU L (inS bg) c r:=fun c hc hc2 hs r q=>
  Ym (fun k hk r q=>by
   rw[ZM hb hbl (hn c hc hc2 k hk).1]at q;by_cases e:k=b
   ·subst e;rw[QH rfl]at q;rcases hs with hs|hs
    ·rw[hs]at q;exact q
    ·exact absurd hk hs
   ·rw[QC e]at q;exact q) q
 refine⟨by rw[GJ];exact I.lb,by rw[GJ];exact I.le,zQI I.okb h2,zQI I.oke h1,fun c r hc hc2 q=> ?_,fun c r hc hc2 q=> ?_,fun c hc hc2 hk=> ?_,fun B' E' hcl c r hc hc2=> ?_⟩
 ·rw[ZM hb hel hc]at q;by_cases e:c=b
  ·subst e;rw[QH rfl,m1]at q;exact ge r (q.elim (I.low c r hc hc2) id)
  ·rw[QC e]at q;exact Ym (fun k hk r q=>gb k r (hn c hc hc2 k hk).1 (hn c hc hc2 k hk).2 q) (I.low c r hc hc2 q)
 ·rw[ZM hb hbl hc]at q;by_cases e:c=b
  ·subst e;rw[QH rfl,m2]at q;exact yg (fun r q=>by rw[ZM hb hel hc,QH rfl];exact q) q
  ·rw[QC e]at q;exact yg (fun r q=>by rw[ZM hb hel hc,QC e];exact q) (I.sub c r hc hc2 q)
 ·obtain⟨k1,k2⟩:=hK c hc hc2 hk;by_cases e:c=b
  ·subst e;refine⟨fun r q=> ?_,fun r q=> ?_⟩
   ·rw[ZM hb hel hc,QH rfl,m1];exact .inr (same c hc hc2 k2 r q)
   ·rw[ZM hb hbl hc,QH rfl,m2];exact yg (fun r q=>by rw[ZM hb hel hc,QH rfl]at q;exact q) q
  ·obtain⟨d1,d2⟩:=I.done c hc hc2 (k1.resolve_left e);refine⟨fun r q=> ?_,fun r q=> ?_⟩
   ·rw[ZM hb hel hc,QC e];exact d1 r (same c hc hc2 k2 r q)
   ·rw[ZM hb hbl hc,QC e];exact d2 r (yg (fun r q=>by rw[ZM hb hel hc,QC e]at q;exact q) q)
 ·have he:∀ r,InW s1 r->E' b r:=fun r q=>((m1 r).1 q).elim (fun q=>(I.least B' E' hcl b r hb hb2).2 q) fun q=>hcl.e b r hb hb2 (Ym (fun k hk r q=>(I.least B' E' hcl k r (hn b hb hb2 k hk).1 (hn b hb hb2 k hk).2).1 q) q);constructor
  ·intro q;rw[ZM hb hbl hc]at q;by_cases e:c=b
   ·subst e;rw[QH rfl,m2]at q;exact hcl.b c r hc hc2 (yg he q)
   ·rw[QC e]at q;exact(I.least B' E' hcl c r hc hc2).1 q
  ·intro q;rw[ZM hb hel hc]at q;by_cases e:c=b
   ·subst e;rw[QH rfl]at q;exact he r q
   ·rw[QC e]at q;exact(I.least B' E' hcl c r hc hc2).2 q
theorem WInv.fix {par:Int} {L:List LBlk} {N:Int} {bg ed:Z6} {K:Int->Prop} (I:WInv par L N bg ed K) (hK:∀ b,0<=b->b<(L.length:Int)->¬K b):LFix par L (inS bg) (inS ed):=
 ⟨fun b r h1 h2=>⟨I.low b r h1 h2,(I.done b h1 h2 (hK b h1 h2)).1 r⟩,fun b r h1 h2=>⟨I.sub b r h1 h2,(I.done b h1 h2 (hK b h1 h2)).2 r⟩,I.least⟩
theorem zD0 {n:Nat} {b r:Int}:¬inS (List.replicate n []) b r:=by
 unfold inS;rintro⟨w,hw,_⟩;rw[QE,Gu]at hw;split at hw<;>cases hw
theorem WInv.start (par:Int) (L:List LBlk) (N:Int) {K:Int->Prop} (hK:∀ b,0<=b->b<(L.length:Int)->K b):WInv par L N (List.replicate L.length []) (List.replicate L.length []) K:=by
 have hr:∀ s∈(List.replicate L.length ([]:List LWd)),OkW s/\∀ r,InW s r->r<N:=fun s hs=>by
  rw[List.eq_of_mem_replicate hs];exact⟨OkW.nil,fun r ⟨_,h,_⟩=>by cases h⟩
 exact⟨by simp,by simp,hr,hr,fun b r _ _ q=>absurd q zD0,fun b r _ _ q=>absurd q zD0,fun b h1 h2 hk=>absurd (hK b h1 h2) hk,fun _ _ _ b r _ _=>⟨fun q=>absurd q zD0,fun q=>absurd q zD0⟩⟩
def YX (bg:Z6):Nat:=(bg.map fun s=>(zx s).length).sum
theorem zLA {s:List LWd} {N:Nat} (h:OkW s) (hr:∀ r,InW s r->r<(N:Int)):(zx s).length<=N:=by
 have hd:(zx s).Nodup:=(zAd h).imp fun h=>by omega
 have:=List.Nodup.length_le_of_subset hd (l₂:=(List.range N).map fun (i:Nat)=>(i:Int)) fun x hx=>by
  have h1:=(YK h).1 hx;have h2:=h1.range h;have h3:=hr x h1;exact Q0.2 ⟨x.toNat,GF.2 (by omega),by omega⟩
 simpa using this
theorem zH4 {N:Nat}:∀ {bg:Z6},(∀ s∈bg,OkW s/\∀ r,InW s r->r<(N:Int))->YX bg<=bg.length * N
 |[],_=>QW _
 |s::bg,h=>by
  have h1:=h s (QT ..);have h2:=zLA h1.1 h1.2;have h3:=zH4 (bg:=bg) fun t ht=>h t (Qc _ ht);unfold YX at *;rw[Qh,List.sum_cons,Q2,Gi];omega
theorem zGP:∀ {bg:Z6} {i:Nat} {s:List LWd},i<bg.length->YX (bg.set i s)+(zx (bg.getD i [])).length=YX bg+(zx s).length
 |[],i,s,h=>absurd h (GH _)
 |t::bg,0,s,_=>by unfold YX;simp[List.getD];omega
 |t::bg,i+1,s,h=>by
  have:=zGP (bg:=bg) (i:=i) (s:=s) (by simpa using h);unfold YX at *;simp only[List.set_cons_succ,Qh,List.sum_cons,List.getD_cons_succ]at *;omega
theorem zLw {s t:List LWd} (hs:OkW s) (ht:OkW t) (h:∀ r,InW s r->InW t r) (hne:t≠s):(zx s).length<(zx t).length:=by
 have hd:(zx s).Nodup:=(zAd hs).imp fun h=>by omega
 have hdt:(zx t).Nodup:=(zAd ht).imp fun h=>by omega
 have hex:∃ r,InW t r/\¬InW s r:=by
  by_cases q:∃ r,InW t r/\¬InW s r
  ·exact q
  ·exact absurd (zKw ht hs fun r=>⟨fun a=>JH fun b=>q ⟨r,a,b⟩,h r⟩) hne
 obtain⟨r,r1,r2⟩:=hex;have hc:(r::zx s).Nodup:=G9.2 ⟨fun q=>r2 ((YK hs).1 q),hd⟩;have:=List.Nodup.length_le_of_subset hc (l₂:=zx t) fun x hx=>by
  rcases Qi.1 hx with rfl|hx
  ·exact(YK ht).2 r1
  ·exact(YK ht).2 (h x ((YK hs).1 hx))
 rw[Q2]at this;omega
set_option maxRecDepth 100000
structure EnvL (h:AHeap) (vt vf:Value) (T:List LType) (F:List LFn):Prop where
 tt:Tbl h
 hm:h.mark<=h.n
 sm:Small T F
 st:SlT h vt T
 sf:SlF h vf F
theorem EnvL.ext {h h':AHeap} {vt vf:Value} {T:List LType} {F:List LFn} (E:EnvL h vt vf T F) (e:Ext h h'):EnvL h' vt vf T F:=
 ⟨E.tt.ext e,yC e E.hm,E.sm,E.st.ext e,SlF.ext E.sf e⟩
theorem zL0 {α:Type} {c i:Nat} {R:AHeap->List Value->α->Prop} {h:AHeap} {v:Value} {l:List α} (s:SlR c R h v l) (hl:0<l.length) (hi:i<=l.length):∃ r,ZL c v none (some i) none=some r/\SlR c R h r (l.take i):=by
 obtain⟨cells,⟨h1,⟨h2,_⟩|⟨g,off,row,rfl,h3,h4,h5⟩⟩,hR⟩:=s
 ·omega
 have hmul:i * c<=l.length * c:=Qz _ hi;have hlen:(l.take i).length=i:=by rw[Q1];omega
 refine⟨.slice (some ⟨g,off+0 * c,none⟩) (i - 0) c,?_,cells.take (i * c),⟨by rw[Q1,hlen];omega,.inr ⟨g,off,row,by rw[hlen];simp,h3,?_,h5⟩⟩,fun j a ha=> ?_⟩
 ·have b1:Nat.ble 0 i=true:=QI (QW _);have b2:Nat.ble i l.length=true:=QI hi;simp only[ZL,Gn,Q9,b1,b2,Qs,Qw,cond_true,Gd]
 ·rw[hlen];obtain⟨c1,c2⟩:=zDG h4;rw[yq (by omega),c2,List.take_take,Gk hmul]
 ·have hj:j<i:=by have:=(QO.1 ha).1;omega
  have hja:l[j]?=some a:=by rw[GE,QH hj]at ha;exact ha
  have:=hR j a hja;have h6:j * c+c<=i * c:=by rw[<-Gi];exact Qz _ hj
  rw[List.drop_take,List.take_take,Gk (by omega)];exact this
def zT8:ACode:=(oV (oR [oX 4 0,oN 8 0,oN 9 0]) (oV (oR [oA 2 14 4,oM 15 1,o2 16 38 14 15,oM 13 16,oE 17 13 0,oE 18 13 1,oM 10 17,oM 11 18]) (oV (oV (oR [oM 19 11,oC .neq 20 19 0]) (oJ 20 (oV (oR [oM 21 11,oN 8 0,oM 9 21]) .ret) .skip)) (oV (oR [oF 1 22 4,oL 23 22,oM 24 1,oI 2 25 23 24,oF 1 26 25,oL 27 26,oM 12 27]) (oV (oV (oR [oM 28 2,oM 29 12,oQ 30 29,o2 31 39 28 30,oW 32 31,oM 33 32,oH 33 (oM 34 3),oH 33 (oM 35 12),oH 33 (oM 36 2),oH 33 (oI 5 37 35 36),oH 33 (oF 0 38 37),oH 33 (oL 39 38),oH 33 (oQ 40 39),oH 33 (o2 41 39 34 40),oH 33 (oW 42 41),oO 43 33 42]) (oJ 43 (oV (oR [oN 8 0,oN 9 2]) .ret) .skip)) (oV (oR [oM 44 10,oM 45 12,oM 46 2,⟨some 47,none,(.slice 5 (.tmp 45) none (some (.tmp 46)) none)⟩,⟨some 48,none,(.build [(.int .i64 0),(.slice none 0 0)] [(1,1,(.tmp 47))])⟩,o1 49 40 48,oB .add 50 44 49,oM 51 3,oB .add 52 50 51,oM 8 52,oN 9 0]) .ret))))))
theorem zSY (h:AHeap) (vt vf:Value) (T:List LType) (F:List LFn) (f:Int) (L:List LBlk) (par:Int) (E:EnvL h vt vf T F) (O:FnOk T F f L par) (b k:Int) (hb:0<=b/\b<(L.length:Int)) (hk:0<=k/\k<((L.getD b.toNat default).ins.length:Int)):
  WC Tryz.prog tb 87 [.agg #[vt,vf],I f,I b,I k] h fun r h'=>r= .tuple #[I (Ya par L b+k),I 0]/\Ext h h':=by
 have hF:=E.sm.funcs;obtain⟨f0,f1,hp,hask,rfl,p0,p1,hlen,hmany,hins,hfn⟩:=O;have hB:=E.sm.blocks _ (zI (l:=F) (i:=f.toNat) (by omega));have hI:=E.sm.ins _ (zI (l:=F) (i:=f.toNat) (by omega));refine en 53 [(8,none),(9,none)] zT8 ?_;refine WO.bx ?_;intro p h1 e1 o1;have E1:=E.ext e1;refine go ?_;refine WO.con (zFN h1 vt vf T F f E1.tt E1.hm E1.sm E1.st E1.sf) ?_;rintro _ h2 ⟨rfl,e2⟩;rw[hask];have o2:=o1.ext e2;have E2:=E1.ext e2;have sf2:=E2.sf;obtain⟨ta,tn,tk,rfl⟩:=zJ E.st;obtain⟨ga,gn,gk,rfl⟩:=zJ E.sf;obtain⟨cs,⟨vb,rfl,sb,hlb⟩,pc,hs⟩:=yP (i:=f.toNat) sf2 (by omega);obtain⟨ba,bn,bk,rfl⟩:=zJ sb;generalize (F.getD f.toNat default).blocks=L at *;obtain⟨csB,⟨vi,rfl,si,hli⟩,pcB,hsB⟩:=yP (i:=b.toNat) sb (by omega);obtain⟨ia,iN,ik,rfl⟩:=zJ si;obtain⟨vs,hvs,sbs⟩:=zL0 (i:=b.toNat) sb (by omega) (by omega);refine go ?_;refine WO.con (yh h2 b L.length) ?_;rintro _ _ ⟨rfl,rfl⟩;rw[show zQ b L.length=true by unfold zQ;rw[QX hb.1,QX hb.2];rfl];refine go ?_;refine WO.con (yh h2 k (L.getD b.toNat default).ins.length) ?_;rintro _ _ ⟨rfl,rfl⟩;rw[show zQ k (L.getD b.toNat default).ins.length=true by unfold zQ;rw[QX hk.1,QX hk.2];rfl];refine go ?_;have hbt:(b.toNat:Int)=b:=by omega
 refine WO.slHi (i:=b.toNat) (hy:=by rw[hbt];exact zU) hvs ?_;have hlt:(L.take b.toNat).length<=1000:=by rw[Q1];omega
 have hIt:∀ x∈L.take b.toNat,x.ins.length<=1000:=fun x hx=>hI x (JT hx);obtain⟨va,vn,vk,rfl⟩:=zJ sbs;refine go ?_;refine WO.con (zCu h2 0 _ _ sbs hlt hIt) ?_;rintro _ h3 ⟨rfl,e3⟩;have hmt:=yp (L.take b.toNat);have hmt2:=zHk L b.toNat;refine gr ?_;exact⟨rfl,e1.trans (e2.trans e3)⟩
set_option maxRecDepth 100000
theorem zMr {t:List LWd} {l:List Int} (u:Upto t l):t.length<=l.length:=by
 have h1:∀ w∈t,∃ n∈l,n / 64=w.pos:=fun w hw=>by
  obtain⟨a,b,c,d⟩:=u.ok.each w hw;obtain⟨k,hk⟩:=zDx c;have hk2:=YR d hk;exact⟨64 * w.pos+k,(u.mem _).1 ⟨w,hw,by omega,by rw[show ((64 * w.pos+(k:Int)) % 64).toNat=k by omega];exact hk⟩,by omega⟩
 have h2:(t.map (·.pos)).Nodup:=by
  rw[List.Nodup,List.pairwise_map];exact u.ok.rise.imp fun h=>by omega
 have h3:(t.map (·.pos)).length<=(l.map (· / 64)).length:=List.Nodup.length_le_of_subset h2 fun x hx=>by
  obtain⟨w,hw,rfl⟩:=Q0.1 hx;obtain⟨n,hn,e⟩:=h1 w hw;exact Q0.2 ⟨n,hn,e⟩
 simpa using h3
theorem zAl {s:List LWd} {N:Nat} (h:OkW s) (hr:∀ r,InW s r->r<(N:Int)):s.length<=N:=by
 have h1:=zLA h hr;have h2:∀ l:List LWd,OkW l->l.length<=(zx l).length:=fun l=>by
  induction l with
  |nil=>exact fun _=>QF _
  |cons w l ih=>
   intro o;have:=ih o.tail;rw[zEd,Q2];have hw:=(o.each w (QT ..)).2.2;obtain⟨k,hk⟩:=zDx hw.1;have:0<(zAa w.bits).length:=List.length_pos_of_mem (YD.2 ⟨YR hw.2 hk,hk⟩);omega
 have:=h2 s h;omega
theorem MineW.since {h0 h h' v s} (m:MineW h h' v s) (e:Ext h0 h):MineW h0 h' v s:=let ⟨b,hb,o⟩:=m;⟨b,QV e.n hb,o⟩
def zT0:ACode:=(oV (oR [oK 4 (.slice none 0 0)]) (oV (oR [oM 8 1,o1 9 136 8,oM 7 9,oE 10 7 0,oE 11 7 1,oM 5 10,oM 6 11]) (oV (oR [oM 13 0,oM 14 5,o2 15 133 13 14,oM 12 15,oE 16 12 0,oE 17 12 1,oM 0 16]) (oV (oR [oM 18 0,oM 4 18]) .ret))))
theorem zG8 (h:AHeap) (va vl:Value) (A:List LWd) (l:List Int) (ka:SlW h va A) (sl:SlI h vl l) (oa:OkW A) (hl:∀ n∈l,0<=n/\n<1000) (la:A.length<=500) (ll:l.length<=5000) (hm:h.mark<=h.n):
  WC Tryz.prog tb 85 [va,vl] h fun r h'=>(∃ t,MineW h h' r t/\OkW t/\t.length<=A.length+1000/\∀ n,InW t n↔InW A n\/n∈l)/\Ext h h':=by
 refine en 19 [(4,none)] zT0 ?_;refine WO.con (zPR h vl l sl (by omega) hm) ?_;rintro _ h1 ⟨⟨w,t,rfl,m,u,_⟩,e1⟩;have hE:=zEk (fun n hn=>by have:=hl n hn;omega);have u:=u hE;rw[hE];have km:=m.sl;have lt:=zAl (N:=1000) u.ok fun r q=>(hl r ((u.mem r).1 q)).2;have hm1:h1.mark<=h1.n:=by have:=e1.mark;have:=e1.n;omega
 refine go ?_;refine WO.con (zTF h1 va w A t (SlW.ext ka e1) km (by omega) (by omega) hm1) ?_;rintro _ h2 ⟨⟨v,rfl,mv⟩,e2⟩;rw[zEl oa u.ok];rw[zFK oa u.ok]at mv;obtain⟨oo,io⟩:=zTG oa u.ok;have ll2:=ZU (fun a b=>a|||b) A t;refine gr ?_;exact⟨⟨_,mv.since e1,oo,by omega,fun n=>by rw[<-YS,io,Q7,YS,YS,u.mem]⟩,e1.trans e2⟩
def zUR:ACode:=(oV (oR [oK 4 (.slice none 0 0)]) (oV (oR [oM 8 1,⟨some 9,none,(.buildSlice 1 1 [(.int .i64 0)] [(0,1,(.tmp 8))])⟩,o1 10 136 9,oM 7 10,oE 11 7 0,oE 12 7 1,oM 5 11,oM 6 12]) (oV (oR [oM 14 0,oM 15 5,o2 16 137 14 15,oM 13 16,oE 17 13 0,oE 18 13 1,oM 0 17]) (oV (oR [oM 19 0,oM 4 19]) .ret))))
theorem zJ2 (h:AHeap) (va:Value) (A:List LWd) (n:Int) (ka:SlW h va A) (oa:OkW A) (hn:0<=n/\n<1048576) (la:A.length<=500) (hm:h.mark<=h.n):
  WC Tryz.prog tb 88 [va,I n] h fun r h'=>(∃ t,MineW h h' r t/\OkW t/\t.length<=A.length+1/\∀ m,InW t m↔InW A m/\m≠n)/\Ext h h':=by
 refine en 20 [(4,none)] zUR ?_;refine WO.bl [n] ?_;intro vl h0 e0 o0;have hm0:h0.mark<=h0.n:=by have:=e0.mark;have:=e0.n;omega
 refine go ?_;refine WO.con (zPR h0 vl [n] o0.sl (by simp) hm0) ?_;rintro _ h1 ⟨⟨w,t,rfl,m,u,_⟩,e1⟩;have hE:ofE [n]=0:=zEk fun x hx=>by rw[QS]at hx;subst hx;exact hn
 have u:=u hE;rw[hE];have km:=m.sl;have lt:=zMr u;have e01:=e0.trans e1;have hm1:h1.mark<=h1.n:=by have:=e1.mark;have:=e1.n;omega
 refine go ?_;refine WO.con (zP9 h1 va w A t (SlW.ext ka e01) km (by omega) (by simp at lt;omega) hm1) ?_;rintro _ h2 ⟨⟨v,rfl,mv⟩,e2⟩;rw[zEl oa u.ok];rw[zFK oa u.ok]at mv;obtain⟨oo,io⟩:=zTO oa u.ok;have ll2:=ZU zC3 A t;refine gr ?_;refine⟨⟨_,mv.since e01,oo,by simp at lt;omega,fun k=> ?_⟩,e01.trans e2⟩;have hu:=u.mem k;rw[QS]at hu;rw[<-YS,io,QJ,YS,Gj];constructor
 ·rintro⟨a,b⟩;refine⟨a,fun e=> ?_⟩;rw[YS.2 (hu.2 e)]at b;cases b
 ·rintro⟨a,b⟩;exact⟨a,zFn fun q=>b (hu.1 q)⟩
def zTc:ACode:=(oV (oR [oX 1 0,oK 2 (.slice none 0 0)]) (oV (oV (oR [oF 0 3 1,oL 4 3,oD .eql 5 4 22]) (oJ 5 (oV (oR [oK 2 (.slice none 0 0)]) .ret) .skip)) (oV (oR [oA 7 6 1,o1 7 111 6,oM 2 7]) .ret)))
theorem zPQ (h:AHeap) (x:LIns) (cs:List Value) (hcs:RIns h cs x) (tt:Tbl h) (hx:x.args.length<=20):
  WC Tryz.prog tb 89 [.agg cs.toArray] h fun r h'=>OwnN h h' r (Zx x)/\Ext h h':=by
 have hcs0:=hcs;obtain⟨va,vfr,rfl,sa,sfr,hla,hlf,ho,ho2⟩:=hcs;obtain⟨aa,an,ak,rfl⟩:=SlC.shape sa;obtain⟨fa,fn,fk,rfl⟩:=SlC.shape sfr;refine en 8 [(2,none)] zTc ?_;refine WO.bx ?_;intro p h1 e1 o1;unfold Zx;by_cases c:x.op=22
 ·rw[QH c];refine gr ?_;exact⟨.inl ⟨rfl,rfl⟩,e1⟩
 rw[QC c];refine go ?_;refine WO.con (zIU h1 x _ (RIns.ext hcs0 e1) (tt.ext e1) hx) ?_;rintro r h2 ⟨o2,e2⟩;refine gr ?_;exact⟨o2.since e1,e1.trans e2⟩
theorem zF8:∀ (fs gs:List Int) (b:Int) (j:Nat),fs.length=gs.length->j<fs.length->Y0 (fs.take (j+1)) (gs.take (j+1)) b=Y0 (fs.take j) (gs.take j) b++(if fs.getD j 0=b then [gs.getD j 0] else [])
 |[],_,_,_,_,h=>absurd h (GH _)
 |f::fs,[],_,_,h,_=>by simp at h
 |f::fs,a::gs,b,0,_,_=>by
  simp only[Qn,GC,Y0,List.getD_cons_zero];split<;>simp[Y0]
 |f::fs,a::gs,b,j+1,h,hj=>by
  have:=zF8 fs gs b j (by simpa using h) (by simpa using hj);simp only[Qn,Y0,List.getD_cons_succ,this];split<;>simp
theorem zEi:∀ (fs gs:List Int) (b:Int),(Y0 fs gs b).length<=fs.length
 |[],_,_=>by simp[Y0]
 |_::_,[],_=>by simp[Y0]
 |f::fs,a::gs,b=>by
  have:=zEi fs gs b;unfold Y0;split<;>simp<;>omega
def zFe (x:LIns) (b:Int):List Int:=if x.op=22 then Y0 x.frm x.args b else []
theorem zMl {B:LBlk} {i:Nat} {b:Int} (h:i<B.ins.length):(B.ins.take (i+1)).flatMap (fun x=>zFe x b)=(B.ins.take i).flatMap (fun x=>zFe x b)++zFe (B.ins.getD i default) b:=by
 rw[GI,QB h,List.flatMap_append,QE,QB h];simp
theorem zEm:∀ (l:List LIns) (b:Int),(∀ x∈l,x.frm.length<=20)->(l.flatMap fun x=>zFe x b).length<=20 * l.length
 |[],_,_=>QW _
 |x::l,b,h=>by
  have h1:=zEm l b fun y hy=>h y (Qc _ hy);have h2:=h x (QT ..);have h3:(zFe x b).length<=20:=by
   unfold zFe;split
   ·have:=zEi x.frm x.args b;omega
   ·simp
  rw[List.flatMap_cons,QY,Q2];omega
theorem zNa {h0 h1 h h':AHeap} {p v:Value} {n:Int} {cs:List Value} {xs:List Int} (o:OwnC h0 h p (.int .u8 n::cs)) (i:OwnN h1 h v xs) (u:Upd v h h'):OwnC h0 h' p (.int .u8 n::cs):=by
 obtain⟨g,g1,g2,rfl,hg⟩:=o;refine⟨g,g1,QG g2 u.1,rfl,(u.2 g g2 fun a m c hv e=> ?_).trans hg⟩;rcases i with ⟨rfl,_⟩|⟨g3,_,_,rfl,hg3⟩
 ·cases hv
 ·cases hv;simp only at e;subst e;rw[hg]at hg3;cases xs with
  |nil=>cases hg3
  |cons x xs=>cases hg3
def zMf:ACode:=(oV (oR [oB .lss 23 22 21]) (oV (oT 23 2) (oV (o5 3 (oV (oR [oM 24 22,oI 1 25 20 22,oL 26 25,oM 7 24,oM 8 26]) (oV (oR [oM 27 8,oM 28 1,oB .eql 29 27 28]) (oJ 29 (oR [oM 30 4,oF 5 31 6,oL 32 31,oM 33 7,oI 1 34 32 33,oL 35 34,⟨some 36,none,(.buildSlice 1 1 [(.int .i64 0)] [(0,1,(.tmp 35))])⟩,oY 1 37 30 36,oM 4 37]) .skip)))) (oR [oC .add 38 22 1,oM 22 38]))))
def zMd:ACode:=(oV (oR [oB .lss 13 12 11]) (oV (oT 13 0) (oV (o5 1 (oV (oR [oI 7 14 10 12,oA 7 15 14,⟨some 6,none,(.alloc [(.int .u8 0),(.int .i64 0),(.int .i64 0),(.int .i64 0),(.int .i64 0),(.slice none 0 0),(.slice none 0 0)])⟩,oS 7 6 15]) (oV (oV (oR [oF 0 16 6,oL 17 16,oD .neq 18 17 22]) (oJ 18 (.exit 1) .skip)) (oV (oR [oF 6 19 6,oL 20 19,oQ 21 20,oN 22 0]) (o5 2 (.loop zMf)))))) (oR [oC .add 39 12 1,oM 12 39]))))
def zRp:ACode:=(oV (oR [oX 2 0,oK 4 (.slice none 0 0)]) (oV (oV (oR [oF 0 9 2,oL 10 9,oQ 11 10,oN 12 0]) (o5 0 (.loop zMd))) (oV (oR [oM 40 4,oM 4 40]) .ret)))
theorem zQ2 (h:AHeap) (B:LBlk) (cs:List Value) (b:Int) (hcs:RBlk h cs B) (hB:(B.ins.length:Int)<=128) (hfr:∀ x∈B.ins,x.frm.length<=20) (hp:∀ x∈B.ins,x.op=22->x.frm.length=x.args.length):
  WC Tryz.prog tb 134 [.agg cs.toArray,I b] h fun r h'=>OwnN h h' r (zAv B b)/\Ext h h':=by
 obtain⟨vi,rfl,si,hli⟩:=hcs;obtain⟨ia,iN,ik,rfl⟩:=zJ si;have hfr:=Hid.mk hfr;have hp:=Hid.mk hp;refine en 41 [(4,none)] zRp ?_;refine WO.bx ?_;intro p h1 e1 o1;have si1:=SlN.ext si e1;refine go ?_;refine WX.loopA [13,14,15,6,16,17,18,19,20,21,22,23,24,25,26,7,8,27,28,29,30,31,32,33,34,35,36,37,4,38,22,39,12] (by kernel_rfl) (fun i=>B.ins.length - i) (fun i t h2=>∃ w,zB t 12=I i/\i<=B.ins.length/\Ext h1 h2/\zB t 4=w/\OwnN h1 h2 w ((B.ins.take i).flatMap fun x=>zFe x b)) 0 ?_ ?_
 ·exact⟨_,sl_,QW _,Ext.refl _,sl_,.inl ⟨rfl,rfl⟩⟩
 rintro i t h2 hsame ⟨w,s12,hi,e2,s4,ow⟩;have si2:=SlN.ext si1 e2;refine go ?_;refine WX.br (fun hb=> ?_) (fun hb=> ?_)<;>simp only[DB]at hb
 ·have hi':i<B.ins.length:=by omega
  have hmem:=zI (l:=B.ins) hi';have hfx:=hfr.out _ hmem;have hpx:=hp.out _ hmem;have hsn:=zMl (b:=b) hi';have hpl:=zEm (B.ins.take i) b fun x hx=>hfr.out x (JT hx);have hpl2:(B.ins.take i).length<=i:=by rw[Q1];omega
  obtain⟨csx,⟨va,vf,rfl,sa,sf,ha1,ha2,ho1,ho2⟩,pcX,hs⟩:=yG si1 hi';have pc:=(pcX _ e2).1;obtain⟨aa,an,ak,rfl⟩:=SlC.shape sa;obtain⟨fa,fn,fk,rfl⟩:=SlC.shape sf;generalize (B.ins.take i).flatMap (fun x=>zFe x b)=P at *;generalize B.ins.getD i default=x at *;have hsn:=Hid.mk hsn;refine go ?_;refine WO.al ?_;intro p6 h3 e3 o6;refine go ?_;refine WO.stC0 (cs:=[.int .u8 x.op,I x.ty,I x.a,I x.b,I x.n,.slice aa an ak,.slice fa fn fk]) o6 e3 ?_;intro h4 e4 o64 u4;have ow4:=OwnN.ext ow e4;have e14:=e2.trans e4;have sa4:=SlI.ext sa e14;have sf4:=SlI.ext sf e14;have o64:=o64.since e2;refine go ?_;by_cases c:x.op=22
  ·have hpx:=hpx c;rw[zFe,QH c]at hsn;refine go ?_;refine WX.loopA [23,24,25,26,7,8,27,28,29,30,31,32,33,34,35,36,37,4,38,22] (by kernel_rfl) (fun j=>x.frm.length - j) (fun j t h5=>∃ w,zB t 22=I j/\j<=x.frm.length/\Ext h1 h5/\zB t 4=w/\OwnN h1 h5 w (P++Y0 (x.frm.take j) (x.args.take j) b)/\OwnC h1 h5 p6 [.int .u8 x.op,I x.ty,I x.a,I x.b,I x.n,.slice aa an ak,.slice fa fn fk]) 0 ?_ ?_
   ·exact⟨_,sl_,QW _,e14,sl_,by simpa [Y0]using ow4,o64⟩
   ·rintro j t5 h5 hsame5 ⟨w5,s22,hj,e5,s4',ow5,o65⟩;have sa5:=SlI.ext sa e5;have sf5:=SlI.ext sf e5;refine go ?_;refine WX.br (fun hb2=> ?_) (fun hb2=> ?_)<;>simp only[DB]at hb2
    ·have hj':j<x.frm.length:=by omega
     have hps:=zF8 x.frm x.args b j hpx hj';have hpal:=zEi (x.frm.take j) (x.args.take j) b;have hpal2:(x.frm.take j).length<=j:=by rw[Q1];omega
     by_cases hk:x.frm.getD j 0=b
     ·rw[QH hk]at hps;refine go ?_;refine WO.bl [x.args.getD j 0] ?_;intro v6 h6 e6 o6';refine go ?_;refine WO.apNw (OwnN.ext ow5 e6) o6'.sl (e5.trans e6) (by simp) (by simp only[QY,Qa];omega) ?_;intro v7 h7 e7 o7 u7 _ _;have o67:=zNa (o65.ext e6) (OwnN.ext ow5 e6) u7;refine go ?_;refine zA (j+1) (by omega) ⟨_,sln,by omega,e7,sl_,by rw[hps,<-GD];exact o7,o67⟩
     ·rw[QC hk,G2]at hps;refine go ?_;refine zA (j+1) (by omega) ⟨_,sln,by omega,e5,sl_,by rw[hps];exact ow5,o65⟩
    ·have hjl:j=x.frm.length:=by omega
     subst hjl;rw[GN,hpx,GN]at ow5;refine go ?_;refine zA (i+1) (by omega) ⟨_,sln,by omega,e5,sl_,by rw[hsn.out];exact ow5⟩
  ·rw[zFe,QC c,G2]at hsn;refine go ?_;refine zA (i+1) (by omega) ⟨_,sln,by omega,e14,sl_,by rw[hsn.out];exact ow4⟩
 ·refine gr ?_;rw[show i=B.ins.length by omega,GN]at ow;subst s4;exact⟨ow.since e1,e1.trans e2⟩
def FarW (h:AHeap) (X:Nat) (v:Value) (s:List LWd):Prop:=SlW h v s/\∀ a n k,v= .slice (some a) n k->X<=a.block
theorem FarW.keep {h h':AHeap} {X:Nat} {v:Value} {s:List LWd} (F:FarW h X v s) (hk:∀ k,X<=k->k<h.n->h'.get k=h.get k) (hn:h.n<=h'.n):FarW h' X v s:=by
 obtain⟨⟨cells,⟨h1,h2⟩,hR⟩,hf⟩:=F;refine⟨⟨cells,⟨h1,h2.imp id ?_⟩,fun i a ha=>hR i a ha⟩,hf⟩;rintro⟨g,off,row,rfl,hr,hc,hg⟩;have:=hf _ _ _ rfl;refine⟨g,off,row,rfl,?_,hc,QG hg hn⟩;unfold zn at hr |-;rw[hk g this hg];exact hr
theorem FarW.nil {h:AHeap} {X:Nat}:FarW h X (.slice none 0 0) []:=⟨SlR.nil,fun a n k e=>by cases e⟩
theorem MineW.far {h h':AHeap} {X:Nat} {v:Value} {s:List LWd} (m:MineW h h' v s) (hX:X<=h.n):FarW h' X v s:=by
 refine⟨m.sl,fun a n k e=> ?_⟩;obtain⟨b,hb,o⟩:=m;rcases o with ⟨e2,_⟩|⟨g,_,_,g1,_,e2,_⟩
 ·rw[e2]at e;cases e
 ·rw[e2]at e;cases e;show X<=g;omega
def RSt (X:Nat) (h:AHeap) (cs:List Value) (s:List LWd):Prop:=∃ v,cs=[v]/\FarW h X v s
def RowS (h:AHeap) (X g:Nat) (S:Z6):Prop:=∃ vs:List Value,h.get g=some (.row vs true 0)/\vs.length=S.length/\∀ i,i<S.length->FarW h X (vs.getD i undef) (S.getD i [])
theorem RowS.keep {h h':AHeap} {X g:Nat} {S:Z6} (r:RowS h X g S) (hg:h'.get g=h.get g) (hk:∀ k,X<=k->k<h.n->h'.get k=h.get k) (hn:h.n<=h'.n):RowS h' X g S:=by
 obtain⟨vs,a,b,c⟩:=r;exact⟨vs,hg.trans a,b,fun i hi=>(c i hi).keep hk hn⟩
theorem RowS.sl {h:AHeap} {X g:Nat} {S:Z6} (r:RowS h X g S) (hg:g<h.n):SlR 1 (RSt X) h (.slice (some ⟨g,0,none⟩) S.length 1) S:=by
 obtain⟨vs,a,b,c⟩:=r;refine⟨vs,SlC.own (own:=true) (lo:=0) hg a (by omega),fun i s hs=> ?_⟩;have hi:=(QO.1 hs).1;refine⟨vs.getD i undef,?_,?_⟩
 ·rw[JB,Qt (by omega),Qn,GC,QE,QB (by omega)];rfl
 ·have:=c i hi;rwa [QE (l:=S),hs]at this
structure FS (hB h:AHeap) (X gp gb ge gm:Nat) (vt vf:Value) (f:Int) (bg ed:Z6) (es:List (Int×Int)):Prop where
 e:Ext hB h
 hX:X<=h.n
 dp:hB.n<=gp/\gp<X
 db:hB.n<=gb/\gb<X
 de:hB.n<=ge/\ge<X
 dm:hB.n<=gm/\gm<X
 ne:gp≠gb/\gp≠ge/\gp≠gm/\gb≠ge/\gb≠gm/\ge≠gm
 rp:h.get gp=some (.row [vt,vf,I f,.slice (some ⟨gb,0,none⟩) bg.length 1,.slice (some ⟨ge,0,none⟩) ed.length 1,.map (some gm)] true 0)
 sb:RowS h X gb bg
 se:RowS h X ge ed
 rm:OwnM hB h (.map (some gm)) es
section
variable {hB h h':AHeap} {X gp gb ge gm:Nat} {vt vf:Value} {f:Int} {bg ed:Z6} {es es':List (Int×Int)}
theorem FS.own (F:FS hB h X gp gb ge gm vt vf f bg ed es):OwnC hB h (.pointer (some ⟨gp,0,none⟩)) [vt,vf,I f,.slice (some ⟨gb,0,none⟩) bg.length 1,.slice (some ⟨ge,0,none⟩) ed.length 1,.map (some gm)]:=
 ⟨gp,F.dp.1,QG F.dp.2 F.hX,rfl,F.rp⟩
theorem FS.begs (F:FS hB h X gp gb ge gm vt vf f bg ed es):SlR 1 (RSt X) h (.slice (some ⟨gb,0,none⟩) bg.length 1) bg:=F.sb.sl (QG F.db.2 F.hX)
theorem FS.ends (F:FS hB h X gp gb ge gm vt vf f bg ed es):SlR 1 (RSt X) h (.slice (some ⟨ge,0,none⟩) ed.length 1) ed:=F.se.sl (QG F.de.2 F.hX)
theorem FS.ext (F:FS hB h X gp gb ge gm vt vf f bg ed es) (e:Ext h h'):FS hB h' X gp gb ge gm vt vf f bg ed es:=by
 have hk:∀ k,X<=k->k<h.n->h'.get k=h.get k:=fun k _ hk=>e.get k hk;exact⟨F.e.trans e,QV F.hX e.n,F.dp,F.db,F.de,F.dm,F.ne,(e.get _ (QG F.dp.2 F.hX)).trans F.rp,F.sb.keep (e.get _ (QG F.db.2 F.hX)) hk e.n,F.se.keep (e.get _ (QG F.de.2 F.hX)) hk e.n,F.rm.ext e⟩
theorem FS.setM (F:FS hB h X gp gb ge gm vt vf f bg ed es) (e:Ext hB h') (o:OwnM hB h' (.map (some gm)) es') (u:zFL (.map (some gm)) h h'):FS hB h' X gp gb ge gm vt vf f bg ed es':=by
 obtain⟨n1,n2,n3,n4,n5,n6⟩:=F.ne;have hk:∀ k,k<h.n->k≠gm->h'.get k=h.get k:=fun k h1 h2=>u.2 k h1 fun e=>by cases e;exact h2 rfl
 have hk2:∀ k,X<=k->k<h.n->h'.get k=h.get k:=fun k h1 h2=>hk k h2 (by have:=F.dm.2;omega);exact⟨e,QV F.hX u.1,F.dp,F.db,F.de,F.dm,F.ne,(hk _ (QG F.dp.2 F.hX) n3).trans F.rp,F.sb.keep (hk _ (QG F.db.2 F.hX) n5) hk2 u.1,F.se.keep (hk _ (QG F.de.2 F.hX) n6) hk2 u.1,o⟩
theorem FS.setB {bg':Z6} (F:FS hB h X gp gb ge gm vt vf f bg ed es) (e:Ext hB h') (r:RowS h' X gb bg') (hl:bg'.length=bg.length) (hn:h.n<=h'.n) (hk:∀ k,k<h.n->k≠gb->h'.get k=h.get k):FS hB h' X gp gb ge gm vt vf f bg' ed es:=by
 obtain⟨n1,n2,n3,n4,n5,n6⟩:=F.ne;have hk2:∀ k,X<=k->k<h.n->h'.get k=h.get k:=fun k h1 h2=>hk k h2 (by have:=F.db.2;omega);refine⟨e,QV F.hX hn,F.dp,F.db,F.de,F.dm,F.ne,by rw[hl];exact(hk _ (QG F.dp.2 F.hX) n1).trans F.rp,r,F.se.keep (hk _ (QG F.de.2 F.hX) (fun e=>n4 e.symm)) hk2 hn,?_⟩;obtain⟨q,c,es',q1,q2,q3,q4,q5⟩:=F.rm;cases q3;exact⟨gm,c,es',q1,QG q2 hn,rfl,(hk gm q2 (fun e=>n5 e.symm)).trans q4,q5⟩
theorem FS.setE {ed':Z6} (F:FS hB h X gp gb ge gm vt vf f bg ed es) (e:Ext hB h') (r:RowS h' X ge ed') (hl:ed'.length=ed.length) (hn:h.n<=h'.n) (hk:∀ k,k<h.n->k≠ge->h'.get k=h.get k):FS hB h' X gp gb ge gm vt vf f bg ed' es:=by
 obtain⟨n1,n2,n3,n4,n5,n6⟩:=F.ne;have hk2:∀ k,X<=k->k<h.n->h'.get k=h.get k:=fun k h1 h2=>hk k h2 (by have:=F.de.2;omega);refine⟨e,QV F.hX hn,F.dp,F.db,F.de,F.dm,F.ne,by rw[hl];exact(hk _ (QG F.dp.2 F.hX) n2).trans F.rp,F.sb.keep (hk _ (QG F.db.2 F.hX) n4) hk2 hn,r,?_⟩;obtain⟨q,c,es',q1,q2,q3,q4,q5⟩:=F.rm;cases q3;exact⟨gm,c,es',q1,QG q2 hn,rfl,(hk gm q2 (fun e=>n6 e.symm)).trans q4,q5⟩
end
section
variable {P:Program} {tab:Tab} {t:Trie Value} {h:AHeap} {ds:List Deferred} {rd:Option Nat} {l:List AOper} {Q:AFr->AHeap->Prop}
theorem WO.stRow {hB:AHeap} {X g i n:Nat} {S:Z6} {s:List LWd} {x y:Operand} {a:Option Addr} {vn vk:Nat} (r:RowS h X g S) (e0:Ext hB h) (hg:hB.n<=g/\g<X) (hX:X<=h.n) (hi:i<S.length) (F:FarW h X (.slice a vn vk) s)
  (k:∀ h',Ext hB h'->RowS h' X g (S.set i s)->h'.n=h.n->(∀ k,k<h.n->k≠g->h'.get k=h.get k)->WO P tab l ⟨t,ds,rd⟩ h' Q)
  (hx:Ope t x (zz (.slice (some ⟨g,0,none⟩) n 1) (i * 1)):=by exact zU) (hy:Ope t y (.slice a vn vk):=by exact zU):
  WO P tab (⟨none,none,.store 1 x y⟩::l) ⟨t,ds,rd⟩ h Q:=by
 obtain⟨vs,r1,r2,r3⟩:=r;have hx:ev t x= .pointer (some ⟨g,0+i * 1,none⟩):=hx;rw[Q5,JB]at hx;have hy:ev t y= .slice a vn vk:=hy;have hst:zY h ⟨g,i,none⟩ [.slice a vn vk]=some (h.set g (.row (vs.set i (.slice a vn vk)) true 0)):=by
  have h2:Nat.ble (i+[Value.slice a vn vk].length) vs.length=true:=QI (by simp;omega);have h3:Nat.ble 0 i=true:=QI (QW _);have h4:zN [Value.slice a vn vk]=true:=rfl;simp only[zY,r1,h2,h3,h4,Qs,Qw,cond_true];rw[zGA (by omega)]
 have hk:∀ k,k≠g->(h.set g (.row (vs.set i (.slice a vn vk)) true 0)).get k=h.get k:=fun k hk=>by rw[zS,QC hk]
 refine WO.op0 undef (h.set g (.row (vs.set i (.slice a vn vk)) true 0)) rfl ?_ (k _ (e0.set hg.1 (QG hg.2 hX) _) ⟨vs.set i (.slice a vn vk),by rw[zS,QH rfl],by rw[GJ,GJ];exact r2,fun j hj=> ?_⟩ rfl fun k _ h2=>hk k h2)
 ·simp only[aop,hx,hy,zIu,G3,Qa,Gd,hst,QK,cond_true]
 ·rw[GJ]at hj;have hkk:∀ k,X<=k->k<h.n->(h.set g (.row (vs.set i (.slice a vn vk)) true 0)).get k=h.get k:=fun k h1 _=>hk k (by omega);by_cases e:j=i
  ·subst e;rw[QE,JM (by omega),QE,JM hi];exact F.keep hkk (QF _)
  ·rw[QE,List.getElem?_set_ne (fun h=>e h.symm),QE,List.getElem?_set_ne (fun h=>e h.symm),<-QE,<-QE];exact(r3 j hj).keep hkk (QF _)
end
theorem zFD {x:LIns} {r:Int} (h:r∈Zx x):r∈yj x:=by
 unfold Zx at h;split at h
 ·cases h
 ·exact h
theorem zE7:∀ {fs gs:List Int} {b r:Int},r∈Y0 fs gs b->r∈gs
 |[],_,_,_,h=>by simp[Y0]at h
 |_::_,[],_,_,h=>by simp[Y0]at h
 |f::fs,a::gs,b,r,h=>by
  unfold Y0 at h;split at h
  ·rcases Qi.1 h with rfl|h
   ·exact QT ..
   ·exact Qc _ (zE7 h)
  ·exact Qc _ (zE7 h)
theorem zS4 {B:LBlk} {N n b r:Int} (u:BlkU B N n) (h:r∈zAv B b):0<=r/\r<N:=by
 unfold zAv at h;obtain⟨x,hx,hr⟩:=List.mem_flatMap.1 h;split at hr
 ·rename_i e;exact((u.ins x hx).phi e).2.1 r (zE7 hr)
 ·cases hr
theorem zCb {N:Int} {E:Int->Prop}:∀ {l:List LIns} {k r:Int},(∀ x∈l,∀ r∈yj x,0<=r/\r<N)->(∀ r,E r->0<=r/\r<N)->zGO E l k r->0<=r/\r<N
 |[],_,_,_,hE,h=>hE _ h
 |x::l,k,r,hu,hE,h=>by
  rcases h with h|⟨_,h⟩
  ·exact hu x (QT ..) r (zFD h)
  ·exact zCb (fun y hy=>hu y (Qc _ hy)) hE h
end
end Go.Proofs.YteekipjpghikkaaGreatDoor
