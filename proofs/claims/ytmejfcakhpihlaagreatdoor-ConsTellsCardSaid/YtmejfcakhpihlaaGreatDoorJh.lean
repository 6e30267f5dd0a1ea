/- Walks of functions, plain laws; proves no statement. -/
import Derived.Test.YtmejfcakhpihlaaGreatDoorJg
set_option linter.all false
set_option maxHeartbeats 2000000
namespace Go.Proofs.YtmejfcakhpihlaaGreatDoor
open Go.Am
theorem VV{P:Program}{tab:Wy}{l:List WF}{t:WG Value}{ds:List Deferred}{rd:Option Nat}{h:WA}{Q:WR->WA->Prop}{d:Nat}{ty:TypeId}{x:Operand}{v:Value}(k:WO P tab l ⟨t.set d (.iface ty v),ds,rd⟩ h Q)(hx:WM t x v:=by exact zQ):WO P tab (⟨some d,none,.mkIface ty x⟩::l) ⟨t,ds,rd⟩ h Q:=
 WO.op _ _ rfl (by unfold WM at *;simp only[WN,hx]) k
theorem Zd{P:Program}{tab:Wy}{m N0 g:Nat}{o:WF}{un:List Nat}{l:List (WF×List Nat)}{fr:WR}{h:WA}{Q:WR->WA->Prop}{t:WG Value}(hr:zl t o=none)(hx:Wb P tab m N0 l g true fr (inC h) Q):uK2 P tab m N0 un t o (inC h) l g true Q fr (inC h):=
 zDw (fun g hg=>by rw[hr]at hg;cases hg) hx
structure InsT(T:List WE)(F:List Wa)(x:Wj):Prop where
 ty:W7 T x.ty
 n14:x.op=14->0<=x.n
 n2:x.op=3\/x.op=18->0<=x.n/\x.n<(F.length:Int)
 l1:x.op=14\/x.op=15\/x.op=16\/x.op=17\/x.op=19->1<=(zt x).length
 l2:x.op=15\/x.op=17\/x.op=10->2<=(zt x).length
theorem zDa{x:Wj}{N n:Int}(u:InsU x N n):(zt x).length<=30:=by
 have:=u.args;unfold zt;simp only[QM];have h1:(if(zU x.op).1 then[x.a]else[]).length<=1:=by split<;>simp
 have h2:(if(zU x.op).2.1 then[x.b]else[]).length<=1:=by split<;>simp
 have h3:(if(zU x.op).2.2.2.1 then x.args else[]).length<=20:=by
  split
  ·exact this
  ·exact QK _
 omega
theorem zQz{T:List WE}{F:List Wa}{f:Wa}{x:Wj}(hT:0<T.length)(h:B2 x (B0 T F.length f)=true):InsT T F x:=by
 have ho:=zIo h;have m:=(zBi (by omega)).1 h;have ha:=Yl (op:=x.op) (by omega);have bm:=m.ans;have hn:=m.num;refine⟨?_,fun e=> ?_,fun e=> ?_,fun e=> ?_,fun e=> ?_⟩
 ·split at bm
  ·exact .inr bm
  ·exact .inr ⟨by omega,by omega⟩
 ·unfold zHv at hn;rw[QC (by omega),QC (by omega),QF e]at hn;exact hn.1
 ·unfold zHv at hn;rw[QC (by omega),QF e]at hn;exact hn
 ·have h1:(zU x.op).1=true:=ha.2.1.2 (by unfold zB6 zB3;omega);unfold zt;rw[h1];simp
 ·have h1:(zU x.op).1=true:=ha.2.1.2 (by unfold zB6 zB3;omega);have h2:(zU x.op).2.1=true:=ha.1.2 (by unfold zB3;omega);unfold zt;rw[h1,h2];simp
def ZB(ks rs:List Int):List Int:=rs.map fun r=>ks.getD r.toNat 0
def zAE(T:List WE)(F:List Wa)(ks:List Int)(ps:List (Int×Int))(nx:Int->List Int)(L:List Wc)(P:List Int)(b:Int)(i:Nat)(pre:Prop)(x:Wj):Prop:=
 ¬(-1:Int)∈ZB ks (zt x)/\yD T F x (ZB ks (zt x))=true/\(x.op=22->pre/\x.frm=P/\zQt nx ps L x.frm x.args)/\(x.op≠22->∀ r∈zt x,zCX nx (ps.getD r.toNat default) b i)
def YO(T:List WE)(F:List Wa)(ks:List Int)(ps:List (Int×Int))(nx:Int->List Int)(L:List Wc)(P:List Int)(b:Int)(i:Nat):Prop:=
 zAE T F ks ps nx L P b i (∀ j,j<i->((L.getD b.toNat default).ins.getD j default).op=22) ((L.getD b.toNat default).ins.getD i default)
def zHB(T:List WE)(F:List Wa)(f:Int)(ks:List Int)(ps:List (Int×Int))(nx:Int->List Int)(b:Int)(B:Wc):Prop:=
 (¬(-1:Int)∈ZB ks (yI B.fin)/\∀ r∈yI B.fin,zCX nx (ps.getD r.toNat default) b B.ins.length)/\(B.fin.kind=2->isL T 1 (ZB ks (yI B.fin))=true)/\(B.fin.kind=1\/B.fin.kind=2->B.fin.to≠0/\(B.fin.kind=1\/B.fin.aE≠0))/\(B.fin.kind=3->(ZB ks (yI B.fin)).getD 0 0=(T.getD (F.getD f.toNat default).sig.toNat default).elem)
def YS(T:List WE)(F:List Wa)(f:Int)(ks:List Int)(ps:List (Int×Int))(nx:Int->List Int)(L:List Wc)(b:Int):Prop:=zHB T F f ks ps nx b (L.getD b.toNat default)
def tyF:Nat:=130
def Bz(f b:Int):Value:= .iface tyF (.agg #[I f,I b,I 120])
section
variable {vt vf:Value}{T:List WE}{F:List Wa}{f:Int}{ks:List Int}{ps:List (Int×Int)}{xs:List Int}{g:Nat}{nx:Int->List Int}{L:List Wc}
theorem Up{X:WA}{v:Value}{l:List Wj}(o:BB X v l):BB (inC X) v l:=o
theorem zNv{h:WA}{vi:Value}{B:Wc}{i:Nat}(s:BB h vi B.ins)(hi:i<B.ins.length):∃ cs,W8 h cs (B.ins.getD i default)/\(∀ h',Ext h h'->Wp h' vi (i*7) cs/\Wp (inC h') vi (i*7) cs)/\zIq vi:=zP s hi
def zMR:Nat->WY->WY
 |n+1,.seq _ b=>zMR n b
 |_,c=>c
noncomputable def zOK:WY:=(oV (oR [oB .lss 54 53 52]) (oV (oT 54 0) (oV (o5 1 (oV (oR [oM 55 53,oI 7 56 51 53,oA 7 57 56,⟨some 11,none,(.alloc [(.int .u8 0),(.int .i64 0),(.int .i64 0),(.int .i64 0),(.int .i64 0),(.slice none 0 0),(.slice none 0 0)])⟩,oM 10 55,oS 7 11 57]) (oV (oR [oA 7 58 11,o1 59 124 58,oM 12 59]) (oV (oR [oM 60 0,oM 61 12,o2 62 125 60 61,oM 13 62]) (o5 2 (oV (oR [oM 72 13,⟨some 73,none,(.call (.func 126) [(.tmp 72),(.const (.int .i64 (-1)))])⟩,oM 74 73,oH 74 (oM 75 0),oH 74 (oA 7 76 11),oH 74 (oM 77 13),oH 74 (o3 78 127 75 76 77),oH 74 (oW 79 78),oO 80 74 79,oM 71 80]) (oJ 71 (oV (oR [oA 3 81 8,⟨some 82,none,(.mkIface 130 (.tmp 81))⟩,oM 4 82]) .ret) (oV (oR [oF 0 84 11,oL 85 84,oD .eql 86 85 22,oM 83 86]) (oJ 83 (oV (oR [oM 87 9,oW 88 87,oM 89 88,oH 89 (oM 90 0),oH 89 (oA 7 91 11),oH 89 (oM 92 6),oH 89 (o3 93 128 90 91 92),oH 89 (oW 94 93),oO 95 89 94]) (oJ 95 (oV (oR [oA 3 96 8,⟨some 97,none,(.mkIface 130 (.tmp 96))⟩,oM 4 97]) .ret) .skip)) (oV (oR [oZ 9]) (oV (oR [oM 63 0,oM 64 1,oM 65 10,oM 66 12,o4 67 129 63 64 65 66,oW 68 67]) (oJ 68 (oV (oR [oA 3 69 8,⟨some 70,none,(.mkIface 130 (.tmp 69))⟩,oM 4 70]) .ret) .skip)))))))))))) (oR [oC .add 98 53 1,oM 53 98]))))
noncomputable def zMi:WY:=(oV (oR [⟨some 4,none,(.mov (.const .nilIface))⟩]) (oV (o6 [oM 16 0,(⟨some 17,none,(.nilCheck (.tmp 16))⟩,[]),oF 0 18 17,oF 1 19 18,oL 20 19,oM 21 0,(⟨some 22,none,(.nilCheck (.tmp 21))⟩,[]),oF 2 23 22,oL 24 23,oI 2 25 20 24,oF 1 26 25,oL 27 26,oM 28 1,oI 5 29 27 28,oA 5 30 29,(⟨some 5,none,(.alloc [(.slice none 0 0),(.int .u8 0),(.int .i64 0),(.int .i64 0),(.int .i64 0)])⟩,[]),oS 5 5 30]) (oV (o6 [oM 32 0,(⟨some 33,none,(.nilCheck (.tmp 32))⟩,[]),oF 0 34 33,oA 2 35 34,oM 36 0,(⟨some 37,none,(.nilCheck (.tmp 36))⟩,[]),oF 2 38 37,oL 39 38,oM 40 1,o3 41 123 35 39 40,oM 31 41,oE 42 31 0,oE 43 31 1,oM 6 42,oM 7 43]) (oV (oR [oM 44 0,⟨some 45,none,(.nilCheck (.tmp 44))⟩,oF 2 46 45,oL 47 46,oM 48 1,⟨some 49,none,(.build [(.int .i64 0),(.int .i64 0),(.int .i64 0)] [(0,1,(.tmp 47)),(1,1,(.tmp 48)),(2,1,(.const (.int .i64 120)))])⟩,⟨some 8,none,(.alloc [(.int .i64 0),(.int .i64 0),(.int .i64 0)])⟩,oS 3 8 49]) (oV (oR [oK 9 (.bool true)]) (oV (oV (oR [oF 0 50 5,oL 51 50,oQ 52 51,oN 53 0]) (o5 0 (.loop zOK))) (oV (oR [oM 99 0,oF 1 100 5,oA 4 101 100,o1 102 130 101,o2 103 125 99 102,oM 14 103]) (oV (o6 [oM 104 14,(⟨some 105,none,(.call (.func 126) [(.tmp 104),(.const (.int .i64 (-1)))])⟩,[]),oW 106 105,oM 107 106,oG 107 (oM 108 0),oG 107 (oM 109 1),oG 107 (oF 0 110 5),oG 107 (oL 111 110),oG 107 (oQ 112 111),oG 107 (oF 1 113 5),oG 107 (oA 4 114 113),(oG 107 (o1 115 130 114),[7]),oG 107 (o4 116 129 108 109 112 115),oP 117 107 116,oM 15 117]) (oV (oV (oR [oF 1 118 5,oF 0 119 118,oL 120 119]) (o5 3 (oV (o5 6 (oV (o5 5 (oV (o5 4 (oV (oV (oV (oR [oD .eql 122 120 2,oM 121 122]) (oJ 121 (.exit 4) .skip)) (oV (oV (oR [oD .eql 124 120 1,oM 123 124]) (oJ 123 (.exit 5) .skip)) (oV (oR [oD .eql 126 120 3,oM 125 126]) (oJ 125 (.exit 6) .skip)))) (.exit 3))) (oR [oM 127 15,oM 128 127,oG 128 (oM 129 0),oG 128 (oM 130 14),⟨some 131,some (128,true),(.call (.func 76) [(.tmp 129),(.const (.int .u8 1)),(.tmp 130)])⟩,oP 132 128 131,oM 15 132]))) (oV (oR [oM 133 15,oM 134 133,oG 134 (oF 1 135 5),oG 134 (oF 2 136 135),oG 134 (oL 137 136),oG 134 (oC .neq 138 137 0),oP 139 134 138,oM 140 139,oG 140 (oF 1 141 5),oG 140 (oF 0 142 141),oG 140 (oL 143 142),oG 140 (oD .eql 144 143 1),oG 140 (oM 145 144),oH 145 (oF 1 146 5),oH 145 (oF 3 147 146),oH 145 (oL 148 147),oH 145 (oC .neq 149 148 0),oG 140 (oO 150 145 149),oP 151 140 150,oM 15 151]) (.exit 3)))) (oV (o6 [oM 152 15,oM 153 152,oG 153 (oM 154 14),(⟨some 155,some (153,true),(.idx 1 (.tmp 154) (.const (.int .i64 0)))⟩,[]),oG 153 (oL 156 155),oG 153 (oM 157 0),(⟨some 158,some (153,true),(.nilCheck (.tmp 157))⟩,[]),oG 153 (oF 0 159 158),oG 153 (oF 0 160 159),oG 153 (oL 161 160),oG 153 (oM 162 0),(⟨some 163,some (153,true),(.nilCheck (.tmp 162))⟩,[]),oG 153 (oF 0 164 163),oG 153 (oF 1 165 164),oG 153 (oL 166 165),oG 153 (oM 167 0),(⟨some 168,some (153,true),(.nilCheck (.tmp 167))⟩,[]),oG 153 (oF 2 169 168),oG 153 (oL 170 169),oG 153 (oI 2 171 166 170),oG 153 (oF 0 172 171),oG 153 (oL 173 172),oG 153 (oI 4 174 161 173),oG 153 (oF 1 175 174),oG 153 (oL 176 175),oG 153 (oB .eql 177 156 176),oP 178 153 177,oM 15 178]) (.exit 3))))) (oV (oV (oR [oM 179 15,oW 180 179]) (oJ 180 (oV (oR [oA 3 181 8,⟨some 182,none,(.mkIface 130 (.tmp 181))⟩,oM 4 182]) .ret) .skip)) (oV (oR [⟨some 4,none,(.mov (.const .nilIface))⟩]) .ret)))))))))))
theorem zJl(h h8 h0 kP:WA)(t8:WG Value)(b:Int)(B:Wc)(P:List Int)(p5 p8 vl vi:Value)(q:Bool)(cX:Ext h h8)(M8:BJ h8 g vt vf T F f ks ps (YU xs L.length))(hG:0<=f/\f<(F.length:Int))(Dc:L.getD b.toNat default=B)
  (bH:0<=(F.getD f.toNat default).sig/\(F.getD f.toNat default).sig<(T.length:Int)) (dT:∀ t∈ZB ks (yI B.fin),W7 T t) (tL:(ZB ks (yI B.fin)).length=(yI B.fin).length) (K1:(yI B.fin).length<=1)
  (O2:WB h0 h8 p5 [vi,.int .u8 B.fin.kind,I B.fin.a,I B.fin.to,I B.fin.aE]) (O3:WB kP h8 p8 [I f,I b,I 120]) (O4:WQ h8 vl (ZB ks (yI B.fin)))
  (s0:zC t8 0=.pointer (some ⟨g,0,none⟩)) (s1:zC t8 1=I b) (s5:zC t8 5=p5) (s8:zC t8 8=p8) (O5:zC t8 14=vl) (Ag:zC t8 15=.bool q)
  (hI:WK (∀ j,j<B.ins.length->YO T F ks ps nx L P b j)) (hq:WK (q=true↔¬(-1:Int)∈ZB ks (yI B.fin)/\∀ r∈yI B.fin,zCX nx (ps.getD r.toNat default) b B.ins.length)):
  WX Tryz.prog tb (zMR 8 zMi) ⟨t8,[],none⟩ h8 (zEe Tryz.prog tb [(4,none)] fun q h'=>(q=.nilIface/\(∀ i,i<B.ins.length->YO T F ks ps nx L P b i)/\YS T F f ks ps nx L b\/q=Bz f b/\¬((∀ i,i<B.ins.length->YO T F ks ps nx L P b i)/\YS T F f ks ps nx L b))/\Ext h h'):=by
 simp only[zMR,oV,zMi];have hE:YS T F f ks ps nx L b↔zHB T F f ks ps nx b B:=by unfold YS;rw[Dc]
 unfold zHB at hE;rw[<-hq.out]at hE;have fW:∀ {h'},YS T F f ks ps nx L b->Ext h h'->(Value.nilIface=.nilIface/\(∀ i,i<B.ins.length->YO T F ks ps nx L P b i)/\YS T F f ks ps nx L b\/Value.nilIface=Bz f b/\¬((∀ i,i<B.ins.length->YO T F ks ps nx L P b i)/\YS T F f ks ps nx L b))/\Ext h h':=fun he e=>⟨.inl ⟨rfl,hI.out,he⟩,e⟩;have fh:∀ {h'},¬YS T F f ks ps nx L b->Ext h h'->(Bz f b=.nilIface/\(∀ i,i<B.ins.length->YO T F ks ps nx L P b i)/\YS T F f ks ps nx L b\/Bz f b=Bz f b/\¬((∀ i,i<B.ins.length->YO T F ks ps nx L P b i)/\YS T F f ks ps nx L b))/\Ext h h':=fun hn e=>⟨.inr ⟨rfl,fun⟨_,a⟩=>hn a⟩,e⟩;have hE:=WK.mk hE;have fW:=WK.mk @fW;have fh:=WK.mk @fh;refine go ?_;by_cases k2:B.fin.kind=2
 ·have k1:¬B.fin.kind=1:=by omega
  have k3:¬B.fin.kind=3:=by omega
  cases q with
  |false=>
   refine go ?_;refine VV ?_;refine gr ?_;exact fh.out (fun e'=>have e:=hE.out.1 e';absurd e.1 Bool.noConfusion) cX
  |true=>
   refine go ?_;refine VA (ZN h8 1 vl _ M8 O4 (by omega) dT) ?_;rintro _ h9 ⟨rfl,e9⟩;have o59:=O2.ext e9;have K2:=O3.ext e9;cases c1:isL T 1 (ZB ks (yI B.fin))with
   |false=>
    refine go ?_;refine VV ?_;refine gr ?_;exact fh.out (fun e'=>have e:=hE.out.1 e';absurd ((e.2.1 k2).symm.trans c1) Bool.noConfusion) (cX.trans e9)
   |true=>
    by_cases ct:B.fin.to=0
    ·have F7:¬B.fin.to≠0:=fun h=>h ct;refine go ?_;refine VV ?_;refine gr ?_;exact fh.out (fun e'=>have e:=hE.out.1 e';(e.2.2.1 (.inr k2)).1 ct) (cX.trans e9)
    ·have F7:B.fin.to≠0:=ct;by_cases ce:B.fin.aE=0
     ·have O6:¬B.fin.aE≠0:=fun h=>h ce;refine go ?_;refine VV ?_;refine gr ?_;exact fh.out (fun e'=>have e:=hE.out.1 e';(e.2.2.1 (.inr k2)).2.elim k1 (fun h=>h ce)) (cX.trans e9)
     ·have O6:B.fin.aE≠0:=ce;refine go ?_;rw[QY ce];refine gr ?_;exact fW.out (hE.out.2 ⟨rfl,fun _=>c1,fun _=>⟨ct,.inr ce⟩,fun h=>absurd h k3⟩) (cX.trans e9)
 refine go ?_;by_cases k1:B.fin.kind=1
 ·have k3:¬B.fin.kind=3:=by omega
  cases q with
  |false=>
   refine go ?_;refine VV ?_;refine gr ?_;exact fh.out (fun e'=>have e:=hE.out.1 e';absurd e.1 Bool.noConfusion) cX
  |true=>
   by_cases ct:B.fin.to=0
   ·have F7:¬B.fin.to≠0:=fun h=>h ct;refine go ?_;refine VV ?_;refine gr ?_;exact fh.out (fun e'=>have e:=hE.out.1 e';(e.2.2.1 (.inl k1)).1 ct) cX
   ·have F7:B.fin.to≠0:=ct;refine go ?_;rw[QY ct];refine gr ?_;exact fW.out (hE.out.2 ⟨rfl,fun h=>absurd h k2,fun _=>⟨ct,.inl k1⟩,fun h=>absurd h k3⟩) cX
 refine go ?_;by_cases k3:B.fin.kind=3
 ·cases q with
  |false=>
   refine go ?_;refine VV ?_;refine gr ?_;exact fh.out (fun e'=>have e:=hE.out.1 e';absurd e.1 Bool.noConfusion) cX
  |true=>
   have O7:(ZB ks (yI B.fin)).length=1:=by rw[tL];unfold yI;rw[QF (.inr k3)];rfl
   obtain⟨⟨O8,O9,Pa,Pb,om,Dd,De,Df⟩,gS,gT,mi⟩:=id M8;obtain⟨Pc,⟨vbf,rfl,sbf,Pe⟩,Pf,Pg⟩:=zP (i:=f.toNat) gT (by omega);have Ph:=(Pf _ (Ext.refl _)).1;obtain⟨Ap,⟨wu,rfl,sat,mH⟩,nY,mI⟩:=yM (i:=(F.getD f.toNat default).sig.toNat) gS (by omega);by_cases ct:(ZB ks (yI B.fin)).getD 0 0=(T.getD (F.getD f.toNat default).sig.toNat default).elem
   ·have cd:=Qc ct;refine gr ?_;exact fW.out (hE.out.2 ⟨rfl,fun h=>absurd h k2,fun h=>absurd h (by omega),fun _=>ct⟩) cX
   ·have cd:=QY ct;refine go ?_;refine VV ?_;refine gr ?_;exact fh.out (fun e'=>have e:=hE.out.1 e';absurd (e.2.2.2 k3) ct) cX
 cases q with
 |false=>
  refine go ?_;refine VV ?_;refine gr ?_;exact fh.out (fun e'=>have e:=hE.out.1 e';absurd e.1 Bool.noConfusion) cX
 |true=>
  refine gr ?_;exact fW.out (hE.out.2 ⟨rfl,fun h=>absurd h k2,fun h=>absurd h (by omega),fun h=>absurd h k3⟩) cX
end
end Go.Proofs.YtmejfcakhpihlaaGreatDoor
set_option maxRecDepth 100000
namespace Go.Proofs.YtmejfcakhpihlaaGreatDoor
open Go.Am
section
variable {vt vf:Value}{T:List WE}{F:List Wa}{f:Int}{ks:List Int}{ps:List (Int×Int)}{xs:List Int}{g:Nat}{nx:Int->List Int}{L:List Wc}
theorem zLK(h:WA)(b:Int)(M:BJ h g vt vf T F f ks ps (YU xs L.length))(G:Gr F f nx xs ps L)(E:Env h vt vf T F)(hc:yS T=0)(wz:∀ t∈ks,W7 T t)(hF:∀ f∈F,W7 T f.sig)
  (bH:0<=(F.getD f.toNat default).sig/\(F.getD f.toNat default).sig<(T.length:Int)) (hlen:ks.length=ps.length) (U:∀ B∈L,BlkU B ks.length L.length) (V:∀ B∈L,∀ x∈B.ins,InsT T F x) (hb:0<=b/\b<(L.length:Int)) (dG:(L.getD b.toNat default).ins.length<=1000):
  WC Tryz.prog tb 77 [.pointer (some ⟨g,0,none⟩),I b] h fun q h'=>(q=.nilIface/\(∀ i,i<(L.getD b.toNat default).ins.length->YO T F ks ps nx L (Yc T F f b).1 b i)/\YS T F f ks ps nx L b\/q=Bz f b/\¬((∀ i,i<(L.getD b.toNat default).ins.length->YO T F ks ps nx L (Yc T F f b).1 b i)/\YS T F f ks ps nx L b))/\Ext h h':=by
 have aQ:=hb;have K3:L.getD b.toNat default∈L:=zE (by omega);have UB:=U _ K3;have VB:=V _ K3;have hG:=G.hf;have F6:=G.hL;refine en ?_;refine VC 1 rfl rfl ?_;have ea:=zH 1 h;obtain⟨⟨hB,vk,vp,vr,o,a,b',c⟩,st,sf,hm⟩:=M.aside 1;obtain⟨cs,⟨vb,rfl,sb,cD⟩,pc,eg⟩:=zP (i:=f.toNat) M.sf (by omega);have eJ:=(pc _ ea).2;rw[F6]at sb;have fj:=Wv.ext sb ea;have fj:Wv (inC (zB 1 h)) vb L:=fj;obtain⟨iy,⟨vi,rfl,si,fc⟩,ri,pS⟩:=zP (i:=b.toNat) sb (by omega);have nW:=(ri _ ea).2;obtain⟨ia,iN,ik,rfl⟩:=zD si;refine WJ ?_;refine V3 (X:=inC (zB 1 h)) (Ext.refl _) E.hm ?_;intro h1 p5 e1 o5;have K4:BB h1 _ (L.getD b.toNat default).ins:=BB.ext si e1;have M1:=M.ext e1;have E1:=E.ext e1;clear o a b' c st sf hm sb fj si eJ nW pc ri eg pS ea;refine go ?_;refine VC 0 rfl rfl ?_;obtain⟨⟨KT,tI,KU,KV,o,a,b',c⟩,st,sf,hm⟩:=M1.aside 0;refine WJ ?_;refine VA (zNi _ vt vf T F f b E1.tt (QE _) E1.sm E1.st E1.sf) ?_;rintro _ X2 ⟨⟨vq,rfl,K5⟩,e2⟩;refine nE e2 ?_;have Aq:Ext h1 (outC h1 X2):=(zH 0 h1).trans (zZ (h:=h1) e2);have iJ:Ext h1 (outC h1 (inC X2)):=Aq;refine WJ ?_;have oq:WL h1 (outC h1 (inC X2)) vq (Yc T F f b).1:=K5;generalize(Yc T F f b).2=eq at *;generalize outC h1 (inC X2)=h2 at *;generalize hP:(Yc T F f b).1=P at *;clear o a b' c st sf hm K5 e2 Aq;have M2:=M1.ext iJ;have o5:=o5.ext iJ;have Pj:=BB.ext K4 iJ;have bj:=e1.trans iJ;obtain⟨⟨hB2,vk2,vp2,vr2,om,Dd,De,Df⟩,Pk,Pm,Pn⟩:=id M2;refine go ?_;refine WO.al ?_;intro p8 h3 e3 o8;refine go ?_;refine VH (cs:=[I f,I b,I 120]) o8 e3 ?_;intro h4 e4 o8 u8;have bz:=bj.trans e4;have M4:=M2.ext e4;have o5:=o5.ext e4;have F8:=BB.ext Pj e4;have Po:=oq.ext e4;clear Dd De Df Pk Pm Pn om M1 K4 E1;have E4:=E.ext bz;generalize Dc:L.getD b.toNat default=B at *;refine go ?_;refine VD (fun i=>B.ins.length-i) (fun i t h1=>Ext h4 h1/\zC t 53=I i/\i<=B.ins.length/\(∃ fl,zC t 9=.bool fl/\WK (fl=true↔∀ j,j<i->(B.ins.getD j default).op=22))/\WK (∀ j,j<i->YO T F ks ps nx L P b j)) 0 ?_ ?_
 ·exact⟨Ext.refl _,WH,QK _,⟨true,WH,⟨by simp⟩⟩,⟨fun j hj=>absurd hj (Qk _)⟩⟩
 rintro i t h5 ab ⟨e5,s53,hi,⟨fl,s9,cG⟩,hI⟩;have M5:=M4.ext e5;have Dg:=o5.ext e5;have K6:=o8.ext e5;have F9:=BB.ext F8 e5;have Pp:=Po.ext e5;have E5:=E4.ext e5;have cq:=bz.trans e5;refine go ?_;refine VE (fun hb=> ?_) (fun hb=> ?_)<;>simp only[DB]at hb
 ·have ae:i<B.ins.length:=by omega
  obtain⟨cs,hR,pU,Dh⟩:=zNv F9 ae;have kJ:B.ins.getD i default∈B.ins:=zE ae;generalize hx:B.ins.getD i default=x at *;have a8:YO T F ks ps nx L P b i↔zAE T F ks ps nx L P b i (∀ j,j<i->(B.ins.getD j default).op=22) x:=by unfold YO;rw[Dc,hx]
  have ux:=UB.ins x kJ;have vx:=VB x kJ;have Pq:=(pU h5 (Ext.refl _)).1;obtain⟨xa,xf,rfl,cr,cz,br,dZ,ho⟩:=id hR;obtain⟨k7,k9,ld,rfl⟩:=Wi.shape cr;obtain⟨mJ,mK,mL,rfl⟩:=Wi.shape cz;refine go ?_;refine WO.al ?_;intro p11 h6 e6 jD;refine go ?_;refine VH (cs:=[.int .u8 x.op,I x.ty,I x.a,I x.b,I x.n,.slice k7 k9 ld,.slice mJ mK mL]) jD e6 ?_;intro h7 e7 jD u7;have Pr:=hR.ext e7;have E7:=E5.ext e7;refine go ?_;refine VA (zN9 h7 x _ Pr E7.tt ux.args) ?_;rintro vu h8 ⟨ou,e8⟩;have Ar:=e7.trans e8;refine go ?_;refine VA (zMx h8 vu (zt x) (M5.ext Ar) ou.sl (by have:=zDa ux;omega) (fun r hr=>ux.uses r hr)) ?_;rintro vl h9 ⟨ol,e9⟩;have tM:=Ar.trans e9;have nZ:=cq.trans tM;have bad:∀ {h'},¬YO T F ks ps nx L P b i->Ext h h'->(Bz f b=.nilIface/\(∀ i,i<B.ins.length->YO T F ks ps nx L P b i)/\YS T F f ks ps nx L b\/Bz f b=Bz f b/\¬((∀ i,i<B.ins.length->YO T F ks ps nx L P b i)/\YS T F f ks ps nx L b))/\Ext h h':=fun hn e=>⟨.inr ⟨rfl,fun⟨a,_⟩=>hn (a i ae)⟩,e⟩;have bad:=WK.mk @bad;have a8:=WK.mk a8;have M9:=M5.ext tM;have K2:=K6.ext tM;have Ha:=jD.ext (e8.trans e9);have hlu:=zDa ux;have Ps:=ou.sl.ext e9;have ir:(ZB ks (zt x)).length=(zt x).length:=by unfold ZB;simp
  have dT:∀ t∈ZB ks (zt x),W7 T t:=fun t ht=>by
   obtain⟨r,hr,rfl⟩:=Qw.1 ht;have:=ux.uses r hr;exact wz _ (zM (by omega))
  replace ol:WL h8 h9 vl (ZB ks (zt x)):=ol;have R9:=hR.ext tM;refine go ?_;refine VA (zAW h9 vl (ZB ks (zt x)) (-1) ol.sl (by omega)) ?_;rintro _ _ ⟨rfl,rfl⟩;by_cases c1:(-1:Int)∈ZB ks (zt x)
  ·rw[Qc c1];refine go ?_;refine VV ?_;refine gr ?_;exact bad.out (fun q=>(a8.out.1 q).1 c1) nZ
  rw[QY c1];refine go ?_;refine VA (zL1 h9 x _ vl (ZB ks (zt x)) M9 hc R9 ol.sl (by omega) dT vx.ty hF vx.n14 vx.n2 (fun e=>by have:=vx.l1 e;omega) (fun e=>by have:=vx.l2 e;omega)) ?_;rintro _ gV ⟨rfl,bJ⟩;have pV:=nZ.trans bJ;have tN:=K2.ext bJ;have K7:=Ha.ext bJ;cases c2:yD T F x (ZB ks (zt x))with
  |false=>
   refine go ?_;refine VV ?_;refine gr ?_;exact bad.out (fun q=>absurd ((a8.out.1 q).2.1.symm.trans c2) Bool.noConfusion) pV
  |true=>
  have K8:=M9.ext bJ;have Hb:=Pp.ext (tM.trans bJ);have Pt:=R9.ext bJ;refine go ?_;by_cases c3:x.op=22
  ·cases fl with
   |false=>
    refine go ?_;refine VV ?_;refine gr ?_;exact bad.out (fun q=>absurd (cG.out.2 ((a8.out.1 q).2.2.1 c3).1) Bool.noConfusion) pV
   |true=>
    refine go ?_;have K9:=ux.KQ c3;refine VA (zOb gV x _ _ P K8 G Pt Hb.sl (fun j hj=>K9.2.2 _ (zM hj)) (by omega) (fun j hj=>by have:=K9.2.1 _ (zM hj);omega)) ?_;rintro _ gH ⟨⟨bb,rfl,aC⟩,dI⟩;have jc:=pV.trans dI;have Hc:=tN.ext dI;cases bb with
    |false=>
     refine go ?_;refine VV ?_;refine gr ?_;exact bad.out (fun q=>absurd (aC.2 ((a8.out.1 q).2.2.1 c3).2) Bool.noConfusion) jc
    |true=>
     refine go ?_;refine zA (i+1) (by omega) ⟨e5.trans (tM.trans (bJ.trans dI)),Wn,by omega,⟨true,WH,⟨?_⟩⟩,⟨fun j hj=> ?_⟩⟩
     ·simp only[true_iff];intro j hj;by_cases e:j=i
      ·subst e;rw[hx];exact c3
      ·exact cG.out.1 rfl j (by omega)
     ·by_cases e:j=i
      ·subst e;exact a8.out.2 ⟨c1,c2,fun _=>⟨cG.out.1 rfl,aC.1 rfl⟩,fun h=>absurd c3 h⟩
      ·exact hI.out j (by omega)
  ·refine go ?_;have Hd:=Ps.ext bJ;refine VA (zGa gV vu (zt x) b i K8 G.r (G.way b aQ.1 aQ.2) (by have:=G.n;omega) G.inn Hd (by omega) (fun r hr=>by have:=ux.uses r hr;omega) G.pl) ?_;rintro _ gH ⟨⟨bb,rfl,aC⟩,dI⟩;have jc:=pV.trans dI;have Hc:=tN.ext dI;cases bb with
   |false=>
    refine go ?_;refine VV ?_;refine gr ?_;exact bad.out (fun q=>absurd (aC.2 ((a8.out.1 q).2.2.2 c3)) Bool.noConfusion) jc
   |true=>
    refine go ?_;refine zA (i+1) (by omega) ⟨e5.trans (tM.trans (bJ.trans dI)),Wn,by omega,⟨false,WH,⟨?_⟩⟩,⟨fun j hj=> ?_⟩⟩
    ·simp only[Qa,Gn];intro aF;have:=aF i (by omega);rw[hx]at this;exact c3 this
    ·by_cases e:j=i
     ·subst e;exact a8.out.2 ⟨c1,c2,fun h=>absurd h c3,fun _=>aC.1 rfl⟩
     ·exact hI.out j (by omega)
 ·have aK:i=B.ins.length:=by omega
  subst aK;obtain⟨⟨O8,O9,Pa,Pb,om,Dd,De,Df⟩,gS,gT,mi⟩:=id M5;refine go ?_;refine VA (zHT h5 B.fin) ?_;rintro ve h6 ⟨oe,e6⟩;refine go ?_;have K1:(yI B.fin).length<=1:=by unfold yI;split<;>simp
  refine VA (zMx h6 ve (yI B.fin) (M5.ext e6) oe.sl (by omega) UB.ends) ?_;rintro vl h7 ⟨ol,e7⟩;replace ol:WL h6 h7 vl (ZB ks (yI B.fin)):=ol;have rk:=e6.trans e7;have gZ:=cq.trans rk;have tL:(ZB ks (yI B.fin)).length=(yI B.fin).length:=by unfold ZB;simp
  have dT:∀ t∈ZB ks (yI B.fin),W7 T t:=fun t ht=>by
   obtain⟨r,hr,rfl⟩:=Qw.1 ht;have:=UB.ends r hr;exact wz _ (zM (by omega))
  have M7:=M5.ext rk;have Pu:=K6.ext rk;have La:=Dg.ext rk;have He:=BB.ext F9 rk;clear om Dd De Df gS gT mi;refine go ?_;refine VL (fun t h'=>Ext h7 h'/\∃ q,zC t 15=.bool q/\WK (q=true↔¬(-1:Int)∈ZB ks (yI B.fin)/\∀ r∈yI B.fin,zCX nx (ps.getD r.toNat default) b B.ins.length)) ?_ ?_
  ·refine VC 0 rfl rfl ?_;have ea:=zH 0 h7;have Pv:=VK (ol.sl.ext ea);have KK:=VI (La.ext ea);have Lb:=Up (BB.ext He ea);refine WJ ?_;refine VA (zAW _ vl _ (-1) Pv (by omega)) ?_;rintro _ _ ⟨rfl,rfl⟩;refine nQ ?_;by_cases c1:(-1:Int)∈ZB ks (yI B.fin)
   ·rw[Qc c1];refine WJ ?_;refine Zd zw ?_;refine WJ ?_;exact zK ⟨ea,false,WH,⟨by simp[c1]⟩⟩
   ·rw[QY c1];refine WJ ?_;refine VA (zHT _ B.fin) ?_;rintro Pw X8 ⟨Px,e8⟩;refine nE e8 ?_;have iD:=ea.trans (zZ (h:=h7) (X:=zB 0 h7) (Y:=X8) e8);refine WJ ?_;refine VA (zGa _ Pw (yI B.fin) b B.ins.length (VS (M7.ext iD)) G.r (G.way b aQ.1 aQ.2) (by have:=G.n;omega) G.inn (VK Px.sl) (by omega) (fun r hr=>by have:=UB.ends r hr;omega) G.pl) ?_;rintro _ X9 ⟨⟨bb,rfl,aC⟩,e9⟩;refine nE e9 ?_;have kf:=iD.trans (zZ (h:=h7) e9);refine WJ ?_;exact zK ⟨kf,bb,WH,⟨by rw[aC];simp[c1]⟩⟩
  rintro t8 h8 xI ⟨e8,q,Ag,hq⟩;refine Z3 ?_;exact zJl (xs:=xs) h h8 _ _ t8 b B P p5 p8 vl _ q (gZ.trans e8) (M7.ext e8) hG Dc bH dT tL K1 (La.ext e8) (Pu.ext e8) (ol.sl.ext e8) (by exact Yq) (by exact Yq) (by exact Yq) (by exact Yq) (by exact Yq) Ag hI hq
end
end Go.Proofs.YtmejfcakhpihlaaGreatDoor
set_option maxRecDepth 100000
namespace Go.Proofs.YtmejfcakhpihlaaGreatDoor
open Go.Am
theorem zC9(h h':WA)(cs:List Value)(a:Int×Int)(r:RPl h cs a):RPl h' cs a:=r
structure FO(hB h:WA)(p:Value)(vt vf:Value)(f:Int)(ks:List Int)(ps:List (Int×Int))(rs:List Int)(vk vp vr:Value):Prop where
 own:WB hB h p [vt,vf,I f,vk,vp,vr]
 k:WL hB h vk ks
 q:OwnR 2 RPl hB.n h vp ps
 r:WL hB h vr rs
 kp:WU vk vp
 kr:WU vk vr
 pr:WU vp vr
 ok:WU p vk
 op:WU p vp
 or:WU p vr
 s:(∃ a n k,vk=.slice a n k)/\(∃ a n k,vp=.slice a n k)/\(∃ a n k,vr=.slice a n k)
section
variable {hB h h' h2:WA}{p vt vf:Value}{f:Int}{ks:List Int}{ps:List (Int×Int)}{rs:List Int}{vk vp vr v':Value}
theorem FO.ext(F:FO hB h p vt vf f ks ps rs vk vp vr)(e:Ext h h'):FO hB h' p vt vf f ks ps rs vk vp vr:=⟨F.own.ext e,F.k.ext e,F.q.ext e,F.r.ext e,F.kp,F.kr,F.pr,F.ok,F.op,F.or,F.s⟩
theorem FO.putK{wA:List Int}(F:FO hB h p vt vf f ks ps rs vk vp vr)(u:Bh vk h h')(hn:hB.n<=h.n)(o:Wq h h' v' wA)(oc:WB hB h2 p [vt,vf,I f,v',vp,vr])(u2:Wm p h' h2):FO hB h2 p vt vf f wA ps rs v' vp vr:=by
 have hs:zBI h v':=(WL.since' (.inr o));have u1:=u.upB;have u2:=u2.upB;have o1:=VG hs F.own.within;have o2:=VG hs F.q.within;have o3:=VG hs F.r.within;have ob:WL hB h' v' wA:= .inr (let⟨g,a,b⟩:=o;⟨g,QP hn a,b⟩);exact⟨oc,ob.upB u2 o1.symm,(F.q.upB zC9 u1 F.kp).upB zC9 u2 F.op,(F.r.upB u1 F.kr).upB u2 F.or,o2,o3,F.pr,o1.symm,F.op,F.or,⟨Wi.shape ob.sl,F.s.2⟩⟩
theorem FO.putP{Lc:List (Int×Int)}(F:FO hB h p vt vf f ks ps rs vk vp vr)(u:UpB vp h h')(hs:zBI h v')(eg:∃ a n k,v'=.slice a n k)(o:OwnR 2 RPl hB.n h' v' Lc)(oc:WB hB h2 p [vt,vf,I f,vk,v',vr])(u2:Wm p h' h2):FO hB h2 p vt vf f ks Lc rs vk v' vr:=by
 have u2:=u2.upB;have o1:=VG hs F.own.within;have o2:=VG hs F.k.within;have o3:=VG hs F.r.within;exact⟨oc,(F.k.upB u F.kp.symm).upB u2 F.ok,o.upB zC9 u2 o1.symm,(F.r.upB u F.pr).upB u2 F.or,o2.symm,F.kr,o3,F.ok,o1.symm,F.or,⟨F.s.1,eg,F.s.2.2⟩⟩
end
theorem zNM{α:Type}{n i:Nat}{a d:α}(h:i<n):(List.replicate n a).getD i d=a:=by
 rw[QG,JG,QF h];rfl
theorem zPN{h:WA}{b g k:Nat}{x y:Int}(h1:b<=g)(h2:g<h.n)(hg:h.get g=some (.row (zo [I x,I y] k) true 0)):OwnR 2 RPl b h (.slice (some ⟨g,0,none⟩) k 2) (List.replicate k (x,y)):=by
 refine .inr ⟨g,zo [I x,I y] k,fun _=>False,h1,h2,by rw[G2],hg,by rw[yA,G2];rfl,id,fun _ h=>h.elim,fun i a ha hx _ _=> ?_⟩;rw[JG]at ha;split at ha;case isFalse=>cases ha
 rename_i hi;cases ha;show _=_;have h3:List.drop (i*2) (zo [I x,I y] k)=zo [I x,I y] (k-i):=zBo (z:=[I x,I y]);rw[h3,show k-i=(k-i-1)+1 by omega];rfl
theorem zD6{L:List Wc}(h:∀ b∈L,b.ins.length<=1000):∀ n,n<=L.length->(yr L n).length<=1000*n
 |0,_=>QK _
 |n+1,hn=>by
  have:=zD6 h n (by omega);have h2:=h _ (zE (l:=L) (i:=n) (by omega));show(yr L n++_).length<=_;rw[QM,Qi,G5];omega
theorem zES{L:List Wc}(h:∀ b∈L,b.ins.length<=1000):∀ n,n<=L.length->(ZK (L.take n)).length<=1000*n
 |0,_=>by simp[ZK]
 |n+1,hn=>by
  have:=zES h n (by omega);have h2:=h _ (zE (l:=L) (i:=n) (by omega));rw[zBR (by omega),QM,Qi];omega
theorem zI6{α:Type}[Inhabited α]{l:List α}{n:Nat}(h:n<l.length):l.take (n+1)=l.take n++[l.getD n default]:=by
 rw[Q1,QB h,QG,QB h];rfl
theorem zHb(h:WA)(op:Int)(tt:Br h)(h0:0<=op)(h1:op<=255):WC Tryz.prog tb 84 [.int .u8 op] h fun r h'=>r=.bool (zU op).2.2.2.2.2/\Ext h h':=by
 refine en ?_;refine VA (zNd h op tt h0 h1) ?_;rintro _ h2 ⟨rfl,e2⟩;refine gr ?_;exact⟨rfl,e2⟩
theorem zPL(h:WA)(vt vf:Value)(T:List WE)(F:List Wa)(f:Int)(E:Env h vt vf T F)(ha:YX T F f 0=0)(hf:0<=f/\f<(F.length:Int))(bH:0<=(F.getD f.toNat default).sig/\(F.getD f.toNat default).sig<(T.length:Int))(hL:(F.getD f.toNat default).blocks.length<=16):
  WC Tryz.prog tb 48 [.agg #[vt,vf],I f] h fun r h'=>(∃ g xs,r=.pointer (some ⟨g,0,none⟩)/\Rul (nxF T F f) xs/\
   BJ h' g vt vf T F f (zCR (T.getD (F.getD f.toNat default).sig.toNat default).parts (F.getD f.toNat default).blocks) (zEM (T.getD (F.getD f.toNat default).sig.toNat default).parts.length (F.getD f.toNat default).blocks) (YU xs (F.getD f.toNat default).blocks.length))/\Ext h h':=by
 have hI:=E.sm.ins _ (zE (l:=F) (i:=f.toNat) (by omega));have hP:=E.sm.parts _ (zE (l:=T) (i:=(F.getD f.toNat default).sig.toNat) (by omega));have hI:=WK.mk hI;refine en ?_;refine VF ?_;intro p0 h1 e1 o1;have E1:=E.ext e1;refine go ?_;refine VC 1 rfl rfl ?_;have ea:=zH 1 h1;have jd:=VI (o1.ext ea);obtain⟨cs,⟨vb,rfl,sb,cD⟩,pc,eg⟩:=zP (i:=f.toNat) E1.sf (by omega);have eJ:=(pc _ ea).2;obtain⟨Ap,⟨wu,rfl,sat,mH⟩,nY,mI⟩:=zP (i:=(F.getD f.toNat default).sig.toNat) E1.st (by omega);have mM:=(nY _ ea).2;have As:=VK (sat.ext ea);have hY:=Wu.ext E1.st ea;have lh:Wu (inC (zB 1 h1)) vt T:=hY;have hZ:=Wo.ext E1.sf ea;have dJ:Wo (inC (zB 1 h1)) vf F:=hZ;refine WJ ?_;refine VA (zHy _ wu _ As (by omega)) ?_;rintro vk X2 ⟨ok,e2⟩;obtain⟨k1,k2,k3,rfl⟩:=Wi.shape ok.sl;have aL:h1.n<X2.n:=e2.n;refine nE e2 ?_;refine WJ ?_;refine XY E1.hm ?_;intro X3 n3 g3;have e3:=zEN ((zH 1 h1).trans (zZ (h:=h1) e2)) n3 g3 (QE _) aL;have o5:WB h1 (outC h1 (inC X3)) (.pointer (some ⟨h1.n,0,none⟩)) [vt,vf,I f,(.slice k1 k2 k3),.slice none 0 0,.slice none 0 0]:=⟨h1.n,QE _,by show h1.n<X3.n;omega,rfl,by show X3.get _=_;rw[g3,QF rfl];rfl⟩;have Hf:WL h1 (outC h1 (inC X3)) (.slice k1 k2 k3) (T.getD (F.getD f.toNat default).sig.toNat default).parts:=by
  rcases ok with ok|⟨g,g1,g2,g4,g5⟩
  ·exact .inl ok
  ·have g1:h1.n+1<=g:=g1;exact .inr ⟨g,by omega,by show g<X3.n;omega,g4,by show X3.get g=_;rw[g3,QC (by omega)];exact g5⟩
 have f5:WU (.pointer (some ⟨h1.n,0,none⟩)) (.slice k1 k2 k3):=fun b hb hk=>by
  cases hb;have:=WL.since' ok _ hk;have:h1.n+1<=h1.n:=this;omega
 refine WJ ?_;have e4:Ext h1 (outC h1 (inC X3)):=e3;generalize outC h1 (inC X3)=h4 at *;clear g3 n3 e3 e2 ok aL X2;have E4:=E1.ext e4;have bz:=e1.trans e4;have rm:=o1.ext e4;refine go ?_;refine VA (zOc h4 vt vf T F f E4) ?_;rintro _ h5 ⟨⟨vr,rs,rfl,rn,JY,lS,_⟩,e5⟩;obtain⟨r1,r2,r3,rfl⟩:=Wi.shape rn.sl;obtain⟨xs,Hg,rfl⟩:=lS ha;have Dg:=o5.ext e5;have Di:=e4.trans e5;rw[ha];refine go ?_;refine VX (cs:=[.slice r1 r2 r3]) (j:=5) (hl:=by simp) Dg Di ?_;intro h6 e6 o6 u6;replace o6:WB h1 h6 (.pointer (some ⟨h1.n,0,none⟩)) [vt,vf,I f,.slice k1 k2 k3,.slice none 0 0,.slice r1 r2 r3]:=o6;have fr:=VG (WL.since' rn) o5.within;have Dj:=(Hf.ext e5).upB u6.upB f5;have Hh:=rn.upB u6.upB fr.symm;have Ld:=(VG (WL.since' rn) Hf.within).symm;refine go ?_;refine Uv (cs:=[I (-1),I (-1)]) ?_;intro h7 e7 n7 s7 _;have ok7:=Dj.ext e7;have o7:=o6.ext e7;refine go ?_;refine VA (zJk h7 _ (-1) (-1) (T.getD (F.getD f.toNat default).sig.toNat default).parts.length s7 (zp (e6.trans e7) E1.hm) (by omega)) ?_;rintro _ h8 ⟨⟨gp,pw,sT,rfl,qR⟩,e8⟩;have tO:=e7.trans e8;have fz:=e6.trans tO;have o8:=o6.ext tO;have n17:h1.n<=h7.n:=(e6.trans e7).n;have Lf:=zPN (b:=h1.n) (by omega) sT qR;have Lg:=Dj.ext tO;have Lh:=Hh.ext tO;have fq:zBI h7 (.slice (some ⟨gp,0,none⟩) (T.getD (F.getD f.toNat default).sig.toNat default).parts.length 2):=fun b hb=>by cases hb;exact pw
 have Hj:=VG fq (o6.ext e7).within;have Li:=VG fq (Dj.ext e7).within;have Lj:=VG fq (Hh.ext e7).within;refine go ?_;refine VX (cs:=[.slice (some ⟨gp,0,none⟩) (T.getD (F.getD f.toNat default).sig.toNat default).parts.length 2]) (j:=4) (hl:=by simp) o8 fz ?_;intro h9 e9 o9 u9;have n4:h1.n<=h4.n:=e4.n;have Py:FO h1 h9 (.pointer (some ⟨h1.n,0,none⟩)) vt vf f (T.getD (F.getD f.toNat default).sig.toNat default).parts (List.replicate (T.getD (F.getD f.toNat default).sig.toNat default).parts.length (-1,-1)) (YU xs (F.getD f.toNat default).blocks.length) (.slice k1 k2 k3) (.slice (some ⟨gp,0,none⟩) (T.getD (F.getD f.toNat default).sig.toNat default).parts.length 2) (.slice r1 r2 r3):=
  ⟨o9,Lg.upB u9.upB f5,Lf.upB zC9 u9.upB Hj.symm,(Lh.since e4).upB u9.upB fr.symm,Li.symm,Ld,Lj,f5,Hj.symm,fr.symm,⟨⟨_,_,_,rfl⟩,⟨_,_,_,rfl⟩,⟨_,_,_,rfl⟩⟩⟩
 have Dk:=o1.ext e9;have pc9:=(pc _ e9).1;have Lk:=Wv.ext sb e9;have sf9:=Wo.ext E1.sf e9;clear o9 u9 o8 Lf Lg Lh Hj Li Lj fq qR pw sT o7 ok7 s7 o6 Dj Hh u6 Dg rn Hf o5 E4 rm fr Ld f5 eJ mM As lh dJ hY hZ jd ea nY mI sat;have Hk:=hI.out;generalize hLd:(F.getD f.toNat default).blocks=L at *;generalize nL:(T.getD (F.getD f.toNat default).sig.toNat default).parts=par at *;refine go ?_;refine VD (fun i=>L.length-i) (fun i t h'=>Ext h1 h'/\zC t 54=I i/\i<=L.length/\∃ vk vp,FO h1 h' (.pointer (some ⟨h1.n,0,none⟩)) vt vf f (par++ZK (L.take i)) (List.replicate par.length (-1,-1)++yr L i) (YU xs L.length) vk vp (.slice r1 r2 r3)) 0 ?_ ?_
 ·exact⟨e9,WH,QK _,_,_,by simpa [ZK,yr]using Py⟩
 rintro i t gV ab ⟨bJ,s54,hi,vk,vp,wB⟩;refine go ?_;refine VE (fun hb=> ?_) (fun hb=> ?_)<;>simp only[DB]at hb;rotate_left 1
 ·have aK:i=L.length:=by omega
  subst aK;rw[Qg]at wB;refine gr ?_;exact⟨⟨h1.n,xs,rfl,Hg,⟨h1,_,_,_,wB.own,wB.k.sl,wB.q.sl,wB.r.sl⟩,Wu.ext E1.st bJ,Wo.ext E1.sf bJ,zp bJ E1.hm⟩,e1.trans bJ⟩
 have ae:i<L.length:=by omega
 obtain⟨Au,⟨vi,rfl,si,fc⟩,lj,kg⟩:=zP (i:=i) sb (by omega);have Ll:=(lj _ bJ).1;have Pz:=Wv.ext sb bJ;have dG:=Hk _ (zE ae);have pW:=zES Hk i (by omega);have bD:=zD6 Hk i (by omega);generalize Dl:L.getD i default=B at *;obtain⟨ia,iN,ik,rfl⟩:=zD si;refine go ?_;refine WO.al ?_;intro p7 gH dI o7;refine go ?_;refine VH (cs:=[.slice ia iN ik,.int .u8 B.fin.kind,I B.fin.a,I B.fin.to,I B.fin.aE]) o7 dI ?_;intro dB az o7 u7;have rq:=bJ.trans az;have PA:=BB.ext si rq;refine go ?_;refine VD (fun j=>B.ins.length-j) (fun j t h'=>Ext h1 h'/\zC t 62=I j/\j<=B.ins.length/\∃ vk vp,FO h1 h' (.pointer (some ⟨h1.n,0,none⟩)) vt vf f (par++ZK (L.take i)++(B.ins.take j).map Ys) (List.replicate par.length (-1,-1)++yr L i++(List.range j).map fun(a:Nat)=>((i:Int),(a:Int))) (YU xs L.length) vk vp (.slice r1 r2 r3)) 0 ?_ ?_
 ·exact⟨rq,WH,QK _,_,_,by simpa using wB.ext az⟩
 rintro j t C6 aZ ⟨dk,s62,hj,vk,vp,Aw⟩;refine go ?_;refine VE (fun hb=> ?_) (fun hb=> ?_)<;>simp only[DB]at hb;rotate_left 1
 ·have re:j=B.ins.length:=by omega
  subst re;refine go ?_;refine zA (i+1) (by omega) ⟨dk,Wn,by omega,vk,vp,?_⟩;rw[zBR ae,Dl,show yr L (i+1)=yr L i++(List.range B.ins.length).map fun(a:Nat)=>((i:Int),(a:Int)) by rw[<-Dl];rfl];rw[Qg,QT,QT]at Aw;exact Aw
 have fD:j<B.ins.length:=by omega
 obtain⟨Hl,hR,pU,Dh⟩:=zP (i:=j) si (by omega);have Lm:=(pU _ dk).1;have PB:=BB.ext si dk;have au:(B.ins.take (j+1)).map Ys=(B.ins.take j).map Ys++[Ys (B.ins.getD j default)]:=by rw[zI6 fD,Qx];rfl
 generalize Dp:B.ins.getD j default=x at *;obtain⟨xa,xf,rfl,cr,cz,br,dZ,ho⟩:=id hR;obtain⟨k7,k9,ld,rfl⟩:=Wi.shape cr;obtain⟨mJ,mK,mL,rfl⟩:=Wi.shape cz;refine go ?_;refine WO.al ?_;intro p9 kV bV o9;refine go ?_;refine VH (cs:=[.int .u8 x.op,I x.ty,I x.a,I x.b,I x.n,.slice k7 k9 ld,.slice mJ mK mL]) o9 bV ?_;intro pX er o9 u9;have Dq:=Aw.ext er;have ru:=dk.trans er;have Ax:=Dq.own;refine go ?_;refine UO (a:=((i:Int),(j:Int))) (Dn:=fun _=>False) Dq.q ru (QE _) ru.n (by decide) (by simp only[QM,G2,Qi,G5];omega) (fun hx _ _=>rfl) (fun _ h=>h.elim) (fun _ _ _ _ h=>h) ?_;intro v8 tw lit gG Hm od KY Ay;have Hn:zBI pX v8:=fun b hb=>by obtain⟨n,k,g,rfl,hg⟩:=Ay;cases hb;exact hg
 have Ho:∃ a n k,v8=.slice a n k:=let⟨n,k,g,e,_⟩:=Ay;⟨_,n,k,e⟩;have tP:=zPk od KY;have Az:=Ax.upB tP Dq.op.symm;have AA:=o9.upB tP (VG o9.since' Aw.q.within).symm;obtain⟨w1,w2,w3,rfl⟩:=Ho;refine go ?_;refine VX (cs:=[.slice w1 w2 w3]) (j:=4) (hl:=by simp) Az gG ?_;intro Hp et mN Hq;replace mN:WB h1 Hp (.pointer (some ⟨h1.n,0,none⟩)) [vt,vf,I f,vk,.slice w1 w2 w3,.slice r1 r2 r3]:=mN;have PC:=Dq.putP tP Hn ⟨_,_,_,rfl⟩ Hm mN Hq;have AB:=AA.upB Hq.upB (VG o9.since' Aw.own.within).symm;refine go ?_;refine VA (zHb Hp x.op (E1.ext et).tt ho.1 ho.2) ?_;rintro _ PD ⟨rfl,fz⟩;have tQ:=PC.ext fz;have rv:=tQ.own;have Ln:=AB.ext fz;have jF:=et.trans fz;have hk:Ys x=if(zU x.op).2.2.2.2.2 then x.ty else -1:=rfl;have AD:=tQ.k;obtain⟨⟨q1,q2,q3,rfl⟩,_⟩:=tQ.s;cases aI:(zU x.op).2.2.2.2.2 with
 |true=>
  have dj:Ys x=x.ty:=by rw[hk,aI];rfl
  refine go ?_;refine WO.bl [x.ty] ?_;intro PE Lo ib tU;refine go ?_;refine V8 (AD.ext ib) tU.sl (jF.trans ib) (by simp) (by simp only[QM,Qi,Qn,QV];omega) ?_;intro v20 ES Hr mO AE;have mP:=(rv.ext ib).upB AE.upB tQ.ok.symm;obtain⟨y1,y2,y3,rfl⟩:=Wi.shape mO.sl;refine go ?_;refine VX (cs:=[.slice y1 y2 y3]) (j:=3) (hl:=by simp) mP Hr ?_;intro CT Hs fm Ht;replace fm:WB h1 CT (.pointer (some ⟨h1.n,0,none⟩)) [vt,vf,I f,.slice y1 y2 y3,.slice w1 w2 w3,.slice r1 r2 r3]:=fm;have Hu:=(tQ.ext ib).putK AE (jF.trans ib).n mO fm Ht;refine go ?_;refine zA (j+1) (by omega) ⟨Hs,Wn,by omega,.slice y1 y2 y3,.slice w1 w2 w3,?_⟩;rw[au,dj,G3,Qx,<-QT,<-QT];exact Hu
 |false=>
  have dj:Ys x= -1:=by rw[hk,aI];rfl
  refine go ?_;refine WO.bl [-1] ?_;intro PE Lo ib tU;refine go ?_;refine V8 (AD.ext ib) tU.sl (jF.trans ib) (by simp) (by simp only[QM,Qi,Qn,QV];omega) ?_;intro v20 ES Hr mO AE;have mP:=(rv.ext ib).upB AE.upB tQ.ok.symm;obtain⟨y1,y2,y3,rfl⟩:=Wi.shape mO.sl;refine go ?_;refine VX (cs:=[.slice y1 y2 y3]) (j:=3) (hl:=by simp) mP Hr ?_;intro CT Hs fm Ht;replace fm:WB h1 CT (.pointer (some ⟨h1.n,0,none⟩)) [vt,vf,I f,.slice y1 y2 y3,.slice w1 w2 w3,.slice r1 r2 r3]:=fm;have Hu:=(tQ.ext ib).putK AE (jF.trans ib).n mO fm Ht;refine go ?_;refine zA (j+1) (by omega) ⟨Hs,Wn,by omega,.slice y1 y2 y3,.slice w1 w2 w3,?_⟩;rw[au,dj,G3,Qx,<-QT,<-QT];exact Hu
theorem zFV{O:List Int}{n:Nat}(h:O.Nodup)(hr:∀ c∈O,0<=c/\c<(n:Int)):O.length<=n:=by
 have hs:O ⊆ (List.range n).map fun(i:Nat)=>(i:Int):=fun c hc=>by
  have:=hr c hc;exact Qw.2 ⟨c.toNat,GV.2 (by omega),by omega⟩
 have:=h.length_le_of_subset hs;simpa using this
theorem zK1(n:Nat):((List.range n).map fun(i:Nat)=>(i:Int)).Nodup:=by
 exact List.Pairwise.map (R:=(·≠·)) (S:=(·≠·)) (fun(i:Nat)=>(i:Int)) (fun a b aq (e:(a:Int)=b)=>aq (by omega)) List.nodup_range
theorem zF8{T:List WE}{F:List Wa}{f:Int}(h:(zG T F f 0).2=0):(yX T F f).1.length=(zG T F f 0).1.length↔∀ c,0<=c->c<((zG T F f 0).1.length:Int)->Wl (Wr (zG T F f 0).1) 0 c:=by
 obtain⟨h1,_,_,h4,_,h6,_⟩:=zAt h;have hnd:=zDq h;have hle:=zFV hnd h6;rw[<-h1];constructor
 ·intro he c c0 c1;refine(Z2 h).1 (Gi fun hc=> ?_);have PF:c∉(ze T F f).1:=fun hm=>hc (by
   unfold ze at hm;unfold yX;rw[QC (fun e=>e h)]at hm |-;exact zDU.2 (List.mem_reverse.1 hm))
  have:=zFV (O:=c::(ze T F f).1) (n:=(zG T F f 0).1.length) (List.nodup_cons.2 ⟨PF,hnd⟩) (fun d hd=>by
   rcases GG.1 hd with rfl|hd
   ·exact⟨c0,c1⟩
   ·exact h6 d hd)
  rw[GF]at this;omega
 ·intro hw;have hs:((List.range (zG T F f 0).1.length).map fun(i:Nat)=>(i:Int)) ⊆ (ze T F f).1:=fun c hc=>by
   obtain⟨i,hi,rfl⟩:=Qw.1 hc;exact h4 _ ((Z2 h).2 (hw _ (by omega) (by have:=GV.1 hi;omega)))
  have:=(zK1 _).length_le_of_subset hs;simp at this;omega
def zF(F:List Wa)(f:Int):List Wc:=(F.getD f.toNat default).blocks
def zj(T:List WE)(F:List Wa)(f:Int):WE:=T.getD (F.getD f.toNat default).sig.toNat default
def W6(T:List WE)(F:List Wa)(f:Int):List Int:=zCR (zj T F f).parts (zF F f)
def Bv(T:List WE)(F:List Wa)(f:Int):List (Int×Int):=zEM (zj T F f).parts.length (zF F f)
theorem zOy{T:List WE}{t:Int}(h:W7 T t):zBV T t=true↔PlT T t:=by
 unfold zBV Ww PlT;rcases h with rfl|⟨h0,h1⟩
 ·simp
 ·have:t≠ -1:=by omega
  simp[this,h0,h1,or_assoc]
def zD0(T:List WE)(F:List Wa)(f b:Int):Prop:=
 (∀ i,i<((zF F f).getD b.toNat default).ins.length->YO T F (W6 T F f) (Bv T F f) (Wr (zF F f)) (zF F f) (zW (zF F f) b (zF F f).length) b i)/\YS T F f (W6 T F f) (Bv T F f) (Wr (zF F f)) (zF F f) b
def zHl(T:List WE)(F:List Wa)(f:Int):Prop:=
 (∀ c,0<=c->c<((zF F f).length:Int)->Wl (Wr (zF F f)) 0 c)/\(f=0->(zj T F f).parts=[]/\Ww T 1 (zj T F f).elem=true)/\∀ b,0<=b->b<((zF F f).length:Int)->zD0 T F f b
def WfP(T:List WE)(F:List Wa):Prop:=∀ f,0<=f->f<(F.length:Int)->zHl T F f
theorem zDT(L:List Wc):∀ n,n<=L.length->(ZK (L.take n)).length=(yr L n).length
 |0,_=>by simp[ZK,yr]
 |n+1,hn=>by
  rw[zBR (by omega),QM,zDT L n (by omega)];show _=(yr L n++_).length;rw[QM,Qi,Qi,G5]
theorem zE3(L:List Wc):((ZK L).length:Int)=zJ L:=by
 unfold ZK zJ;induction L with
 |nil=>rfl
 |cons b L ih=>rw[List.flatMap_cons,QM,Qm,JE,Qi,<-ih];omega
theorem zGL{L:List Wc}:∀ n,∀ p∈yr L n,(0<=p.1/\p.1<(n:Int))/\0<=p.2/\p.2<((L.getD p.1.toNat default).ins.length:Int)
 |0,p,hp=>by cases hp
 |n+1,p,hp=>by
  have hp:p∈yr L n++(List.range (L.getD n default).ins.length).map fun(i:Nat)=>((n:Int),(i:Int)):=hp;rcases Qs.1 hp with hp|hp
  ·have:=zGL n p hp;omega
  ·obtain⟨i,hi,rfl⟩:=Qw.1 hp;have:=GV.1 hi;exact⟨⟨by show(0:Int)<=(n:Int);omega,by show(n:Int)<_;omega⟩,by show(0:Int)<=(i:Int);omega,by show(i:Int)<((L.getD (n:Int).toNat default).ins.length:Int);rw[QL];omega⟩
structure FnIn(T:List WE)(F:List Wa)(f:Int):Prop where
 hf:0<=f/\f<(F.length:Int)
 hc:yS T=0
 bl:∀ b,0<=b->b<((zF F f).length:Int)->zG T F f b=(zF F f,0)
 n1:1<=(zF F f).length
 od:(zF F f).length<=16
 many:zJ (zF F f)<=128
 sig:0<=(F.getD f.toNat default).sig/\(F.getD f.toNat default).sig<(T.length:Int)
 sigF:∀ g∈F,W7 T g.sig
 ks:∀ t∈W6 T F f,W7 T t
 par:∀ t∈(zj T F f).parts,PlT T t
 el:PlT T (zj T F f).elem
 par4:(zj T F f).parts.length<=4
 len:(W6 T F f).length=(Bv T F f).length
 reg:((W6 T F f).length:Int)=B1 ((zj T F f).parts.length:Int) (zF F f)
 U:∀ B∈zF F f,BlkU B (W6 T F f).length (zF F f).length
 V:∀ B∈zF F f,∀ x∈B.ins,InsT T F x
 pl:∀ i,i<(Bv T F f).length->((Bv T F f).getD i default).1= -1\/0<=((Bv T F f).getD i default).1
 nx:∀ c,0<=c/\c<((zF F f).length:Int)->∀ d∈Wr (zF F f) c,0<=d/\d<((zF F f).length:Int)
theorem zBL{T:List WE}{F:List Wa}{f:Int}(h:ZE T F=0)(hf:0<=f/\f<(F.length:Int)):FnIn T F f:=by
 obtain⟨hc,lN,ig,hfn⟩:=yN h;have hm:=zE (l:=F) (i:=f.toNat) (by omega);have ij:=hfn _ hm;have hlen:=zQP ij;have dC:=zEX ij;have cO:yL T F f=(((zj T F f).parts.length:Int),0):=by
  unfold yL;rw[QC (fun e=>e h),QF (by unfold zd;simp;omega)];rfl
 have j8:(Y9 T F f).2=0:=by unfold Y9;rw[cO];rfl
 have jG:∀ b,0<=b->b<((zF F f).length:Int)->zG T F f b=(zF F f,0):=fun b b0 b1=>by
  unfold zG;rw[QC (fun e=>e j8),QC (by unfold zF at b1;omega)];rfl
 have Hv:=zBl hc dC.1 dC.2;have cg:(zj T F f).kind=3:=by
  unfold BW at ij;split at ij
  ·cases ij
  ·rename_i hb;unfold B6 at hb;simp only[GN,Gj,Ge,not_or,Bool.not_eq_false,Gk,Decidable.not_not]at hb;exact hb.1.1.2
 have pY:zDG T (zj T F f):=by
  have PG:(T.getD (F.getD f.toNat default).sig.toNat default).kind=3:=cg;rcases Hv with⟨k,_⟩|⟨k,_⟩|⟨_,k⟩|⟨k,_⟩|⟨k,_⟩
  ·omega
  ·omega
  ·exact k
  ·omega
  ·omega
 have hV:∀ B∈zF F f,∀ x∈B.ins,InsT T F x:=fun B hB x hx=>by
  refine zQz (f:=F.getD f.toNat default) (by omega) ?_;have h0:BW T F.length (F.getD f.toNat default)=true:=ij;unfold BW at h0;split at h0
  ·cases h0
  ·have h0:((F.getD f.toNat default).blocks.any fun b=>Yv b (B0 T F.length (F.getD f.toNat default)))=false:=by simpa using h0
   have hb:=Gx.1 h0 B hB;have hb:Yv B (B0 T F.length (F.getD f.toNat default))=false:=by simpa using hb
   unfold Yv at hb;rw[Bool.or_eq_false_iff]at hb;have:=Gx.1 hb.1 x hx;simpa using this
 have Lp:((W6 T F f).length:Int)=B1 ((zj T F f).parts.length:Int) (zF F f):=by
  unfold W6 zCR B1;rw[QM,<-zE3];omega
 have pW:(W6 T F f).length=(Bv T F f).length:=by
  unfold W6 Bv zCR zEM;rw[QM,QM,G2,<-zDT _ _ (QE _),Qg]
 refine⟨hf,hc,jG,hlen.1,hlen.2.1,hlen.2.2,dC,fun g hg=> .inr (zEX (hfn g hg)),?_,pY.1,pY.2.1,pY.2.2.1,pW,Lp,?_,hV,?_,?_⟩
 ·intro t ht;rcases Qs.1 ht with ht|ht
  ·have:=pY.1 t ht;exact .inr ⟨this.1,this.2.1⟩
  ·obtain⟨B,hB,ht⟩:=List.mem_flatMap.1 ht;obtain⟨x,hx,rfl⟩:=Qw.1 ht;unfold Ys;split
   ·exact(hV B hB x hx).ty
   ·exact .inl rfl
 ·intro B hB;rw[Lp];exact zRY ij B hB
 ·intro i hi;have hp:=zE (l:=Bv T F f) hi;rcases Qs.1 hp with hp|hp
  ·rw[(List.mem_replicate.1 hp).2];exact .inl rfl
  ·exact .inr (zGL _ _ hp).1.1
 ·intro c fZ d hd;have hU:=zRY ij _ (zE (l:=zF F f) (i:=c.toNat) (by omega));exact hU.next d hd
end Go.Proofs.YtmejfcakhpihlaaGreatDoor
set_option maxRecDepth 100000
namespace Go.Proofs.YtmejfcakhpihlaaGreatDoor
open Go.Am
theorem zHC(h:WA)(vt vf:Value)(T:List WE)(F:List Wa)(f:Int)(E:Env h vt vf T F)(hp:ZE T F=0)(hf:0<=f/\f<(F.length:Int)):
  WC Tryz.prog tb 38 [.agg #[vt,vf],I f] h fun r h'=>(r=.nilIface/\zHl T F f\/(∃ b,r=Bz f b)/\¬zHl T F f)/\Ext h h':=by
 have Z:=zBL hp hf;have aQ:=Z.bl 0 (Ql 0) (by have:=Z.n1;omega);have iV:(zG T F f 0).2=0:=by rw[aQ]
 have ha:YX T F f 0=0:=by
  unfold YX;rw[QC (fun e=>e iV),QC (by rw[aQ];have:=Z.n1;show ¬(_\/((zF F f).length:Int)<=0);omega),QF ((Z2 iV).2 (by rw[aQ];exact Wl.here))]
 have jy:=zF8 iV;have iM:(yX T F f).2=0:=by rw[zGP];exact iV
 have kh:=Z.od;have ju:=Z.n1;have dC:=Z.sig;have ew:=Z.par4;have fe:nxF T F f=Wr (zF F f):=by unfold nxF;rw[aQ]
 rw[aQ]at jy;replace jy:(yX T F f).1.length=(zF F f).length↔∀ c,0<=c->c<((zF F f).length:Int)->Wl (Wr (zF F f)) 0 c:=jy;refine en ?_;refine VF ?_;intro p2 h1 e1 o1;replace o1:WB h h1 p2 [vt,vf]:=o1;have E1:=E.ext e1;refine go ?_;refine VA (zPL h1 vt vf T F f E1 ha hf Z.sig kh) ?_;rintro _ h2 ⟨⟨g,xs,rfl,hR,M⟩,e2⟩;rw[fe]at hR;have E2:=E1.ext e2;have o2:=o1.ext e2;refine go ?_;refine VA (zIP h2 vt vf T F f E2.tt E2.hm E2.sm E2.st E2.sf) ?_;rintro _ h3 ⟨⟨vr,rfl,rn⟩,e3⟩;rw[iM];have E3:=E2.ext e3;have o3:=o2.ext e3;have M3:=M.ext e3;refine go ?_;refine VC 1 rfl rfl ?_;have ea:=zH 1 h3;have Hw:=VI (o3.ext ea);obtain⟨cs,⟨vb,rfl,sb,cD⟩,pc,eg⟩:=zP (i:=f.toNat) E3.sf (by omega);have eJ:=(pc _ ea).2;obtain⟨Ap,⟨wu,rfl,sat,mH⟩,nY,mI⟩:=zP (i:=(F.getD f.toNat default).sig.toNat) E3.st (by omega);have mM:=(nY _ ea).2;have hY:=Wu.ext E3.st ea;have lh:Wu (inC (zB 1 h3)) vt T:=hY;have hZ:=Wo.ext E3.sf ea;have dJ:Wo (inC (zB 1 h3)) vf F:=hZ;obtain⟨tV,tW,wC,rfl⟩:=Wi.shape sat;refine WJ ?_;refine V3 (X:=inC (zB 1 h3)) (cs:=[.int .u8 (zj T F f).kind,I (zj T F f).elem,I (zj T F f).many,.slice tV tW wC]) (Ext.refl _) E3.hm ?_;intro h4 p8 e4 o8;have E4:=E3.ext e4;have o4:=o3.ext e4;have M4:=M3.ext e4;have PH:=rn.ext e4;have AF:=(pc _ e4).1;have ry:=Wv.ext sb e4;have jb:=E4.sf;have Hx:=WQ.ext sat e4;have pC:=E4.st;have bz:=e1.trans (e2.trans (e3.trans e4));have bad:∀ (b:Int) {h'},¬zHl T F f->Ext h h'->(Bz f b=.nilIface/\zHl T F f\/(∃ b',Bz f b=Bz f b')/\¬zHl T F f)/\Ext h h':=fun b h' hn e=>⟨.inr ⟨⟨b,rfl⟩,hn⟩,e⟩;have bad:=WK.mk @bad;clear hY hZ lh dJ Hw eJ mM ea nY sat mI;have PJ:(F.getD f.toNat default).blocks=zF F f:=rfl;rw[PJ]at ry;have fY:(f=0->(zj T F f).parts=[]/\Ww T 1 (zj T F f).elem=true)\/¬(f=0->(zj T F f).parts=[]/\Ww T 1 (zj T F f).elem=true):=Classical.em _;refine Z3 ?_;refine VL (fun t h'=>Ext h4 h'/\(yX T F f).1.length=(zF F f).length/\(f=0->(zj T F f).parts=[]/\Ww T 1 (zj T F f).elem=true)) ?_ ?_
 ·by_cases hr:(yX T F f).1.length=(zF F f).length;case neg=>
   have PK:¬(((yX T F f).1.length:Int)=((zF F f).length:Int)):=by omega
   refine go ?_;refine VV ?_;refine go ?_;refine zDA ?_;refine gr ?_;exact bad.out 0 (fun q=>hr (jy.2 q.1)) bz
  have PK:(((yX T F f).1.length:Int)=((zF F f).length:Int)):=by omega
  refine go ?_;by_cases f0:f=0;case neg=>
   refine go ?_;exact zK ⟨Ext.refl _,hr,fun e=>absurd e f0⟩
  refine go ?_;by_cases bD:((T.getD (F.getD f.toNat default).sig.toNat default).parts.length:Int)>0
  ·refine go ?_;refine VV ?_;refine go ?_;refine zDA ?_;refine gr ?_;exact bad.out 0 (fun q=>by have q1:(T.getD (F.getD f.toNat default).sig.toNat default).parts=[]:=(q.2.1 f0).1;rw[q1]at bD;simp at bD) bz
  ·have gz:(T.getD (F.getD f.toNat default).sig.toNat default).parts=[]:=G7 (by omega);refine go ?_;refine WO.bl [(T.getD (F.getD f.toNat default).sig.toNat default).elem] ?_;intro v5 h5 e5 o5;refine go ?_;refine VA (ZN h5 1 v5 [(T.getD (F.getD f.toNat default).sig.toNat default).elem] (M4.ext e5) o5.sl (by simp) (fun t ht=>by rw[QZ.1 ht];exact .inr ⟨Z.el.1,Z.el.2.1⟩)) ?_;rintro _ h6 ⟨rfl,e6⟩;rw[ZR];cases c1:Ww T 1 (T.getD (F.getD f.toNat default).sig.toNat default).elem with
   |false=>
    refine go ?_;refine VV ?_;refine go ?_;refine zDA ?_;refine gr ?_;exact bad.out 0 (fun q=>by have q1:Ww T 1 (T.getD (F.getD f.toNat default).sig.toNat default).elem=true:=(q.2.1 f0).2;rw[q1]at c1;cases c1) (bz.trans (e5.trans e6))
   |true=>
    refine go ?_;exact zK ⟨e5.trans e6,hr,fun _=>⟨gz,c1⟩⟩
 rintro t h5 ab ⟨e5,hr,AG⟩;have bA:=jy.1 hr;have ah:∀ c,Wl (Wr (zF F f)) 0 c->0<=c/\c<((zF F f).length:Int):=fun c w=>by
  induction w with
  |here=>omega
  |step _ hm ih=>exact Z.nx _ ih _ hm
 have G:Gr F f (Wr (zF F f)) xs (Bv T F f) (zF F f):=⟨hf,rfl,kh,hR,bA,ah,Z.pl⟩;have dG:∀ i,i<(zF F f).length->((zF F f).getD i default).ins.length<=1000:=fun i hi=>E.sm.ins _ (zE (l:=F) (i:=f.toNat) (by omega)) _ (zE (l:=zF F f) hi);have AH:=Wv.ext ry e5;have tf:=Wo.ext jb e5;have o5:=o4.ext e5;have pc5:=(pc _ (e4.trans e5)).1;have M5:BJ h5 g vt vf T F f (W6 T F f) (Bv T F f) (YU xs (zF F f).length):=M4.ext e5;have E5:=E4.ext e5;have cq:=bz.trans e5;replace bA:=WK.mk bA;replace ah:=WK.mk ah;replace dG:=WK.mk dG;clear pc ry jb pC Hx o4 M4 E4 PH o8 rn E3 E2 E1;refine go ?_;refine VD (fun i=>(zF F f).length-i) (fun i t h'=>Ext h5 h'/\zC t 68=I i/\i<=(zF F f).length/\WK (∀ b:Int,0<=b->b<(i:Int)->zD0 T F f b)) 0 ?_ ?_
 ·exact⟨Ext.refl _,WH,QK _,⟨fun b b0 b1=>by omega⟩⟩
 rintro i t6 h6 tX ⟨e6,s68,hi,hI⟩;have M6:=M5.ext e6;have eu:=cq.trans e6;refine go ?_;refine VE (fun hb=> ?_) (fun hb=> ?_)<;>simp only[DB]at hb
 ·have ae:i<(zF F f).length:=by omega
  refine go ?_;refine VA (zLK h6 i M6 G (E5.ext e6) Z.hc Z.ks Z.sigF Z.sig Z.len Z.U Z.V ⟨by omega,by omega⟩ (by rw[QL];exact dG.out i ae)) ?_;have hP:(Yc T F f (i:Int)).1=zW (zF F f) i (zF F f).length:=by
   have:=Z.bl i (by omega) (by omega);unfold Yc;rw[this];rfl
  rw[hP];rintro q h7 ⟨hq,e7⟩;rcases hq with⟨rfl,PL,qW⟩|⟨rfl,hq⟩
  ·refine go ?_;simp only[Q6,QW];refine go ?_;refine zA (i+1) (by omega) ⟨e6.trans e7,Wn,by omega,⟨fun b b0 b1=> ?_⟩⟩;by_cases jW:b=i
   ·subst jW;exact⟨PL,qW⟩
   ·exact hI.out b b0 (by omega)
  ·unfold Bz;refine go ?_;simp only[Q6,Qh];refine gr ?_;exact bad.out i (fun q=>hq (q.2.2 i (by omega) (by omega))) (eu.trans e7)
 ·have aK:i=(zF F f).length:=by omega
  refine gr ?_;exact⟨.inl ⟨rfl,bA.out,AG,fun b b0 b1=>hI.out b b0 (by omega)⟩,eu⟩
end Go.Proofs.YtmejfcakhpihlaaGreatDoor
