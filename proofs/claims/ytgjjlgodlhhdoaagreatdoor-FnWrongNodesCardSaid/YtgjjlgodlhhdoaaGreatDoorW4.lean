/-
  The functions keep their contracts, if what they call does. Printed by program.
-/
import Derived.Test.YtgjjlgodlhhdoaaGreatDoorM
import Derived.KernelRfl
namespace Go.Proofs.YtgjjlgodlhhdoaaGreatDoor
open Go Go.Sx
set_option maxRecDepth 100000
set_option maxHeartbeats 6400000
set_option linter.unusedVariables false
set_option linter.unusedSimpArgs false
structure Ws4:Prop where
 w149:Sq 240 c148->Sq 165 ZyG
 w148:Sq 164 Zxy->Sq 240 c148
 w116:Sq 354 Zyl->Sq 355 Zyo->Sq 321 c116
 w117:Sq 379 c117
 w121:Sq 357 ZwE->Sq 138 c98->Sq 358 Zyq->Sq 322 Zyr
 w122:Sq 197 c87->Sq 320 c92->Sq 321 c116->Sq 223 c86->Sq 322 Zyr->Sq 274 Zys
 w101:Sq 395 Zyd->Sq 138 c98->Sq 389 Zye
 w188:Sq 263 Zwn
 w170:Sq 202 ZyO->Sq 205 ZyP
 w171:Sq 48 c152->Sq 202 ZyN->Sq 204 c167->Sq 205 ZyP->Sq 117 c171
 w165:Sq 203 ZyM
 w99:Sq 139 c99
 w155:Sq 223 c86->Sq 216 ZyJ
 w88:Sq 353 c88
 w86:Sq 223 c86
 w209:Sq 58 c208->Sq 17 Zzb
 w144:Sq 175 ZyF
 w105:Sq 394 Zyh->Sq 387 c105
 w134:Sq 278 Zyz->Sq 221 ZyA
 w118:Sq 379 c117->Sq 378 Zyp
 w167:Sq 204 c167
 w56:Sq 172 c23->Sq 148 c56
 w204:Sq 50 c201->Sq 51 c42->Sq 52 c45->Sq 53 c46->Sq 54 c79->Sq 56 Zy7->Sq 55 c203->Sq 15 Zy8
 w2:Sq 37 c2
 w68:Sq 317 c66->Sq 271 c67->Sq 268 c68
 w29:Sq 172 c23->Sq 345 c28->Sq 304 c29
 w7:Sq 37 c2->Sq 343 c6->Sq 301 c7
 w9:Sq 37 c2->Sq 301 c7->Sq 252 c9
 w6:Sq 367 c5->Sq 343 c6
 w24:Sq 213 c22->Sq 172 c23->Sq 303 c24
 w63:Sq 352 c63
 w41:Sq 98 c13->Sq 108 c41
 w33:Sq 172 c23->Sq 187 c33
 w13:Sq 98 c13
 w64:Sq 97 c16->Sq 98 c13->Sq 103 c14->Sq 352 c63->Sq 316 c64
 w15:Sq 184 c15
 w40:Sq 126 c39->Sq 125 c40
 w20:Sq 37 c2->Sq 35 c19->Sq 96 c18->Sq 134 c20
 w47:Sq 279 c47
 w51:Sq 70 c37->Sq 98 c13->Sq 37 c2->Sq 105 c51
 w78:Sq 129 c78
 w201:Sq 70 c37->Sq 123 c53->Sq 53 c46->Sq 124 Zy6->Sq 71 c61->Sq 50 c201
set_option maxHeartbeats 100000000 in
theorem ws4:Ws4:=by
 refine ⟨(λq0=>Zg Zu (Zb q0 Zk) mixed {loops:=[(0,[.reg 6 (.own (.ol 2 (.flat Iq))),.reg 19 (.dat Iq)])]} Tryz.func165 (hvc:=?_)),
 (λq0=>Zg Zu (Zb q0 Zk) mixed {loops:=[(0,[.reg 8 (.dat Iq),.ent 3 (nat_lit 2) (.flat Ztk.ety)])],draws:=[(1,[0,1,0,7,15,0,0,96,0,511,1023],.u 0 7 (.alt 7 (.a [8,9] (.op 10 .done)) (.a [8,7,9] (.op 10 .done)))),(6,[0,0,0,0,8,0,56,120,252,508,0,1024,0,7168,15360,0,0,98304,229376,523264,1048572,2097151,4194303],.u 0 22 (.alt 22 .done .done))]} Tryz.func240 (hvc:=?_)),
 (λq1 q0=>Zg Zu (Zb q1 (Zb q0 Zk)) mixed {loops:=[(0,[.reg 8 (.dat Iq)])]} Tryz.func321 (hvc:=?_)),
 (Zg Zu Zk mixed {} Tryz.func379 (hvc:=?_)),
 (λq0 q1 q2=>Zg Zu (Zb q0 (Zb q1 (Zb q2 Zk))) mixed {loops:=[(0,[.reg 3 (.dat Iq),.reg 9 (.dat Iq)])],draws:=[(10,[0,1,3,7,15,31,7,71,199,511,1023,2047,4095,8191,16383,32767,65535],.u 0 7 (.alt 7 (.u 8 6 (.alt 14 (.o [15,16] .done) .done)) .done)),(12,[0,1,3,7,15,31,63,127,255,511,1023,2047,4095,8191,16383,32767,16383,131071,262143,524287,1048575],.u 0 10 (.alt 10 (.u 11 4 (.op 16 (.a [15,17] (.o [18,19,20] .done)))) .done))]} Tryz.func322 (hvc:=?_)),
 (λq3 q2 q1 q4 q0=>Zg Zu (Zb q3 (Zb q2 (Zb q1 (Zb q4 (Zb q0 Zk))))) mixed {} Tryz.func274 (hvc:=?_)),
 (λq1 q0=>Zg Zu (Zb q1 (Zb q0 Zk)) mixed {} Tryz.func389 (hvc:=?_)),
 (Zg Zu Zk mixed {draws:=[(1,[0,0,3,0,0,24,7,127],.u 0 8 .done)]} Tryz.func263 (hvc:=?_)),
 (λq0=>Zg Zu (Zb q0 Zk) mixed {} Tryz.func205 (hvc:=?_)),
 (λq2 q0 q1 q3=>Zg Zu (Zb q2 (Zb q0 (Zb q1 (Zb q3 Zk)))) mixed {loops:=[(0,[.reg 20 (.dat Iq),.ent 0 (nat_lit 3) (.flat Zm6.ety)]),(2,[.reg 7 (.own (.ol 2 (.flat Iq))),.reg 43 (.dat Iq),.ent 0 (nat_lit 3) (.flat Zm6.ety)]),(4,[.reg 60 (.dat Iq),.ent 0 (nat_lit 3) (.flat Zm6.ety)])]} Tryz.func117 (hvc:=?_)),
 (Zg Zu Zk mixed {} Tryz.func203 (hvc:=?_)),
 (Zg Zu Zk mixed {loops:=[(0,[.reg 3 (.dat Iq)])],draws:=[(4,[0,0,2,7,15,0,0,96,224,511],.u 0 10 .done)]} Tryz.func139 (hvc:=?_)),
 (λq0=>Zg Zu (Zb q0 Zk) mixed {} Tryz.func216 (hvc:=?_)),
 (Zg Zu Zk mixed {} Tryz.func353 (hvc:=?_)),
 (Zg Zu Zk mixed {} Tryz.func223 (hvc:=?_)),
 (λq0=>Zg Zu (Zb q0 Zk) mixed {loops:=[(0,[.reg 5 (.dat Iq)])],draws:=[(6,[0,1,0,7,15,0,32,0,224,480,1023],.u 0 11 .done)]} Tryz.func17 (hvc:=?_)),
 (Zg Zu Zk mixed {} Tryz.func175 (hvc:=?_)),
 (λq0=>Zg Zu (Zb q0 Zk) mixed {} Tryz.func387 (hvc:=?_)),
 (λq0=>Zg Zu (Zb q0 Zk) mixed {} Tryz.func221 (hvc:=?_)),
 (λq0=>Zg Zu (Zb q0 Zk) mixed {loops:=[(0,[.reg 8 (.dat Iq)])]} Tryz.func378 (hvc:=?_)),
 (Zg Zu Zk mixed {loops:=[(0,[.reg 8 (.dat Iq)])]} Tryz.func204 (hvc:=?_)),
 (λq0=>Zg Zu (Zb q0 Zk) mixed {} Tryz.func148 (hvc:=?_)),
 (λq2 q0 q3 q1 q4 q5 q6=>Zg Zu (Zb q2 (Zb q0 (Zb q3 (Zb q1 (Zb q4 (Zb q5 (Zb q6 Zk))))))) mixed {loops:=[(0,[.reg 15 (.own (.ol 2 (.flat Iq))),.reg 16 (.dat Iq)])],draws:=[(11,[0,1,0,0,0,31],.o [0,2,3,4] (.a [1,5] .done))]} Tryz.func15 (hvc:=?_)),
 (Zg Zu Zk mixed {draws:=[(3,[0,1,3,7,0,16,48,112,240,511],.u 0 10 .done),(4,[0,1,3,7,0,16,48,112,255,511,1023,2047],.u 0 10 (.alt 10 (.op 11 .done) .done))]} Tryz.func37 (hvc:=?_)),
 (λq0 q1=>Zg Zu (Zb q0 (Zb q1 Zk)) mixed {loops:=[(0,[.reg 16 (.dat Iq),.reg 17 (.dat Iq)]),(2,[.reg 16 (.dat Iq),.reg 18 (.dat Iq)])]} Tryz.func268 (hvc:=?_)),
 (λq1 q0=>Zg Zu (Zb q1 (Zb q0 Zk)) mixed {} Tryz.func304 (hvc:=?_)),
 (λq1 q0=>Zg ZcW (Zb q1 (Zb q0 Zk)) mixed {} Tryz.func301 (hvc:=?_)),
 (λq1 q0=>Zg ZcW (Zb q1 (Zb q0 Zk)) mixed {} Tryz.func252 (hvc:=?_)),
 (λq0=>Zg ZcW (Zb q0 Zk) mixed {draws:=[(2,[0,0,0,6,15,31],.o [1,2] (.ld 0 (.a [3,4] (.op 5 .done))))]} Tryz.func343 (hvc:=?_)),
 (λq0 q1=>Zg Zu (Zb q0 (Zb q1 Zk)) mixed {loops:=[(0,[.reg 5 (.dat Iq),.reg 6 (.dat Iq)]),(2,[.reg 8 (.dat Iq)])],draws:=[(12,[0,1,0,7,15,31,0,64,255],.u 0 9 .done)]} Tryz.func303 (hvc:=?_)),
 (Zg Zu Zk mixed {draws:=[(3,[0,1,0,4,0,16,60,124,252,511,1023,2047,0,4096,16383,32767,65535,131071],.u 0 18 .done)]} Tryz.func352 (hvc:=?_)),
 (λq0=>Zg Zu (Zb q0 Zk) mixed {loops:=[(0,[.reg 6 (.dat Iq)])]} Tryz.func108 (hvc:=?_)),
 (λq0=>Zg Zu (Zb q0 Zk) mixed {loops:=[(0,[.reg 6 (.dat Iq)]),(2,[.reg 8 (.dat Iq)]),(4,[.reg 9 (.dat Iq)])],draws:=[(6,[0,1,0,4,12,28,63,127,255,511,1023,2047,511,4607,511,16895,61951,127487,258559,520703,1048575,2097151],.u 0 6 (.alt 6 (.u 7 15 .done) .done))]} Tryz.func187 (hvc:=?_)),
 (Zg Zu Zk mixed {loops:=[(0,[.reg 3 (.own (.ol 181 (.flat (Zev)))),.reg 4 (.dat Iq)]),(2,[.reg 3 (.own (.ol 181 (.flat (Zev)))),.reg 6 (.dat Iq)]),(4,[.reg 3 (.own (.ol 181 (.flat (Zev)))),.reg 7 (.dat Iq)])],draws:=[(13,[0,0,0,4,0,28,60,124,0,256,0,1792,3840,7936,16128,32766,65534,131071,262143],.u 0 16 (.a [16,17] (.op 18 .done)))]} Tryz.func98 (hvc:=?_)),
 (λq2 q0 q1 q3=>Zg Zu (Zb q2 (Zb q0 (Zb q1 (Zb q3 Zk)))) mixed {loops:=[(0,[.reg 9 (.dat Iq),.ent 2 (nat_lit 2) (.flat (Ty.int IntKind.i64))]),(2,[.reg 10 (.dat Iq),.ent 2 (nat_lit 2) (.flat (Ty.int IntKind.i64))])],draws:=[(8,[0,0,2,0,14,30,63,127,0,256,0,1024,0,0,0,24576,57344,126976,258048,524032,1048575,2097151,4194303],.u 0 19 (.alt 19 (.o [20,21] (.alt 22 .done .done)) .done)),(12,[0,0,2,0,14,30,63,127,0,0,768,1792,4095,8191,16383],.u 0 14 (.alt 14 .done .done))]} Tryz.func316 (hvc:=?_)),
 (Zg Zu Zk mixed {} Tryz.func184 (hvc:=?_)),
 (λq0=>Zg ZcW (Zb q0 Zk) mixed {loops:=[(0,[.reg 0 (.own (.ol 202 (.flat (Jp)))),.reg 11 (.dat Iq)]),(2,[.reg 0 (.own (.ol 202 (.flat (Jp)))),.reg 12 (.dat Iq)])]} Tryz.func125 (hvc:=?_)),
 (λq1 q0 q2=>Zg ZcW (Zb q1 (Zb q0 (Zb q2 Zk))) mixed {} Tryz.func134 (hvc:=?_)),
 (Zg Zu Zk mixed {loops:=[(0,[.reg 12 (.dat (.bool)),.ent 0 (nat_lit 4) (.flat ZsZ.ety)]),(2,[.reg 12 (.dat (.bool)),.reg 13 (.dat Iq),.ent 0 (nat_lit 4) (.flat ZsZ.ety)])],draws:=[(9,[0,0,3,7,15,0,0,96,224,480,31,2047],.u 0 12 .done)]} Tryz.func279 (hvc:=?_)),
 (λq1 q0 q2=>Zg Zu (Zb q1 (Zb q0 (Zb q2 Zk))) mixed {loops:=[(0,[.reg 5 (.own (.ol 94 (.flat (XY)))),.reg 7 (.dat Iq),.cell 0 0 (.sl (.int .u8)),.cell 0 1 Iq,.cell 0 2 Iq]),(2,[.reg 5 (.own (.ol 94 (.flat (XY)))),.reg 9 (.dat Iq),.cell 0 0 (.sl (.int .u8)),.cell 0 1 Iq,.cell 0 2 Iq])]} Tryz.func105 (hvc:=?_)),
 (Zg Zu Zk mixed {} Tryz.func129 (hvc:=?_)),
 (λq3 q1 q2 q0 q4=>Zg Zu (Zb q3 (Zb q1 (Zb q2 (Zb q0 (Zb q4 Zk))))) mixed {draws:=[(1,[0,1,3,7,15,31,63,127,255,511,1023,511,4095,8191,16383],.op 0 (.alt 1 (.o [2,3,4] (.alt 5 (.u 6 4 (.op 11 (.a [10,12] (.o [13,14] .done)))) .done)) .done))]} Tryz.func50 (hvc:=?_))⟩
 all_goals
  intro a;repeat rcases a with ⟨_,a⟩
  rintro K ⟨r,h,hK⟩;repeat'
    conv=>whnf
    first
    | with_reducible refine ZrN ?_
    | with_reducible refine ZeX (by assumption) (by assumption) (by assumption) ?_
    | with_reducible refine Yd (by assumption) ?_
    | with_reducible refine ZeZ (by assumption) ?_
    | (with_reducible refine shD ?_);first | refine ZlD h (λh=>?_) (λh=>?_) | refine Zq7 h (λh=>?_) (λh=>?_)
    | (with_reducible refine ZsO ?_);first | refine Zwh ?_ | refine Zo7 ?_
    | (with_reducible refine Zw8 ?_);first | refine Zs5 h (λh=>?_) (λh=>?_) | refine Zs6 h (λh=>?_) (λh=>?_)
    | (with_reducible refine ZsN ?_);(refine ⟨λhd=>?_,?_⟩)<;>try subst hd
    | (with_reducible refine Zxa ?_);first | with_reducible refine ZaJ h (λx hb h=>?_) | refine ZeZ (by assumption) ?_ | with_reducible refine pG h (λhp h=>?_) | with_reducible refine pA h (λx ha hb hx h=>?_) | with_reducible refine pB h (λx hb h=>?_) | refine ZaJ h (λx hb h=>?_)
    | (with_reducible refine Zw7 ?_);first | with_reducible refine vAt h (λx ha hb hx h=>?_) | refine ZeX (by assumption) (by assumption) (by assumption) ?_ | with_reducible refine pG h (λhp h=>?_) | with_reducible refine pA h (λx ha hb hx h=>?_) | with_reducible refine pB h (λx hb h=>?_) | refine vAt h (λx ha hb hx h=>?_)
    | (with_reducible refine ZsM ?_);first | with_reducible refine ZlC h (λx hb h=>?_) | refine Yd (by assumption) ?_ | with_reducible refine pG h (λhp h=>?_) | with_reducible refine pA h (λx ha hb hx h=>?_) | with_reducible refine pB h (λx hb h=>?_) | refine ZlC h (λx hb h=>?_)
    | with_reducible refine Zw9 ?_
    | (with_reducible refine ZnZ ?_);refine Zoh h hK ?_;clear h hK;intro I μ v r h hK;(repeat rcases v with ⟨_,v⟩);(try dsimp only at h)
    | with_reducible refine ⟨by assumption,?_⟩
    | with_reducible refine orL ?_
    | with_reducible refine .inr ?_
    | (with_reducible refine ZsP ?_);first | refine ⟨?_,True.intro⟩ | refine ⟨?_,?_⟩
    | refine ⟨by kernel_rfl,?_⟩
    | refine ⟨by decide,?_⟩
    | with_reducible refine Zs7 h (λhp h=>?_)
    | intro fp
    | exact trivial
    | with_reducible exact ZrG h
    | (refine pS h (λe=>?_));subst e;(repeat (first | exact hK | exact ⟨⟨rfl,rfl⟩,hK.1 _ rfl⟩ | (refine pR hK (λe hK=>?_));subst e));done
    | refine Zs7 h (λhp h=>?_)
    | refine ⟨by assumption,?_⟩
    | with_reducible refine pG h (λhp h=>?_) | with_reducible refine pA h (λx ha hb hx h=>?_) | with_reducible refine pB h (λx hb h=>?_)
    | refine pG h (λhp h=>?_)
    | fail
theorem w52 (q3:Sq 134 c20) (q1:Sq 135 c21) (q5:Sq 37 c2) (q6:Sq 96 c18) (q2:Sq 136 c43) (q7:Sq 70 c37) (q4:Sq 137 c50) (q0:Sq 105 c51):Sq 62 c52:=by
 refine Zg Zu (Zb q3 (Zb q1 (Zb q5 (Zb q6 (Zb q2 (Zb q7 (Zb q4 (Zb q0 Zk)))))))) mixed {draws:=[(8,[0,0,0,0,0,24,57,123,255,511],.o [2,3,4] (.ld 0 (.alt 1 (.a [5,6,7] (.o [8,9] .done)) (.alt 5 (.alt 1 (.a [6,7] (.o [8,9] .done)) (.a [6,1,7] (.o [8,9] .done))) .done))))]} (fn:=Tryz.f62) Tryz.func62 (by kernel_rfl) (by kernel_rfl) ?_;rintro ⟨s0,⟨⟩⟩ K ⟨r,h,hK⟩
 change Vr s0=some r at h
 unfold Vr at h
 conv=>whnf
 refine ZaJ h (λl09DrawBlock0 hb0 h=>?_)
 conv=>whnf
 intro fp1
 conv=>whnf
 intro fp2
 conv=>whnf
 intro fp3
 conv=>whnf
 refine ZaJ h (λl11DrawCorner0 hb4 h=>?_)
 conv=>whnf
 refine ZaJ h (λl01Next0 hb5 h=>?_)
 conv=>whnf
 refine ZlD h (λh=>?_) (λh=>?_)
 conv=>whnf
 refine ZaJ h (λl07Draw0 hb6 h=>?_)
 conv=>whnf
 intro fp7
 conv=>whnf
 intro fp8
 conv=>whnf
 intro fp9
 conv=>whnf
 refine ZaJ h (λl09DrawBroken0 hb10 h=>?_)
 conv=>whnf
 refine ZaJ h (λIsBlock0 hb11 h=>?_)
 conv=>whnf
 refine Zs5 h (λh=>?_) (λh=>?_)
 conv=>whnf
 refine ZlD h (λh=>?_) (λh=>?_)
 conv=>whnf
 refine ZaJ h (λl01Next1 hb12 h=>?_)
 conv=>whnf
 refine ZlD h (λh=>?_) (λh=>?_)
 focus
  conv=>whnf
  refine ZaJ h (λl10Break0 hb13 h=>?_)
  conv=>whnf
  refine ⟨by kernel_rfl,?_⟩
  conv=>whnf
  refine ⟨by kernel_rfl,?_⟩
  conv=>whnf
  obtain ⟨l12DrawSources0,hb14,h⟩:=Option.bind_eq_some_iff.1 h;refine ⟨?_,?_⟩;rotate_left
  focus
   conv=>whnf
   refine ⟨by kernel_rfl,?_⟩
   conv=>whnf
   refine ⟨_,hb14,?_⟩
   conv=>whnf
   refine ⟨?_,?_⟩;rotate_left
   focus
    conv=>whnf
    refine ⟨trivial,?_⟩
   rotate_right
   focus
    conv=>whnf
    refine ⟨trivial,?_⟩
  rotate_right
  focus
   conv=>whnf
   refine ⟨by kernel_rfl,?_⟩
   conv=>whnf
   refine ⟨_,hb14,?_⟩
   conv=>whnf
   refine ⟨trivial,?_⟩
  all_goals
   conv=>whnf
   cases h;exact hK
 focus
  conv=>whnf
  refine ⟨by kernel_rfl,?_⟩
  conv=>whnf
  refine ⟨by kernel_rfl,?_⟩
  conv=>whnf
  obtain ⟨l12DrawSources0,hb15,h⟩:=Option.bind_eq_some_iff.1 h;refine ⟨?_,?_⟩;rotate_left
  focus
   conv=>whnf
   refine ⟨by kernel_rfl,?_⟩
   conv=>whnf
   refine ⟨_,hb15,?_⟩
   conv=>whnf
   refine ⟨?_,?_⟩;rotate_left
   focus
    conv=>whnf
    refine ⟨trivial,?_⟩
   rotate_right
   focus
    conv=>whnf
    refine ⟨trivial,?_⟩
  rotate_right
  focus
   conv=>whnf
   refine ⟨by kernel_rfl,?_⟩
   conv=>whnf
   refine ⟨_,hb15,?_⟩
   conv=>whnf
   refine ⟨trivial,?_⟩
  all_goals
   conv=>whnf
   cases h;exact hK
 focus
  conv=>whnf
  refine ⟨by kernel_rfl,?_⟩
  conv=>whnf
  refine ⟨by kernel_rfl,?_⟩
  conv=>whnf
  obtain ⟨l12DrawSources0,hb16,h⟩:=Option.bind_eq_some_iff.1 h;refine ⟨?_,?_⟩;rotate_left
  focus
   conv=>whnf
   refine ⟨by kernel_rfl,?_⟩
   conv=>whnf
   refine ⟨_,hb16,?_⟩
   conv=>whnf
   refine ⟨?_,?_⟩;rotate_left
   focus
    conv=>whnf
    refine ⟨trivial,?_⟩
   rotate_right
   focus
    conv=>whnf
    refine ⟨trivial,?_⟩
  rotate_right
  focus
   conv=>whnf
   refine ⟨by kernel_rfl,?_⟩
   conv=>whnf
   refine ⟨_,hb16,?_⟩
   conv=>whnf
   refine ⟨trivial,?_⟩
  all_goals
   conv=>whnf
   cases h;exact hK
 focus
  conv=>whnf
  refine ⟨by kernel_rfl,?_⟩
  conv=>whnf
  refine ⟨by kernel_rfl,?_⟩
  conv=>whnf
  obtain ⟨l12DrawSources0,hb17,h⟩:=Option.bind_eq_some_iff.1 h;refine ⟨?_,?_⟩;rotate_left
  focus
   conv=>whnf
   refine ⟨by kernel_rfl,?_⟩
   conv=>whnf
   refine ⟨_,hb17,?_⟩
   conv=>whnf
   refine ⟨?_,?_⟩;rotate_left
   focus
    conv=>whnf
    refine ⟨trivial,?_⟩
   rotate_right
   focus
    conv=>whnf
    refine ⟨trivial,?_⟩
  rotate_right
  focus
   conv=>whnf
   refine ⟨by kernel_rfl,?_⟩
   conv=>whnf
   refine ⟨_,hb17,?_⟩
   conv=>whnf
   refine ⟨trivial,?_⟩
  all_goals
   conv=>whnf
   cases h;exact hK
 conv=>whnf
 refine ZaJ h (λl09DrawBroken0 hb18 h=>?_)
 conv=>whnf
 refine ZaJ h (λIsBlock0 hb19 h=>?_)
 conv=>whnf
 refine Zs5 h (λh=>?_) (λh=>?_)
 conv=>whnf
 refine ZlD h (λh=>?_) (λh=>?_)
 conv=>whnf
 refine ZaJ h (λl01Next1 hb20 h=>?_)
 conv=>whnf
 refine ZlD h (λh=>?_) (λh=>?_)
 focus
  conv=>whnf
  refine ZaJ h (λl10Break0 hb21 h=>?_)
  conv=>whnf
  refine ⟨by kernel_rfl,?_⟩
  conv=>whnf
  refine ⟨by kernel_rfl,?_⟩
  conv=>whnf
  obtain ⟨l12DrawSources0,hb22,h⟩:=Option.bind_eq_some_iff.1 h;refine ⟨?_,?_⟩;rotate_left
  focus
   conv=>whnf
   refine ⟨by kernel_rfl,?_⟩
   conv=>whnf
   refine ⟨_,hb22,?_⟩
   conv=>whnf
   refine ⟨?_,?_⟩;rotate_left
   focus
    conv=>whnf
    refine ⟨trivial,?_⟩
   rotate_right
   focus
    conv=>whnf
    refine ⟨trivial,?_⟩
  rotate_right
  focus
   conv=>whnf
   refine ⟨by kernel_rfl,?_⟩
   conv=>whnf
   refine ⟨_,hb22,?_⟩
   conv=>whnf
   refine ⟨trivial,?_⟩
  all_goals
   conv=>whnf
   cases h;exact hK
 focus
  conv=>whnf
  refine ⟨by kernel_rfl,?_⟩
  conv=>whnf
  refine ⟨by kernel_rfl,?_⟩
  conv=>whnf
  obtain ⟨l12DrawSources0,hb23,h⟩:=Option.bind_eq_some_iff.1 h;refine ⟨?_,?_⟩;rotate_left
  focus
   conv=>whnf
   refine ⟨by kernel_rfl,?_⟩
   conv=>whnf
   refine ⟨_,hb23,?_⟩
   conv=>whnf
   refine ⟨?_,?_⟩;rotate_left
   focus
    conv=>whnf
    refine ⟨trivial,?_⟩
   rotate_right
   focus
    conv=>whnf
    refine ⟨trivial,?_⟩
  rotate_right
  focus
   conv=>whnf
   refine ⟨by kernel_rfl,?_⟩
   conv=>whnf
   refine ⟨_,hb23,?_⟩
   conv=>whnf
   refine ⟨trivial,?_⟩
  all_goals
   conv=>whnf
   cases h;exact hK
 focus
  conv=>whnf
  refine ⟨by kernel_rfl,?_⟩
  conv=>whnf
  refine ⟨by kernel_rfl,?_⟩
  conv=>whnf
  obtain ⟨l12DrawSources0,hb24,h⟩:=Option.bind_eq_some_iff.1 h;refine ⟨?_,?_⟩;rotate_left
  focus
   conv=>whnf
   refine ⟨by kernel_rfl,?_⟩
   conv=>whnf
   refine ⟨_,hb24,?_⟩
   conv=>whnf
   refine ⟨?_,?_⟩;rotate_left
   focus
    conv=>whnf
    refine ⟨trivial,?_⟩
   rotate_right
   focus
    conv=>whnf
    refine ⟨trivial,?_⟩
  rotate_right
  focus
   conv=>whnf
   refine ⟨by kernel_rfl,?_⟩
   conv=>whnf
   refine ⟨_,hb24,?_⟩
   conv=>whnf
   refine ⟨trivial,?_⟩
  all_goals
   conv=>whnf
   cases h;exact hK
 focus
  conv=>whnf
  refine ⟨by kernel_rfl,?_⟩
  conv=>whnf
  refine ⟨by kernel_rfl,?_⟩
  conv=>whnf
  obtain ⟨l12DrawSources0,hb25,h⟩:=Option.bind_eq_some_iff.1 h;refine ⟨?_,?_⟩;rotate_left
  focus
   conv=>whnf
   refine ⟨by kernel_rfl,?_⟩
   conv=>whnf
   refine ⟨_,hb25,?_⟩
   conv=>whnf
   refine ⟨?_,?_⟩;rotate_left
   focus
    conv=>whnf
    refine ⟨trivial,?_⟩
   rotate_right
   focus
    conv=>whnf
    refine ⟨trivial,?_⟩
  rotate_right
  focus
   conv=>whnf
   refine ⟨by kernel_rfl,?_⟩
   conv=>whnf
   refine ⟨_,hb25,?_⟩
   conv=>whnf
   refine ⟨trivial,?_⟩
  all_goals
   conv=>whnf
   cases h;exact hK
end Go.Proofs.YtgjjlgodlhhdoaaGreatDoor
