/-
  The functions keep their contracts, if what they call does. Printed by program.
-/
import Derived.Test.YtgjjlgodlhhdoaaGreatDoorM
import Derived.KernelRfl
namespace Go.Proofs.YtgjjlgodlhhdoaaGreatDoor
open Go Go.Sx
set_option maxRecDepth 100000
set_option maxHeartbeats 6400000
set_option linter.unusedVariables false
set_option linter.unusedSimpArgs false
structure Ws3:Prop where
 w115:Sq 354 Zyk->Sq 355 Zyn->Sq 321 Zyo
 w109:Sq 353 c87->Sq 357 c109
 w198:Sq 265 c198
 w123:Sq 275 c90->Sq 218 Zyt
 w130:Sq 276 c124->Sq 223 c85->Sq 143 Zyx->Sq 219 c130
 w219:Sq 47 c171->Sq 57 c218->Sq 16 ZD0
 w136:Sq 223 c85->Sq 224 Zvr
 w221:Sq 47 c171->Sq 48 Zxz->Sq 49 c206->Sq 14 ZD2
 w91:Sq 223 c85->Sq 353 c87->Sq 275 c90->Sq 320 c91
 w97:Sq 143 c96->Sq 138 c97
 w181:Sq 144 ZwF
 w154:Sq 223 c85->Sq 216 c154
 w152:Sq 199 c152
 w124:Sq 276 c124
 w93:Sq 163 c93
 w186:Sq 206 ZyX->Sq 118 ZyY
 w158:Sq 48 Zxz->Sq 199 c152->Sq 200 ZyI->Sq 131 ZyJ->Sq 167 c157->Sq 114 ZxA
 w203:Sq 211 ZxC->Sq 261 Zy0->Sq 262 Zy4->Sq 266 Zy7->Sq 212 c203
 w195:Sq 351 c194->Sq 314 Zy3
 w223:Sq 58 c222->Sq 17 ZD3
 w96:Sq 228 c95->Sq 143 c96
 w89:Sq 340 c88->Sq 323 c89
 w113:Sq 356 Zyl->Sq 378 Zym
 w132:Sq 222 c131->Sq 278 Zyy
 w35:Sq 186 c32->Sq 187 c33->Sq 188 c34->Sq 106 c35
 w1:Sq 34 c1
 w23:Sq 172 c23
 w29:Sq 172 c23->Sq 345 c28->Sq 304 c29
 w10:Sq 251 c8->Sq 252 c9->Sq 182 c10
 w9:Sq 37 c2->Sq 301 c7->Sq 252 c9
 w28:Sq 369 c27->Sq 345 c28
 w12:Sq 37 c2->Sq 101 c11->Sq 183 c12
 w38:Sq 98 c13->Sq 99 c38
 w75:Sq 318 c70->Sq 319 c74->Sq 271 c67->Sq 273 c75
 w45:Sq 127 c44->Sq 52 c45
 w59:Sq 229 c59
 w72:Sq 272 c72
 w51:Sq 70 c37->Sq 98 c13->Sq 37 c2->Sq 105 c51
 w82:Sq 23 c81->Sq 37 c2->Sq 63 c82
 w62:Sq 151 c62
 w78:Sq 129 c78
 w58:Sq 53 c46->Sq 172 c23->Sq 148 c56->Sq 173 c57->Sq 83 c58
 w215:Sq 51 c42->Sq 52 c45->Sq 146 c60->Sq 56 c212->Sq 53 c46->Sq 147 c213->Sq 54 c79->Sq 148 c56->Sq 55 ZDW->Sq 69 ZDX
set_option maxHeartbeats 100000000 in
theorem ws3:Ws3:=by
 refine ⟨(λq1 q0=>Zg Zu (Zb q1 (Zb q0 Zk)) mixed {loops:=[(0,[.reg 8 (.dat Iq)])]} Tryz.func321 (hvc:=?_)),
 (λq0=>Zg Zu (Zb q0 Zk) mixed {} Tryz.func357 (hvc:=?_)),
 (Zg Zu Zk mixed {} Tryz.func265 (hvc:=?_)),
 (λq0=>Zg Zu (Zb q0 Zk) mixed {loops:=[(0,[.reg 3 (.own (.ol 9 (.flat (.str)))),.reg 12 (.dat Iq)]),(2,[.reg 4 (.own (.ol 9 (.flat (.str)))),.reg 25 (.dat Iq)])]} Tryz.func218 (hvc:=?_)),
 (λq1 q2 q0=>Zg Zu (Zb q1 (Zb q2 (Zb q0 Zk))) mixed {draws:=[(1,[0,1,0,4,12,28,63,127,255,511,1023,255,2303,255,8447,30975,63743,129279,260351,524287,1048575,2097151,4194303,8388607,4194303,33554431,67108863,134217727,268435455],.u 0 4 (.alt 4 (.op 5 (.alt 6 (.u 7 18 (.alt 25 (.o [26,27,28] .done) .done)) .done)) .done))]} Tryz.func219 (hvc:=?_)),
 (λq1 q0=>Zg Zu (Zb q1 (Zb q0 Zk)) mixed {} Tryz.func16 (hvc:=?_)),
 (λq0=>Zg Zu (Zb q0 Zk) mixed {loops:=[(0,[.reg 8 (.dat Iq)])]} Tryz.func224 (hvc:=?_)),
 (λq1 q2 q0=>Zg Zu (Zb q1 (Zb q2 (Zb q0 Zk))) mixed {loops:=[(0,[.reg 15 (.own (.ol 2 (.flat Iq))),.reg 36 (.dat Iq)])],draws:=[(9,[0,0,2,0,14,30,63,127,255,511,255,1279,255,7423,15615,32767,65535,131071,262143,524287,262143,1310719,262143,7602175,15990783,33554431,67108863],.u 0 27 .done)]} Tryz.func14 (hvc:=?_)),
 (λq2 q0 q1=>Zg Zu (Zb q2 (Zb q0 (Zb q1 Zk))) mixed {loops:=[(0,[.reg 3 (.own (.ol 9 (.flat (.str)))),.reg 8 (.dat Iq)])]} Tryz.func320 (hvc:=?_)),
 (λq0=>Zg Zu (Zb q0 Zk) mixed {} Tryz.func138 (hvc:=?_)),
 (Zg Zu Zk mixed {draws:=[(1,[0,0,2,6,14,30,62,126,0,510,1022,2046,4095,8191,16383],.u 0 15 .done)]} Tryz.func144 (hvc:=?_)),
 (λq0=>Zg Zu (Zb q0 Zk) mixed {} Tryz.func216 (hvc:=?_)),
 (Zg Zu Zk mixed {} Tryz.func199 (hvc:=?_)),
 (Zg Zu Zk mixed {} Tryz.func276 (hvc:=?_)),
 (Zg Zu Zk mixed {} Tryz.func163 (hvc:=?_)),
 (λq0=>Zg Zu (Zb q0 Zk) mixed {} Tryz.func118 (hvc:=?_)),
 (λq2 q1 q0 q4 q3=>Zg Zu (Zb q2 (Zb q1 (Zb q0 (Zb q4 (Zb q3 Zk))))) mixed {loops:=[(0,[.reg 32 (.dat Iq)])]} Tryz.func114 (hvc:=?_)),
 (λq1 q2 q0 q3=>Zg Zu (Zb q1 (Zb q2 (Zb q0 (Zb q3 Zk)))) mixed {draws:=[(4,[0,0,3,7,0,16,48,127,255,0,0,1024,3072,7168,0,31744,64512,0,262143,524287,1048575],.o [0,1,4,5,6] (.u 9 9 (.alt 2 (.o [3,7,8] (.alt 18 (.o [19,20] .done) .done)) .done))),(5,[0,0,2,6,14,0,62,126,0,256,1022,2046,0,8191,16383,32767],.u 0 13 (.alt 13 (.o [14,15] .done) .done))]} Tryz.func212 (hvc:=?_)),
 (λq0=>Zg Zu (Zb q0 Zk) mixed {draws:=[(1,[0,0,2,6,15,0,0,64,192,480,992,2047,4095],.u 0 13 .done),(5,[0,1,0,0,12,28,0,124,255,0,0,0,0,4096,14336,30720,64512,130560,262143,0,0,1572864,3670016,0,0,16777216,58720256,125829120,267911168,524287,1073741823],.u 0 18 (.u 19 10 (.alt 18 (.o [29,30] .done) .done)))]} Tryz.func314 (hvc:=?_)),
 (λq0=>Zg Zu (Zb q0 Zk) mixed {loops:=[(0,[.reg 5 (.dat Iq)])],draws:=[(6,[0,1,0,7,15,0,32,0,224,480,1023],.u 0 11 .done)]} Tryz.func17 (hvc:=?_)),
 (λq0=>Zg Zu (Zb q0 Zk) mixed {} Tryz.func143 (hvc:=?_)),
 (λq0=>Zg Zu (Zb q0 Zk) mixed {} Tryz.func323 (hvc:=?_)),
 (λq0=>Zg Zu (Zb q0 Zk) mixed {loops:=[(0,[.reg 8 (.dat Iq)])]} Tryz.func378 (hvc:=?_)),
 (λq0=>Zg Zu (Zb q0 Zk) mixed {loops:=[(0,[.reg 8 (.dat Iq)])]} Tryz.func278 (hvc:=?_)),
 (λq0 q1 q2=>Zg Zu (Zb q0 (Zb q1 (Zb q2 Zk))) mixed {loops:=[(0,[.reg 5 (.own (.ol 9 (.flat (.str)))),.reg 6 (.dat Iq)]),(2,[.reg 7 (.own (.ol 9 (.flat (.str)))),.reg 8 (.dat Iq)]),(4,[.reg 10 (.dat Iq),.ent 6 (nat_lit 2) (.flat Ztk.ety)]),(6,[.reg 12 (.dat Iq),.ent 6 (nat_lit 2) (.flat Ztk.ety)]),(8,[.reg 13 (.dat Iq)])]} Tryz.func106 (hvc:=?_)),
 (Zg Zu Zk mixed {loops:=[(0,[.reg 4 (.dat Iq),.cell 1007 2 Iq])],draws:=[(5,[0,0,2,6,14,30,0,0,192,448,960,2046,4094,8191,16383,32767],.u 0 10 (.alt 10 (.u 11 4 (.alt 15 .done .done)) .done))]} Tryz.func34 (hvc:=?_)),
 (Zg Zu Zk mixed {} Tryz.func172 (hvc:=?_)),
 (λq1 q0=>Zg Zu (Zb q1 (Zb q0 Zk)) mixed {} Tryz.func304 (hvc:=?_)),
 (λq1 q0=>Zg ZcW (Zb q1 (Zb q0 Zk)) mixed {} Tryz.func182 (hvc:=?_)),
 (λq1 q0=>Zg ZcW (Zb q1 (Zb q0 Zk)) mixed {} Tryz.func252 (hvc:=?_)),
 (λq0=>Zg Zu (Zb q0 Zk) mixed {loops:=[(0,[.reg 5 (.dat Iq)])]} Tryz.func345 (hvc:=?_)),
 (λq1 q0=>Zg ZcW (Zb q1 (Zb q0 Zk)) mixed {loops:=[(0,[.reg 9 (.own (.ol 171 (ZhG))),.reg 10 (.own (.ol 9 (.flat (.str)))),.reg 11 (.dat Iq),.cell 1000 0 (.sl (.int .u8)),.cell 1000 1 Iq,.cell 1000 2 Iq]),(2,[.reg 14 (.dat Iq),.cell 1000 0 (.sl (.int .u8)),.cell 1000 1 Iq,.cell 1000 2 Iq,.cello 1013 2 (.ol 2 (.flat Iq))]),(4,[.reg 16 (.dat Iq),.cell 1000 0 (.sl (.int .u8)),.cell 1000 1 Iq,.cell 1000 2 Iq,.ent 9 (nat_lit 171) (Dp.pair (Dp.flat Ty.str) (Dp.pair (Dp.flat (Ty.int IntKind.i64)) (Dp.pair (Dp.ol (2:Go.TypeId) (Dp.flat (Ty.int IntKind.i64))) (Dp.flat Ty.unit))))])],draws:=[(27,[0,0,3,7,15,0,0,64,192,480,992,2047,4095],.u 0 4 (.u 5 4 (.alt 4 (.alt 9 (.o [10,11] (.alt 12 .done .done)) .done) (.alt 9 (.op 10 (.alt 4 (.op 11 (.alt 12 .done .done)) .done)) .done))))]} Tryz.func183 (hvc:=?_)),
 (λq0=>Zg Zu (Zb q0 Zk) mixed {loops:=[(0,[.reg 8 (.dat Iq)])]} Tryz.func99 (hvc:=?_)),
 (λq0 q1 q2=>Zg Zu (Zb q0 (Zb q1 (Zb q2 Zk))) mixed {draws:=[(1,[0,0,3,0,8,0,56,120,248,0,1016,2040,4095,8191,16383],.o [0,1] (.u 3 9 (.alt 2 (.o [12,13,14] .done) .done)))]} Tryz.func273 (hvc:=?_)),
 (λq0=>Zg Zu (Zb q0 Zk) mixed {loops:=[(0,[.reg 5 (.own (.ol 4 (.flat (.bool)))),.reg 6 (.dat Iq)])]} Tryz.func52 (hvc:=?_)),
 (Zg Zu Zk mixed {loops:=[(0,[.reg 8 (.own (.ol 2 (.flat Iq))),.ent 1 (nat_lit 4) (.flat ZsZ.ety)]),(2,[.reg 11 (.dat Iq),.ent 3 (nat_lit 4) (.flat ZsZ.ety)]),(4,[.reg 12 (.dat Iq)])]} Tryz.func229 (hvc:=?_)),
 (Zg Zu Zk mixed {} Tryz.func272 (hvc:=?_)),
 (λq1 q0 q2=>Zg Zu (Zb q1 (Zb q0 (Zb q2 Zk))) mixed {loops:=[(0,[.reg 5 (.own (.ol 94 (.flat (XY)))),.reg 7 (.dat Iq),.cell 0 0 (.sl (.int .u8)),.cell 0 1 Iq,.cell 0 2 Iq]),(2,[.reg 5 (.own (.ol 94 (.flat (XY)))),.reg 9 (.dat Iq),.cell 0 0 (.sl (.int .u8)),.cell 0 1 Iq,.cell 0 2 Iq])]} Tryz.func105 (hvc:=?_)),
 (λq0 q1=>Zg Zu (Zb q0 (Zb q1 Zk)) mixed {draws:=[(9,[0,1,0,0,8,0,56,120,248,511,1023],.u 0 10 (.alt 10 .done .done)),(11,[0,1,0,0,8,0,56,120,248,504,1023,2047,4095],.u 0 12 (.alt 12 .done .done)),(13,[0,1,0,0,8,0,56,120,248,504,1023,2047,4095],.u 0 12 (.alt 12 .done .done))]} Tryz.func63 (hvc:=?_)),
 (Zg Zu Zk mixed {draws:=[(1,[0,1,0,4,0,16,63,127],.o [0,2,4] (.alt 1 (.alt 3 (.alt 5 (.op 6 (.alt 7 .done .done)) .done) (.a [5,3] (.op 6 (.alt 7 .done .done)))) (.alt 3 (.alt 1 (.alt 5 (.op 6 (.alt 7 .done .done)) .done) (.a [5,1] (.op 6 (.alt 7 .done .done)))) (.alt 5 (.alt 1 (.alt 3 (.op 6 (.alt 7 .done .done)) .done) (.a [3,1] (.op 6 (.alt 7 .done .done)))) .done))))]} Tryz.func151 (hvc:=?_)),
 (Zg Zu Zk mixed {} Tryz.func129 (hvc:=?_)),
 (λq0 q3 q2 q1=>Zg Zu (Zb q0 (Zb q3 (Zb q2 (Zb q1 Zk)))) mixed {loops:=[(0,[.reg 6 (.dat Iq)])],draws:=[(5,[0,0,3,7,15,0,32,127,255,511,1023,2047,4095,8191,8191,24575,65535,131071,262143,8191,8191,1581055,3678207,7872511,16777215,33554431,67108863,134217727,268435455,268435455,1073741823,2147483647,4294967295,8589934591,17179869183,34359738367,68719476735,137438953471,137438953471,549755813887,1099511627775,2199023255551,4398046511103,8796093022207,17592186044415],.u 0 7 (.alt 7 (.u 8 25 (.alt 33 (.u 34 8 (.alt 42 (.o [43,44] .done) .done)) .done)) .done))]} Tryz.func83 (hvc:=?_)),
 (λq1 q3 q0 q5 q2 q6 q4 q7 q8=>Zg Zu (Zb q1 (Zb q3 (Zb q0 (Zb q5 (Zb q2 (Zb q6 (Zb q4 (Zb q7 (Zb q8 Zk))))))))) mixed {loops:=[(0,[.reg 21 (.own (.ol 2 (.flat Iq))),.reg 22 (.dat Iq),.cello 3 0 (.ol 4 (.flat (.bool))),.cello 3 1 (.ol 92 (.flat (Jl))),.cello 3 2 (.ol 92 (.flat (Jl))),.ent 7 (nat_lit 4) (.flat Ty.bool),.ent 8 (nat_lit 92) (.flat Jl),.ent 9 (nat_lit 92) (.flat Jl),.ent 11 (nat_lit 4) (.flat ZsZ.ety)]),(2,[.reg 24 (.dat (.bool)),.reg 25 (.dat Iq)])]} Tryz.func69 (hvc:=?_))⟩
 all_goals
  intro a;repeat rcases a with ⟨_,a⟩
  rintro K ⟨r,h,hK⟩;repeat'
    conv=>whnf
    first
    | with_reducible refine ZrN ?_
    | with_reducible refine ZeX (by assumption) (by assumption) (by assumption) ?_
    | with_reducible refine Yd (by assumption) ?_
    | with_reducible refine ZeZ (by assumption) ?_
    | (with_reducible refine shD ?_);first | refine ZlD h (λh=>?_) (λh=>?_) | refine Zq7 h (λh=>?_) (λh=>?_)
    | (with_reducible refine ZsO ?_);first | refine Zwh ?_ | refine Zo7 ?_
    | (with_reducible refine Zw8 ?_);first | refine Zs5 h (λh=>?_) (λh=>?_) | refine Zs6 h (λh=>?_) (λh=>?_)
    | (with_reducible refine ZsN ?_);(refine ⟨λhd=>?_,?_⟩)<;>try subst hd
    | (with_reducible refine Zxa ?_);first | with_reducible refine ZaJ h (λx hb h=>?_) | refine ZeZ (by assumption) ?_ | with_reducible refine pG h (λhp h=>?_) | with_reducible refine pA h (λx ha hb hx h=>?_) | with_reducible refine pB h (λx hb h=>?_) | refine ZaJ h (λx hb h=>?_)
    | (with_reducible refine Zw7 ?_);first | with_reducible refine vAt h (λx ha hb hx h=>?_) | refine ZeX (by assumption) (by assumption) (by assumption) ?_ | with_reducible refine pG h (λhp h=>?_) | with_reducible refine pA h (λx ha hb hx h=>?_) | with_reducible refine pB h (λx hb h=>?_) | refine vAt h (λx ha hb hx h=>?_)
    | (with_reducible refine ZsM ?_);first | with_reducible refine ZlC h (λx hb h=>?_) | refine Yd (by assumption) ?_ | with_reducible refine pG h (λhp h=>?_) | with_reducible refine pA h (λx ha hb hx h=>?_) | with_reducible refine pB h (λx hb h=>?_) | refine ZlC h (λx hb h=>?_)
    | with_reducible refine Zw9 ?_
    | (with_reducible refine ZnZ ?_);refine Zoh h hK ?_;clear h hK;intro I μ v r h hK;(repeat rcases v with ⟨_,v⟩);(try dsimp only at h)
    | with_reducible refine ⟨by assumption,?_⟩
    | with_reducible refine orL ?_
    | with_reducible refine .inr ?_
    | (with_reducible refine ZsP ?_);first | refine ⟨?_,True.intro⟩ | refine ⟨?_,?_⟩
    | refine ⟨by kernel_rfl,?_⟩
    | refine ⟨by decide,?_⟩
    | with_reducible refine Zs7 h (λhp h=>?_)
    | intro fp
    | exact trivial
    | with_reducible exact ZrG h
    | (refine pS h (λe=>?_));subst e;(repeat (first | exact hK | exact ⟨⟨rfl,rfl⟩,hK.1 _ rfl⟩ | (refine pR hK (λe hK=>?_));subst e));done
    | refine Zs7 h (λhp h=>?_)
    | refine ⟨by assumption,?_⟩
    | with_reducible refine pG h (λhp h=>?_) | with_reducible refine pA h (λx ha hb hx h=>?_) | with_reducible refine pB h (λx hb h=>?_)
    | refine pG h (λhp h=>?_)
    | fail
theorem ZEi (q0:Sq 227 ZyR):Sq 142 ZyS:=by
 refine Zg Zu (Zb q0 Zk) mixed {} (fn:=Tryz.f142) Tryz.func142 (by kernel_rfl) (by kernel_rfl) ?_;rintro ⟨s0,v0,⟨⟩⟩ K ⟨r,h,hK⟩
 change ZBY s0 v0=some r at h
 unfold ZBY at h
 conv=>whnf
 refine ZaJ h (λint64_0 hb0 h=>?_)
 conv=>whnf
 cases h;exact hK
theorem ZEh:Sq 227 ZyR:=by
 refine Zg Zu Zk mixed {loops:=[(0,[.reg 8 (.dat Iq)])]} (fn:=Tryz.f227) Tryz.func227 (by kernel_rfl) (by kernel_rfl) ?_;rintro ⟨s0,v0,⟨⟩⟩ K ⟨r,h,hK⟩
 change ZB1 s0 v0=some r at h
 unfold ZB1 at h
 conv=>whnf
 refine ZzH h ?_;rintro I0 μ0 ⟨v1,⟨⟩⟩ zs0 h hI0 hR0
 change ZBZ s0 v0 v1=some zs0 at h
 unfold ZBZ at h
 conv=>whnf
 refine ZlD h (λh=>?_) (λh=>?_)
 conv=>whnf
 refine vAt h (λx0 he1a he1b he1x h=>?_)
 conv=>whnf
 refine ZlD h (λh=>?_) (λh=>?_)
 conv=>whnf
 cases h;obtain rfl:=hR0 _ rfl;exact hK
 conv=>whnf
 cases h;exact ⟨⟨rfl,rfl⟩,hI0 _ rfl⟩
 conv=>whnf
 cases h;obtain rfl:=hR0 _ rfl;exact hK
theorem ZEj:Sq 147 c213:=by
 refine Zg Zu Zk mixed {loops:=[(0,[.reg 5 (.dat Iq)])]} (fn:=Tryz.f147) Tryz.func147 (by kernel_rfl) (by kernel_rfl) ?_;rintro ⟨list0,x0,⟨⟩⟩ K ⟨r,h,hK⟩
 change ZCj list0 x0=some r at h
 unfold ZCj at h
 conv=>whnf
 refine ZzH h ?_;rintro I0 μ0 ⟨i0,⟨⟩⟩ zs0 h hI0 hR0
 change ZCa list0 x0 i0=some zs0 at h
 unfold ZCa at h
 conv=>whnf
 refine ZlD h (λh=>?_) (λh=>?_)
 conv=>whnf
 refine vAt h (λx1 he1a he1b he1x h=>?_)
 conv=>whnf
 refine ZlD h (λh=>?_) (λh=>?_)
 conv=>whnf
 cases h;obtain rfl:=hR0 _ rfl;exact hK
 conv=>whnf
 cases h;exact ⟨⟨rfl,rfl⟩,hI0 _ rfl⟩
 conv=>whnf
 cases h;obtain rfl:=hR0 _ rfl;exact hK
end Go.Proofs.YtgjjlgodlhhdoaaGreatDoor
