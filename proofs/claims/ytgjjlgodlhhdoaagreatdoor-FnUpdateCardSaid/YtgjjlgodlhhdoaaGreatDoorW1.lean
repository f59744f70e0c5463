/-
  The functions keep their contracts, if what they call does. Printed by program.
-/
import Derived.Test.YtgjjlgodlhhdoaaGreatDoorM
import Derived.KernelRfl
namespace Go.Proofs.YtgjjlgodlhhdoaaGreatDoor
open Go Go.Sx
set_option maxRecDepth 100000
set_option maxHeartbeats 6400000
set_option linter.unusedVariables false
set_option linter.unusedSimpArgs false
structure Ws1:Prop where
 w142:Sq 238 c141->Sq 162 ZyE
 w108:Sq 391 c107->Sq 376 Zyj
 w116:Sq 379 c116
 w120:Sq 357 c109->Sq 138 c97->Sq 358 c119->Sq 322 Zyq
 w126:Sq 232 Zyu->Sq 223 c85->Sq 220 Zyv
 w135:Sq 61 ZyB
 w134:Sq 217 Zys->Sq 218 Zyt->Sq 219 c130->Sq 220 Zyv->Sq 221 Zyz->Sq 132 ZyA
 w122:Sq 274 Zyr->Sq 275 c90->Sq 217 Zys
 w188:Sq 208 ZyZ->Sq 119 Zwn
 w165:Sq 203 c164->Sq 202 ZyM
 w167:Sq 260 c167
 w218:Sq 130 ZDZ->Sq 49 c206->Sq 131 ZyJ->Sq 57 c218
 w207:Sq 48 Zxz->Sq 142 ZyS->Sq 120 ZyV->Sq 143 c183->Sq 49 c206->Sq 131 ZyJ->Sq 67 Zza
 w92:Sq 374 c92
 w201:Sq 315 c201
 w172:Sq 48 Zxz->Sq 138 c97->Sq 139 c98->Sq 65 ZxB
 w200:Sq 211 ZxC->Sq 261 Zy0->Sq 262 Zy4->Sq 263 c196->Sq 265 c198->Sq 264 Zy5->Sq 210 Zy6
 w85:Sq 223 c85
 w0:Sq 8 c0
 w194:Sq 330 Zy2->Sq 373 c193->Sq 351 c194
 w183:Sq 228 c182->Sq 143 c183
 w107:Sq 392 Zyi->Sq 391 c107
 w103:Sq 388 Zyf->Sq 394 Zyg
 w88:Sq 340 c88
 w101:Sq 390 Zye
 w193:Sq 373 c193
 w56:Sq 172 c23->Sq 148 c56
 w216:Sq 50 c210->Sq 68 ZDV->Sq 69 ZDX->Sq 21 ZDY
 w7:Sq 37 c2->Sq 343 c6->Sq 301 c7
 w22:Sq 213 c22
 w33:Sq 172 c23->Sq 187 c33
 w13:Sq 98 c13
 w14:Sq 98 c13->Sq 103 c14
 w15:Sq 184 c15
 w74:Sq 319 c74
 w20:Sq 37 c2->Sq 35 c19->Sq 96 c18->Sq 134 c20
 w47:Sq 279 c47
 w49:Sq 279 c47->Sq 280 c48->Sq 225 c49
 w69:Sq 98 c13->Sq 270 c69
 w76:Sq 267 c65->Sq 268 c68->Sq 270 c69->Sq 273 c75->Sq 215 c76
 w57:Sq 173 c57
 w83:Sq 53 c46->Sq 37 c2->Sq 64 c83
 w211:Sq 53 c46->Sq 145 c54->Sq 68 ZDV
 w214:Sq 55 ZDW
set_option maxHeartbeats 100000000 in
theorem ws1:Ws1:=by
 refine ⟨(λq0=>Zg Zu (Zb q0 Zk) mixed {loops:=[(0,[.reg 7 (.own (.ol 202 (.flat (Jp)))),.reg 21 (.dat Iq)]),(2,[.reg 7 (.own (.ol 202 (.flat (Jp)))),.reg 29 (.dat Iq)])]} Tryz.func162 (hvc:=?_)),
 (λq0=>Zg Zu (Zb q0 Zk) mixed {} Tryz.func376 (hvc:=?_)),
 (Zg Zu Zk mixed {} Tryz.func379 (hvc:=?_)),
 (λq0 q1 q2=>Zg Zu (Zb q0 (Zb q1 (Zb q2 Zk))) mixed {loops:=[(0,[.reg 3 (.dat Iq),.reg 9 (.dat Iq)])],draws:=[(10,[0,1,3,7,15,31,7,71,199,511,1023,2047,4095,8191,16383,32767,65535],.u 0 7 (.alt 7 (.u 8 6 (.alt 14 (.o [15,16] .done) .done)) .done)),(12,[0,1,3,7,15,31,63,127,255,511,1023,2047,4095,8191,16383,32767,16383,131071,262143,524287,1048575],.u 0 10 (.alt 10 (.u 11 4 (.op 16 (.a [15,17] (.o [18,19,20] .done)))) .done))]} Tryz.func322 (hvc:=?_)),
 (λq0 q1=>Zg Zu (Zb q0 (Zb q1 Zk)) mixed {} Tryz.func220 (hvc:=?_)),
 (Zg Zu Zk mixed {loops:=[(0,[.reg 3 (.own (.ol 122 (.flat (Zg6)))),.reg 13 (.dat Iq)]),(2,[.reg 3 (.own (.ol 122 (.flat (Zg6)))),.reg 21 (.dat Iq)]),(4,[.reg 3 (.own (.ol 122 (.flat (Zg6)))),.reg 44 (.dat Iq)])]} Tryz.func61 (hvc:=?_)),
 (λq4 q2 q1 q3 q0=>Zg Zu (Zb q4 (Zb q2 (Zb q1 (Zb q3 (Zb q0 Zk))))) mixed {loops:=[(0,[.reg 25 (.dat Iq),.ent 2 (nat_lit 3) (.flat Zm6.ety)]),(2,[.reg 51 (.dat Iq),.ent 2 (nat_lit 3) (.flat Zm6.ety)])]} Tryz.func132 (hvc:=?_)),
 (λq1 q0=>Zg Zu (Zb q1 (Zb q0 Zk)) mixed {loops:=[(0,[.reg 3 (.own (.ol 9 (.flat (.str)))),.reg 9 (.dat Iq)])]} Tryz.func217 (hvc:=?_)),
 (λq0=>Zg Zu (Zb q0 Zk) mixed {draws:=[(2,[0,0,0,0,0,1,33,107,235,491,1023,2047,4095],.o [0,1,2,5] (.alt 3 (.alt 4 (.alt 6 (.o [7,8] (.alt 9 (.o [10,11] (.alt 12 .done .done)) .done)) .done) (.alt 6 (.o [7,8] (.alt 4 (.alt 9 (.o [10,11] (.alt 12 .done .done)) .done) (.a [9,4] (.o [10,11] (.alt 12 .done .done))))) .done)) (.alt 4 (.alt 3 (.alt 6 (.o [7,8] (.alt 9 (.o [10,11] (.alt 12 .done .done)) .done)) .done) (.a [6,3] (.o [7,8] (.alt 9 (.o [10,11] (.alt 12 .done .done)) .done)))) (.alt 6 (.alt 3 (.o [7,8] (.alt 4 (.alt 9 (.o [10,11] (.alt 12 .done .done)) .done) (.a [9,4] (.o [10,11] (.alt 12 .done .done))))) (.a [4,3] (.o [7,8] (.alt 9 (.o [10,11] (.alt 12 .done .done)) .done)))) .done)))),(3,[0,0,0,4,12,28,0,124,0,256,768,1792,0,8188,16381,32765,65533,131071,262143,524287],.u 0 7 (.u 8 5 (.a [7,13] (.o [14,15] (.alt 16 (.o [17,18] (.alt 19 .done .done)) .done)))))]} Tryz.func119 (hvc:=?_)),
 (λq0=>Zg Zu (Zb q0 Zk) mixed {loops:=[(0,[.reg 5 (.own (.ol 2 (.flat Iq))),.reg 16 (.dat Iq)])]} Tryz.func202 (hvc:=?_)),
 (Zg Zu Zk mixed {} Tryz.func260 (hvc:=?_)),
 (λq1 q0 q2=>Zg Zu (Zb q1 (Zb q0 (Zb q2 Zk))) mixed {loops:=[(0,[.reg 22 (.dat Iq),.cello 1008 0 (.ol 4 (.flat (.bool))),.cello 1008 1 (.ol 92 (.flat (Jl))),.cello 1008 2 (.ol 92 (.flat (Jl))),.ent 2 (nat_lit 4) (.flat Ty.bool),.ent 3 (nat_lit 92) (.flat Jl),.ent 4 (nat_lit 92) (.flat Jl)])],draws:=[(8,[0,1,0,0,8,0,0,64,0,0,0,1024,0,4096,519,16903,52799,118335,262143,524287],.u 0 4 (.o [5,6,8,9,10,12,14] (.l [4,7,11,13] (.alt 15 (.op 16 (.alt 17 (.op 18 (.alt 19 .done .done)) .done)) .done))))]} Tryz.func57 (hvc:=?_)),
 (λq3 q1 q4 q0 q2 q5=>Zg ZcW (Zb q3 (Zb q1 (Zb q4 (Zb q0 (Zb q2 (Zb q5 Zk)))))) mixed {loops:=[(0,[.reg 15 (.own (.ol 2 (.flat Iq))),.reg 28 (.dat Iq),.ent 0 (nat_lit 4) (.flat Ty.bool),.ent 1 (nat_lit 92) (.flat Jl),.ent 2 (nat_lit 92) (.flat Jl),.ent 6 (nat_lit 4) (.flat ZsZ.ety)])],draws:=[(11,[0,0,0,0,8,0,56,120,252,508,1020,2044,1020,5116,1020,29692,62460,131068,262140,524284,1048572,2097148,1048572,5242876,1048572,30408700,63963132,134217724,268435452,536870911,1073741823],.u 0 30 (.alt 30 .done .done)),(12,[0,1,0,0,8,0,0,64,0,0,0,1024,0,4096,519,16903,52799,118335,262143,524287],.u 0 4 (.o [5,6,8,9,10,12,14] (.l [4,7,11,13] (.alt 15 (.op 16 (.alt 17 (.op 18 (.alt 19 .done .done)) .done)) .done))))]} Tryz.func67 (hvc:=?_)),
 (Zg Zu Zk mixed {} Tryz.func374 (hvc:=?_)),
 (Zg Zu Zk mixed {loops:=[(0,[.reg 3 (.dat Iq),.reg 4 (.dat Iq)])]} Tryz.func315 (hvc:=?_)),
 (λq1 q2 q0=>Zg Zu (Zb q1 (Zb q2 (Zb q0 Zk))) mixed {} Tryz.func65 (hvc:=?_)),
 (λq2 q3 q1 q4 q0 q5=>Zg Zu (Zb q2 (Zb q3 (Zb q1 (Zb q4 (Zb q0 (Zb q5 Zk)))))) mixed {draws:=[(5,[0,0,3,7,0,16,48,127,255,0,0,1024,3072,7168,0,31744,64512,0,262143,524287],.o [0,1,4,5,6] (.u 9 9 (.alt 2 (.o [3,7,8] (.alt 18 (.op 19 .done) .done)) .done))),(6,[0,1,3,7,0,31,63,0,128,511,1023,0,4095,8191],.u 0 12 (.alt 12 (.op 13 .done) .done))]} Tryz.func210 (hvc:=?_)),
 (Zg Zu Zk mixed {} Tryz.func223 (hvc:=?_)),
 (Zg Zu Zk mixed {} Tryz.func8 (hvc:=?_)),
 (λq1 q0=>Zg Zu (Zb q1 (Zb q0 Zk)) mixed {loops:=[(0,[.reg 7 (.dat Iq),.reg 8 (.dat Iq)])]} Tryz.func351 (hvc:=?_)),
 (λq0=>Zg Zu (Zb q0 Zk) mixed {} Tryz.func143 (hvc:=?_)),
 (λq0=>Zg Zu (Zb q0 Zk) mixed {loops:=[(0,[.reg 8 (.dat Iq)])]} Tryz.func391 (hvc:=?_)),
 (λq0=>Zg Zu (Zb q0 Zk) mixed {loops:=[(0,[.reg 8 (.dat Iq)])]} Tryz.func394 (hvc:=?_)),
 (Zg Zu Zk mixed {loops:=[(0,[.reg 8 (.dat Iq)])]} Tryz.func340 (hvc:=?_)),
 (Zg Zu Zk mixed {loops:=[(0,[.reg 3 (.dat Iq),.reg 4 (.dat Iq)])]} Tryz.func390 (hvc:=?_)),
 (Zg Zu Zk mixed {} Tryz.func373 (hvc:=?_)),
 (λq0=>Zg Zu (Zb q0 Zk) mixed {} Tryz.func148 (hvc:=?_)),
 (λq2 q1 q0=>Zg Zu (Zb q2 (Zb q1 (Zb q0 Zk))) mixed {} Tryz.func21 (hvc:=?_)),
 (λq1 q0=>Zg ZcW (Zb q1 (Zb q0 Zk)) mixed {} Tryz.func301 (hvc:=?_)),
 (Zg Zu Zk mixed {loops:=[(0,[.reg 3 (.dat Iq)])]} Tryz.func213 (hvc:=?_)),
 (λq0=>Zg Zu (Zb q0 Zk) mixed {loops:=[(0,[.reg 6 (.dat Iq)]),(2,[.reg 8 (.dat Iq)]),(4,[.reg 9 (.dat Iq)])],draws:=[(6,[0,1,0,4,12,28,63,127,255,511,1023,2047,511,4607,511,16895,61951,127487,258559,520703,1048575,2097151],.u 0 6 (.alt 6 (.u 7 15 .done) .done))]} Tryz.func187 (hvc:=?_)),
 (Zg Zu Zk mixed {loops:=[(0,[.reg 3 (.own (.ol 181 (.flat (Zev)))),.reg 4 (.dat Iq)]),(2,[.reg 3 (.own (.ol 181 (.flat (Zev)))),.reg 6 (.dat Iq)]),(4,[.reg 3 (.own (.ol 181 (.flat (Zev)))),.reg 7 (.dat Iq)])],draws:=[(13,[0,0,0,4,0,28,60,124,0,256,0,1792,3840,7936,16128,32766,65534,131071,262143],.u 0 16 (.a [16,17] (.op 18 .done)))]} Tryz.func98 (hvc:=?_)),
 (λq0=>Zg Zu (Zb q0 Zk) mixed {loops:=[(0,[.reg 5 (.own (.ol 2 (.flat Iq))),.reg 7 (.dat Iq)])]} Tryz.func103 (hvc:=?_)),
 (Zg Zu Zk mixed {} Tryz.func184 (hvc:=?_)),
 (Zg Zu Zk mixed {loops:=[(0,[.reg 5 (.dat Iq),.reg 6 (.dat Iq)])]} Tryz.func319 (hvc:=?_)),
 (λq1 q0 q2=>Zg ZcW (Zb q1 (Zb q0 (Zb q2 Zk))) mixed {} Tryz.func134 (hvc:=?_)),
 (Zg Zu Zk mixed {loops:=[(0,[.reg 12 (.dat (.bool)),.ent 0 (nat_lit 4) (.flat ZsZ.ety)]),(2,[.reg 12 (.dat (.bool)),.reg 13 (.dat Iq),.ent 0 (nat_lit 4) (.flat ZsZ.ety)])],draws:=[(9,[0,0,3,7,15,0,0,96,224,480,31,2047],.u 0 12 .done)]} Tryz.func279 (hvc:=?_)),
 (λq0 q1=>Zg ZcW (Zb q0 (Zb q1 Zk)) mixed {loops:=[(0,[.reg 7 (.own (.ol 38 (.ol 2 (.flat Iq)))),.reg 9 (.dat Iq),.ent 1 (nat_lit 4) (.flat ZsZ.ety)]),(2,[.reg 12 (.own (.ol 2 (.flat Iq))),.reg 13 (.dat Iq),.ent 1 (nat_lit 4) (.flat ZsZ.ety)])]} Tryz.func225 (hvc:=?_)),
 (λq0=>Zg Zu (Zb q0 Zk) mixed {draws:=[(1,[0,1,3,0,8,24,63,127,255,511],.o [0,1,3,4,5] (.alt 2 (.u 6 4 .done) .done))]} Tryz.func270 (hvc:=?_)),
 (λq2 q0 q3 q1=>Zg Zu (Zb q2 (Zb q0 (Zb q3 (Zb q1 Zk)))) mixed {draws:=[(4,[0,0,0,6,0,16,0,0,255,511,1023],.o [0,1,2] (.u 4 4 (.a [3,8] (.o [9,10] .done))))]} Tryz.func215 (hvc:=?_)),
 (Zg Zu Zk mixed {} Tryz.func173 (hvc:=?_)),
 (λq0 q1=>Zg Zu (Zb q0 (Zb q1 Zk)) mixed {loops:=[(0,[.reg 5 (.own (.ol 2 (.flat Iq))),.reg 6 (.dat Iq),.cell 0 0 (.sl (.int .u8)),.cell 0 1 Iq,.cell 0 2 Iq])]} Tryz.func64 (hvc:=?_)),
 (λq1 q0=>Zg Zu (Zb q1 (Zb q0 Zk)) mixed {} Tryz.func68 (hvc:=?_)),
 (Zg ZcW Zk mixed {draws:=[(3,[0,1,0,7,15,0,63,127,255,511,255,2047,4095,255,8447,32767,65535,131071,262143,524287,262143,2097151,4194303,262143,8650751,33554431,67108863,134217727],.u 0 28 .done)]} Tryz.func55 (hvc:=?_))⟩
 all_goals
  intro a;repeat rcases a with ⟨_,a⟩
  rintro K ⟨r,h,hK⟩;repeat'
    conv=>whnf
    first
    | with_reducible refine ZrN ?_
    | with_reducible refine ZeX (by assumption) (by assumption) (by assumption) ?_
    | with_reducible refine Yd (by assumption) ?_
    | with_reducible refine ZeZ (by assumption) ?_
    | (with_reducible refine shD ?_);first | refine ZlD h (λh=>?_) (λh=>?_) | refine Zq7 h (λh=>?_) (λh=>?_)
    | (with_reducible refine ZsO ?_);first | refine Zwh ?_ | refine Zo7 ?_
    | (with_reducible refine Zw8 ?_);first | refine Zs5 h (λh=>?_) (λh=>?_) | refine Zs6 h (λh=>?_) (λh=>?_)
    | (with_reducible refine ZsN ?_);(refine ⟨λhd=>?_,?_⟩)<;>try subst hd
    | (with_reducible refine Zxa ?_);first | with_reducible refine ZaJ h (λx hb h=>?_) | refine ZeZ (by assumption) ?_ | with_reducible refine pG h (λhp h=>?_) | with_reducible refine pA h (λx ha hb hx h=>?_) | with_reducible refine pB h (λx hb h=>?_) | refine ZaJ h (λx hb h=>?_)
    | (with_reducible refine Zw7 ?_);first | with_reducible refine vAt h (λx ha hb hx h=>?_) | refine ZeX (by assumption) (by assumption) (by assumption) ?_ | with_reducible refine pG h (λhp h=>?_) | with_reducible refine pA h (λx ha hb hx h=>?_) | with_reducible refine pB h (λx hb h=>?_) | refine vAt h (λx ha hb hx h=>?_)
    | (with_reducible refine ZsM ?_);first | with_reducible refine ZlC h (λx hb h=>?_) | refine Yd (by assumption) ?_ | with_reducible refine pG h (λhp h=>?_) | with_reducible refine pA h (λx ha hb hx h=>?_) | with_reducible refine pB h (λx hb h=>?_) | refine ZlC h (λx hb h=>?_)
    | with_reducible refine Zw9 ?_
    | (with_reducible refine ZnZ ?_);refine Zoh h hK ?_;clear h hK;intro I μ v r h hK;(repeat rcases v with ⟨_,v⟩);(try dsimp only at h)
    | with_reducible refine ⟨by assumption,?_⟩
    | with_reducible refine orL ?_
    | with_reducible refine .inr ?_
    | (with_reducible refine ZsP ?_);first | refine ⟨?_,True.intro⟩ | refine ⟨?_,?_⟩
    | refine ⟨by kernel_rfl,?_⟩
    | refine ⟨by decide,?_⟩
    | with_reducible refine Zs7 h (λhp h=>?_)
    | intro fp
    | exact trivial
    | with_reducible exact ZrG h
    | (refine pS h (λe=>?_));subst e;(repeat (first | exact hK | exact ⟨⟨rfl,rfl⟩,hK.1 _ rfl⟩ | (refine pR hK (λe hK=>?_));subst e));done
    | refine Zs7 h (λhp h=>?_)
    | refine ⟨by assumption,?_⟩
    | with_reducible refine pG h (λhp h=>?_) | with_reducible refine pA h (λx ha hb hx h=>?_) | with_reducible refine pB h (λx hb h=>?_)
    | refine pG h (λhp h=>?_)
    | fail
end Go.Proofs.YtgjjlgodlhhdoaaGreatDoor
