/-
  The functions keep their contracts, if what they call does. Printed by program.
-/
import Derived.Test.YtepbknolmhmipaaGreatDoorM
import Derived.KernelRfl
namespace Go.Proofs.YtepbknolmhmipaaGreatDoor
open Go Go.Sx
set_option maxRecDepth 100000
set_option maxHeartbeats 100000000
set_option linter.unusedVariables false
set_option linter.unusedSimpArgs false
structure Ws2:Prop where
 w151:Sq 210 ZwR
 w157:Sq 113 c156->Sq 214 c157
 w142:Sq 274 ZwK->Sq 207 c97->Sq 275 c141->Sq 203 ZwN
 w149:Sq 112 c105->Sq 207 c97->Sq 208 c148->Sq 209 c109->Sq 110 ZwP
 w193:Sq 46 ZwQ->Sq 47 c159->Sq 48 Zw7->Sq 49 Zxb->Sq 11 c193
 w102:Sq 281 c98->Sq 282 Zwo->Sq 216 ZtN
 w109:Sq 275 Zws->Sq 209 c109
 w106:Sq 207 c97->Sq 278 Zwr
 w187:Sq 286 Zdk->Sq 226 ZuE
 w170:Sq 207 c97->Sq 283 ZwY
 w105:Sq 112 c105
 w159:Sq 109 Zun->Sq 111 c152->Sq 112 c105->Sq 113 c156->Sq 114 ZwU->Sq 47 c159
 w174:Sq 119 ZvX->Sq 207 c97->Sq 219 c171->Sq 220 c173->Sq 120 Zw0
 w190:Sq 127 ZvZ->Sq 126 Zv0->Sq 226 ZuE->Sq 125 Zw9
 w184:Sq 115 c160->Sq 116 c164->Sq 117 ZwX->Sq 120 Zw0->Sq 121 Zw4->Sq 124 c183->Sq 48 Zw7
 w186:Sq 229 ZvY->Sq 127 ZvZ
 w199:Sq 361 c198->Sq 327 Zxe
 w202:Sq 230 c201->Sq 129 Zxg
 w203:Sq 129 Zxg->Sq 50 c203
 w194:Sq 326 c194
 w215:Sq 234 Zxn
 w8:Sq 183 c7->Sq 82 c8
 w24:Sq 89 c24
 w15:Sq 83 c11->Sq 84 c12->Sq 85 c14->Sq 31 c15
 w21:Sq 34 c21
 w11:Sq 184 c10->Sq 83 c11
 w0:Sq 311 c0
 w26:Sq 33 c20->Sq 34 c21->Sq 35 c23->Sq 36 c25->Sq 7 c26
 w33:Sq 315 c32->Sq 272 c33
 w34:Sq 271 c28->Sq 272 c33->Sq 199 c29->Sq 196 c34
 w53:Sq 107 c53
 w52:Sq 106 c51->Sq 44 c52
 w27:Sq 314 c27
 w41:Sq 198 c40->Sq 102 c41
 w55:Sq 42 c47->Sq 43 c50->Sq 44 c52->Sq 45 c54->Sq 10 c55
 w39:Sq 101 c39
 w44:Sq 103 c43->Sq 41 c44
 w126:Sq 373 ZwC->Sq 343 ZwD
 w116:Sq 401 Zwx->Sq 388 c116
 w108:Sq 319 c107->Sq 275 Zws
 w145:Sq 277 ZwO->Sq 205 c145
 w140:Sq 276 c139->Sq 319 ZwM
 w144:Sq 206 c143->Sq 277 ZwO
 w77:Sq 187 c74->Sq 188 c75->Sq 189 c57->Sq 190 c76->Sq 90 c77
 w78:Sq 189 c57->Sq 250 c56->Sq 191 c78
 w82:Sq 78 c73->Sq 192 c81->Sq 189 c57->Sq 93 c82
 w66:Sq 310 c65->Sq 262 c66
 w61:Sq 400 c60->Sq 387 c61
 w64:Sq 338 c64
 w88:Sq 194 c88
 w83:Sq 193 c83
 w74:Sq 250 c56->Sq 189 c57->Sq 187 c74
 w93:Sq 270 c92->Sq 195 c93
 w87:Sq 144 c86->Sq 97 c87
set_option maxHeartbeats 100000000 in
theorem ws2:Ws2:=by
 refine ⟨(Zf Zn Zi mixed {} Tryz.func210 (hvc:=?_)),
 (λq0=>Zf Zn (Zb q0 Zi) mixed {loops:=[(0,[.reg 8 (.dat Iq),.ent 3 (nat_lit 2) (.flat Ztj.ety)])],draws:=[(1,[],.u 0 7 (.alt 7 (.a [8,9] (.op 10 .done)) (.a [8,7,9] (.op 10 .done)))),(6,[],.u 0 22 (.d 22))]} Tryz.func214 (hvc:=?_)),
 (λq1 q2 q0=>Zf Zn (Zb q1 (Zb q2 (Zb q0 Zi))) mixed {draws:=[(1,[],.u 0 4 (.alt 4 (.op 5 (.alt 6 (.u 7 18 (.alt 25 (.o [26,27,28] .done) .done)) .done)) .done))]} Tryz.func203 (hvc:=?_)),
 (λq0 q3 q1 q2=>Zf Zn (Zb q0 (Zb q3 (Zb q1 (Zb q2 Zi)))) mixed {} Tryz.func110 (hvc:=?_)),
 (λq2 q3 q1 q0=>Zf Zn (Zb q2 (Zb q3 (Zb q1 (Zb q0 Zi)))) mixed {} Tryz.func11 (hvc:=?_)),
 (λq1 q0=>Zf Zn (Zb q1 (Zb q0 Zi)) mixed {loops:=[(0,[.reg 7 (.dat Iq)])]} Tryz.func216 (hvc:=?_)),
 (λq0=>Zf Zn (Zb q0 Zi) mixed {} Tryz.func209 (hvc:=?_)),
 (λq0=>Zf Zn (Zb q0 Zi) mixed {} Tryz.func278 (hvc:=?_)),
 (λq0=>Zf Zn (Zb q0 Zi) mixed {} Tryz.func226 (hvc:=?_)),
 (λq0=>Zf Zn (Zb q0 Zi) mixed {} Tryz.func283 (hvc:=?_)),
 (Zf Zn Zi mixed {} Tryz.func112 (hvc:=?_)),
 (λq3 q1 q4 q2 q0=>Zf Zb7 (Zb q3 (Zb q1 (Zb q4 (Zb q2 (Zb q0 Zi))))) mixed {loops:=[(0,[.reg 4 (.dat Iq),.reg 25 (.dat Iq),.cello 1020 6 (.ol 197 (.flat (ZmI)))]),(2,[.reg 60 (.dat Iq),.ent 4 (nat_lit 2) (.flat Ztj.ety),.ent 5 (nat_lit 65) (Dp.ol (2:Go.TypeId) (Dp.flat (Ty.int IntKind.i64)))]),(4,[.reg 88 (.dat Iq),.cello 1020 7 (.ol 2 (.flat Iq)),.cello 1020 8 (.ol 65 (.ol 2 (.flat Iq))),.cello 1020 6 (.ol (nat_lit 197) (.flat ZmI)),.ent 5 (nat_lit 65) (Dp.ol (2:Go.TypeId) (Dp.flat (Ty.int IntKind.i64)))]),(6,[.reg 122 (.dat Iq),.cello 1020 6 (.ol (nat_lit 197) (.flat ZmI))]),(8,[.reg 127 (.dat Iq),.cello 1020 6 (.ol (nat_lit 197) (.flat ZmI))])],draws:=[(1,[],.o [0,1,2] (.alt 3 (.op 4 (.alt 5 (.op 6 .done) .done)) .done)),(6,[],.u 0 8 (.a [8,9] (.o [10,11] (.d 12)))),(16,[],.o [0,1] (.u 3 6 (.ld 2 (.a [9,10] (.op 11 (.d 12)))))),(21,[],.u 0 7 (.alt 7 (.o [8,9] (.a [10,11] (.o [12,13] (.d 14)))) .done)),(22,[],.u 0 7 (.a [7,8,9] (.o [10,11] (.d 12)))),(29,[],.u 0 18 (.a [18,19] (.o [20,21] (.d 22))))]} Tryz.func47 (hvc:=?_)),
 (λq0 q2 q3 q1=>Zf Zn (Zb q0 (Zb q2 (Zb q3 (Zb q1 Zi)))) mixed {loops:=[(0,[.reg 13 (.dat Iq)])],draws:=[(4,[],.o [0,1,2] (.alt 3 (.u 4 41 .done) .done))]} Tryz.func120 (hvc:=?_)),
 (λq0 q2 q1=>Zf Zn (Zb q0 (Zb q2 (Zb q1 Zi))) mixed {draws:=[(2,[],.u 0 5 (.u 7 12 (.alt 5 (.alt 6 (.a [19,20] (.op 21 .done)) (.a [19,6,20] (.op 21 .done))) (.a [19,5,6,20] (.op 21 .done))))),(6,[],.u 0 5 (.u 6 8 (.op 15 (.u 17 6 (.alt 5 (.alt 14 (.alt 16 (.a [23,24] (.op 25 .done)) (.a [23,16,24] (.op 25 .done))) (.a [23,14,16,24] (.op 25 .done))) (.a [23,5,14,16,24] (.op 25 .done)))))))]} Tryz.func125 (hvc:=?_)),
 (λq2 q5 q1 q3 q0 q4=>Zf Zn (Zb q2 (Zb q5 (Zb q1 (Zb q3 (Zb q0 (Zb q4 Zi)))))) mixed {} Tryz.func48 (hvc:=?_)),
 (λq0=>Zf Zn (Zb q0 Zi) mixed {draws:=[(1,[],.u 0 17 (.alt 17 (.op 18 .done) .done))]} Tryz.func127 (hvc:=?_)),
 (λq0=>Zf Zn (Zb q0 Zi) mixed {} Tryz.func327 (hvc:=?_)),
 (λq0=>Zf Zn (Zb q0 Zi) mixed {loops:=[(0,[.reg 5 (.dat Iq)])],draws:=[(6,[],.u 0 8 (.alt 8 (.op 9 .done) .done))]} Tryz.func129 (hvc:=?_)),
 (λq0=>Zf Zn (Zb q0 Zi) mixed {} Tryz.func50 (hvc:=?_)),
 (Zf Zn Zi mixed {} Tryz.func326 (hvc:=?_)),
 (Zf Zn Zi mixed {} Tryz.func234 (hvc:=?_)),
 (λq0=>Zf Zn (Zb q0 Zi) mixed {loops:=[(0,[.reg 1 (.dat Iq),.reg 5 (.dat Iq)])]} Tryz.func82 (hvc:=?_)),
 (Zf Zn Zi mixed {} Tryz.func89 (hvc:=?_)),
 (λq0 q1 q2=>Zf Zn (Zb q0 (Zb q1 (Zb q2 Zi))) mixed {} Tryz.func31 (hvc:=?_)),
 (Zf Zn Zi mixed {} Tryz.func34 (hvc:=?_)),
 (λq0=>Zf Zn (Zb q0 Zi) mixed {loops:=[(0,[.reg 1 (.dat Iq),.reg 5 (.dat Iq)])]} Tryz.func83 (hvc:=?_)),
 (Zf Zn Zi mixed {} Tryz.func311 (hvc:=?_)),
 (λq3 q1 q0 q2=>Zf Zn (Zb q3 (Zb q1 (Zb q0 (Zb q2 Zi)))) mixed {} Tryz.func7 (hvc:=?_)),
 (λq0=>Zf Zb7 (Zb q0 Zi) mixed {loops:=[(0,[.reg 4 (.dat Iq),.ent 0 (nat_lit 296) Zup])]} Tryz.func272 (hvc:=?_)),
 (λq1 q2 q0=>Zf Zb7 (Zb q1 (Zb q2 (Zb q0 Zi))) mixed {} Tryz.func196 (hvc:=?_)),
 (Zf Zn Zi mixed {} Tryz.func107 (hvc:=?_)),
 (λq0=>Zf Zb7 (Zb q0 Zi) mixed {loops:=[(0,[.reg 4 (.dat Iq),.ent 0 (nat_lit 158) Zdf])]} Tryz.func44 (hvc:=?_)),
 (Zf Zn Zi mixed {} Tryz.func314 (hvc:=?_)),
 (λq0=>Zf Zn (Zb q0 Zi) mixed {loops:=[(0,[.reg 4 (.dat Iq),.ent 0 (nat_lit 258) (.flat ZxC.ety)])]} Tryz.func102 (hvc:=?_)),
 (λq3 q1 q0 q2=>Zf Zb7 (Zb q3 (Zb q1 (Zb q0 (Zb q2 Zi)))) mixed {} Tryz.func10 (hvc:=?_)),
 (Zf Zn Zi mixed {loops:=[(0,[.reg 4 (.dat Iq),.ent 0 (nat_lit 9) (.flat Zwh.ety)])]} Tryz.func101 (hvc:=?_)),
 (λq0=>Zf Zb7 (Zb q0 Zi) mixed {loops:=[(0,[.reg 4 (.dat Iq),.ent 0 (nat_lit 67) Zql])]} Tryz.func41 (hvc:=?_)),
 (λq0=>Zf Zn (Zb q0 Zi) mixed {} Tryz.func343 (hvc:=?_)),
 (λq0=>Zf Zn (Zb q0 Zi) mixed {} Tryz.func388 (hvc:=?_)),
 (λq0=>Zf Zn (Zb q0 Zi) mixed {} Tryz.func275 (hvc:=?_)),
 (λq0=>Zf Zn (Zb q0 Zi) mixed {} Tryz.func205 (hvc:=?_)),
 (λq0=>Zf Zn (Zb q0 Zi) mixed {loops:=[(0,[.reg 8 (.dat Iq)])]} Tryz.func319 (hvc:=?_)),
 (λq0=>Zf Zn (Zb q0 Zi) mixed {loops:=[(0,[.reg 8 (.dat Iq)])]} Tryz.func277 (hvc:=?_)),
 (λq1 q0 q2 q3=>Zf Zn (Zb q1 (Zb q0 (Zb q2 (Zb q3 Zi)))) mixed {loops:=[(0,[.reg 3 (.dat Iq)]),(2,[.reg 5 (.dat Iq)])],draws:=[(10,[],.u 0 8 .done)]} Tryz.func90 (hvc:=?_)),
 (λq1 q0=>Zf Zn (Zb q1 (Zb q0 Zi)) mixed {loops:=[(0,[.reg 4 (.dat Iq)])]} Tryz.func191 (hvc:=?_)),
 (λq1 q0 q2=>Zf Zn (Zb q1 (Zb q0 (Zb q2 Zi))) mixed {} Tryz.func93 (hvc:=?_)),
 (λq0=>Zf Zn (Zb q0 Zi) mixed {loops:=[(0,[.reg 3 (.dat Iq)]),(2,[.reg 4 (.dat Iq)])],draws:=[(9,[],.u 0 13 .done)]} Tryz.func262 (hvc:=?_)),
 (λq0=>Zf Zn (Zb q0 Zi) mixed {loops:=[(0,[.reg 5 (.dat Iq),.cell 1004 0 Iq,.cell 1004 1 Iq])],draws:=[(3,[],.u 0 9 (.a [9,10] .done)),(7,[],.u 0 9 (.d 9)),(8,[],.u 0 9 (.d 9))]} Tryz.func387 (hvc:=?_)),
 (Zf Zn Zi mixed {loops:=[(0,[.reg 4 (.dat Iq),.ent 1 (nat_lit 2) (.flat Ztj.ety)])]} Tryz.func338 (hvc:=?_)),
 (Zf Zn Zi mixed {draws:=[(4,[],.u 0 17 .done)]} Tryz.func194 (hvc:=?_)),
 (Zf Zn Zi mixed {} Tryz.func193 (hvc:=?_)),
 (λq0 q1=>Zf Zn (Zb q0 (Zb q1 Zi)) mixed {} Tryz.func187 (hvc:=?_)),
 (λq0=>Zf Zn (Zb q0 Zi) mixed {loops:=[(0,[.reg 7 (.dat (.str)),.reg 8 (.dat Iq)])],draws:=[(5,[],.u 0 13 (.alt 13 (.o [14,15] .done) .done))]} Tryz.func195 (hvc:=?_)),
 (λq0=>Zf Zn (Zb q0 Zi) mixed {loops:=[(0,[.reg 3 (.dat (.str)),.reg 4 (.dat Iq)])]} Tryz.func97 (hvc:=?_))⟩
 all_goals
  intro a;repeat rcases a with ⟨_,a⟩
  rintro K ⟨r,h,hK⟩;repeat'
    conv=>whnf
    first
    | with_reducible refine Zsx ?_
    | with_reducible refine Zf3 (by assumption) (by assumption) (by assumption) ?_
    | with_reducible refine Zjl (by assumption) ?_
    | with_reducible refine Zgc (by assumption) ?_
    | (with_reducible refine shD ?_);first | refine Zph h (λh=>?_) (λh=>?_) | refine Ztl h (λh=>?_) (λh=>?_)
    | (with_reducible refine Ztb ?_);first | refine Zuv ?_ | refine Zpi ?_
    | (with_reducible refine Zwe ?_);first | refine ZqR h (λh=>?_) (λh=>?_) | refine Ztk h (λh=>?_) (λh=>?_)
    | (with_reducible refine Zta ?_);(refine ⟨λhd=>?_,?_⟩)<;>try subst hd
    | (with_reducible refine Zwg ?_);first | with_reducible refine Zfy h (λx hb h=>?_) | refine Zgc (by assumption) ?_ | with_reducible refine pG h (λhp h=>?_) | with_reducible refine pA h (λx ha hb hx h=>?_) | with_reducible refine pB h (λx hb h=>?_) | refine Zfy h (λx hb h=>?_)
    | (with_reducible refine Zwd ?_);first | with_reducible refine vAt h (λx ha hb hx h=>?_) | refine Zf3 (by assumption) (by assumption) (by assumption) ?_ | with_reducible refine pG h (λhp h=>?_) | with_reducible refine pA h (λx ha hb hx h=>?_) | with_reducible refine pB h (λx hb h=>?_) | refine vAt h (λx ha hb hx h=>?_)
    | (with_reducible refine Zs9 ?_);first | with_reducible refine ZoE h (λx hb h=>?_) | refine Zjl (by assumption) ?_ | with_reducible refine pG h (λhp h=>?_) | with_reducible refine pA h (λx ha hb hx h=>?_) | with_reducible refine pB h (λx hb h=>?_) | refine ZoE h (λx hb h=>?_)
    | with_reducible refine Zwf ?_
    | (with_reducible refine Zp6 ?_);refine Zqd h hK ?_;clear h hK;intro I μ v r h hK;(repeat rcases v with ⟨_,v⟩);(try dsimp only at h)
    | with_reducible refine ⟨by assumption,?_⟩
    | with_reducible refine orL ?_
    | with_reducible refine .inr ?_
    | (with_reducible refine Ztc ?_);first | refine ⟨?_,True.intro⟩ | refine ⟨?_,?_⟩
    | refine ⟨by kernel_rfl,?_⟩
    | refine ⟨by decide,?_⟩
    | with_reducible refine Ztm h (λhp h=>?_)
    | intro fp
    | exact trivial
    | with_reducible exact Zsw h
    | (refine pS h (λe=>?_));subst e;(repeat (first | exact hK | exact ⟨⟨rfl,rfl⟩,hK.1 _ rfl⟩ | (refine pR hK (λe hK=>?_));subst e));done
    | refine Ztm h (λhp h=>?_)
    | refine ⟨by assumption,?_⟩
    | with_reducible refine pG h (λhp h=>?_) | with_reducible refine pA h (λx ha hb hx h=>?_) | with_reducible refine pB h (λx hb h=>?_)
    | refine pG h (λhp h=>?_)
    | fail
theorem ZAl (q1:Sq 226 ZuE) (q0:Sq 229 ZvY):Sq 128 Zxa:=by
 refine Zf Zn (Zb q1 (Zb q0 Zi)) mixed {loops:=[(0,[.reg 5 (.dat (.str)),.reg 31 (.dat Iq)]),(2,[.reg 5 (.dat (.str)),.reg 38 (.dat Iq)])],draws:=[(10,[],.o [0,2] (.u 5 17 (.alt 1 (.o [3,4] (.alt 22 (.o [23,24,25] .done) .done)) (.a [22,1] (.o [3,4,23,24,25] .done)))))]} (fn:=Tryz.f128) Tryz.func128 (by kernel_rfl) (by kernel_rfl) ?_;rintro ⟨a0,a1,⟨⟩⟩ K ⟨r,h,hK⟩
 change Y3 a0 a1=some r at h
 unfold Y3 at h
 conv=>whnf
 refine vAt h (λx0 he0a he0b he0x h=>?_)
 conv=>whnf
 refine Zpi ?_;refine Zph h (λh=>?_) (λh=>?_)
 conv=>whnf
 refine ZxP h ?_;rintro I1 μ1 ⟨v0,v1,⟨⟩⟩ zs1 h hI1 hR1
 change Yj a0 a1 v0 v1=some zs1 at h
 unfold Yj at h
 conv=>whnf
 refine Zph h (λh=>?_) (λh=>?_)
 conv=>whnf
 refine vAt h (λx1 he2a he2b he2x h=>?_)
 conv=>whnf
 refine ⟨by kernel_rfl,?_⟩
 conv=>whnf
 refine ⟨he2a,he2b,Zjl he2x ?_⟩
 conv=>whnf
 refine ZxP h ?_;rintro I3 μ3 ⟨v2,v3,⟨⟩⟩ zs3 h hI3 hR3
 change Xg a0 v1 x1 v2 v3=some zs3 at h
 unfold Xg at h
 conv=>whnf
 refine Zph h (λh=>?_) (λh=>?_)
 focus
  conv=>whnf
  refine vAt h (λx2 he4a he4b he4x h=>?_)
  conv=>whnf
  refine ⟨by kernel_rfl,?_⟩
  conv=>whnf
  refine vAt h (λx3 he5a he5b he5x h=>?_)
  conv=>whnf
  obtain ⟨x4,he6a,he6b,he6x,h⟩:=atE h;obtain ⟨nameOf0,hb7,h⟩:=Option.bind_eq_some_iff.1 h;obtain ⟨hp8,h⟩:=guardE h;obtain ⟨hp9,h⟩:=guardE h;refine ⟨?_,?_⟩;rotate_left
  focus
   conv=>whnf
   refine ⟨_,hb7,?_⟩
   conv=>whnf
   refine ⟨he6a,he6b,Zjl he6x ?_⟩
   conv=>whnf
   refine ⟨by kernel_rfl,?_⟩
   conv=>whnf
   refine ⟨he6a,he6b,Zjl he6x ?_⟩
   conv=>whnf
   refine ⟨hp8,?_⟩
   conv=>whnf
   refine ⟨hp9,?_⟩
   conv=>whnf
   refine ⟨trivial,?_⟩
  rotate_right
  focus
   conv=>whnf
   refine ⟨he6a,he6b,Zjl he6x ?_⟩
   conv=>whnf
   refine ⟨by kernel_rfl,?_⟩
   conv=>whnf
   refine ⟨he6a,he6b,Zjl he6x ?_⟩
   conv=>whnf
   refine ⟨_,hb7,?_⟩
   conv=>whnf
   refine ⟨hp8,?_⟩
   conv=>whnf
   refine ⟨hp9,?_⟩
   conv=>whnf
   refine ⟨trivial,?_⟩
  all_goals
   conv=>whnf
   cases h;exact ⟨⟨rfl,rfl⟩,hI3 _ rfl⟩
 conv=>whnf
 cases h;obtain rfl:=hR3 _ rfl;exact ⟨⟨rfl,rfl⟩,hI1 _ rfl⟩
 conv=>whnf
 cases h;obtain rfl:=hR1 _ rfl;exact hK
 conv=>whnf
 refine Zfy h (λdecimal0 hb10 h=>?_)
 conv=>whnf
 refine Ztm h (λhp11 h=>?_)
 conv=>whnf
 refine Ztm h (λhp12 h=>?_)
 conv=>whnf
 refine ZxP h ?_;rintro I13 μ13 ⟨v0,v1,⟨⟩⟩ zs13 h hI13 hR13
 change Yj a0 a1 v0 v1=some zs13 at h
 unfold Yj at h
 conv=>whnf
 refine Zph h (λh=>?_) (λh=>?_)
 conv=>whnf
 refine vAt h (λx1 he14a he14b he14x h=>?_)
 conv=>whnf
 refine ⟨by kernel_rfl,?_⟩
 conv=>whnf
 refine ⟨he14a,he14b,Zjl he14x ?_⟩
 conv=>whnf
 refine ZxP h ?_;rintro I15 μ15 ⟨v2,v3,⟨⟩⟩ zs15 h hI15 hR15
 change Xg a0 v1 x1 v2 v3=some zs15 at h
 unfold Xg at h
 conv=>whnf
 refine Zph h (λh=>?_) (λh=>?_)
 focus
  conv=>whnf
  refine vAt h (λx2 he16a he16b he16x h=>?_)
  conv=>whnf
  refine ⟨by kernel_rfl,?_⟩
  conv=>whnf
  refine vAt h (λx3 he17a he17b he17x h=>?_)
  conv=>whnf
  obtain ⟨x4,he18a,he18b,he18x,h⟩:=atE h;obtain ⟨nameOf0,hb19,h⟩:=Option.bind_eq_some_iff.1 h;obtain ⟨hp20,h⟩:=guardE h;obtain ⟨hp21,h⟩:=guardE h;refine ⟨?_,?_⟩;rotate_left
  focus
   conv=>whnf
   refine ⟨_,hb19,?_⟩
   conv=>whnf
   refine ⟨he18a,he18b,Zjl he18x ?_⟩
   conv=>whnf
   refine ⟨by kernel_rfl,?_⟩
   conv=>whnf
   refine ⟨he18a,he18b,Zjl he18x ?_⟩
   conv=>whnf
   refine ⟨hp20,?_⟩
   conv=>whnf
   refine ⟨hp21,?_⟩
   conv=>whnf
   refine ⟨trivial,?_⟩
  rotate_right
  focus
   conv=>whnf
   refine ⟨he18a,he18b,Zjl he18x ?_⟩
   conv=>whnf
   refine ⟨by kernel_rfl,?_⟩
   conv=>whnf
   refine ⟨he18a,he18b,Zjl he18x ?_⟩
   conv=>whnf
   refine ⟨_,hb19,?_⟩
   conv=>whnf
   refine ⟨hp20,?_⟩
   conv=>whnf
   refine ⟨hp21,?_⟩
   conv=>whnf
   refine ⟨trivial,?_⟩
  all_goals
   conv=>whnf
   cases h;exact ⟨⟨rfl,rfl⟩,hI15 _ rfl⟩
 conv=>whnf
 cases h;obtain rfl:=hR15 _ rfl;exact ⟨⟨rfl,rfl⟩,hI13 _ rfl⟩
 conv=>whnf
 cases h;obtain rfl:=hR13 _ rfl;exact hK
theorem ZmK (rec0:(List Zc)->Int->Option Zct) (hrec:Sq 280 (Zb8 rec0)):Sq 280 (Zb8 (VU rec0)):=by
 refine Zf Zn (Zb hrec Zi) mixed {} (fn:=Tryz.f280) Tryz.func280 (by kernel_rfl) (by kernel_rfl) ?_;rintro ⟨list0,k0,⟨⟩⟩ K ⟨r,h,hK⟩
 change VU rec0 list0 k0=some r at h
 unfold VU at h
 conv=>whnf
 refine vAt h (λx0 he0a he0b he0x h=>?_)
 conv=>whnf
 refine Zph h (λh=>?_) (λh=>?_)
 conv=>whnf
 cases h;exact hK
 conv=>whnf
 refine Zfy h (λr0 hb1 h=>?_)
 conv=>whnf
 refine Zph h (λh=>?_) (λh=>?_)
 conv=>whnf
 refine ⟨by decide,?_⟩
 conv=>whnf
 refine ZqR h (λh=>?_) (λh=>?_)
 conv=>whnf
 cases h;exact hK
 conv=>whnf
 cases h;exact hK
 conv=>whnf
 refine ZqR h (λh=>?_) (λh=>?_)
 conv=>whnf
 cases h;exact hK
 conv=>whnf
 cases h;exact hK
theorem ZAi:Sq 280 c162:=by
 have hn:∀ n,Sq 280 (Zb8 (VI n)):=by
  intro n;induction n with
  | zero =>
  refine Zf Zn Zi mixed {} (fn:=Tryz.f280) Tryz.func280 (by kernel_rfl) (by kernel_rfl) ?_;rintro ⟨list0,k0,⟨⟩⟩ K ⟨r,h,hK⟩;cases h
  | succ n ih=>exact ZmK _ ih
 refine ⟨(hn 0).1,?_⟩;rintro w S vs ⟨list0,k0,⟨⟩⟩ fp K h1 h0 h2 h3 h4 ⟨r,h,hK⟩;obtain ⟨n,hr⟩:=ZlX h;exact (hn n).2 w S vs _ fp K h1 h0 h2 h3 h4 ⟨r,hr,hK⟩
end Go.Proofs.YtepbknolmhmipaaGreatDoor
