/-
  The functions keep their contracts, if what they call does. Printed by program.
-/
import Derived.Test.YtepbknolmhmipaaGreatDoorM
import Derived.KernelRfl
namespace Go.Proofs.YtepbknolmhmipaaGreatDoor
open Go Go.Sx
set_option maxRecDepth 100000
set_option maxHeartbeats 100000000
set_option linter.unusedVariables false
set_option linter.unusedSimpArgs false
structure Ws2:Prop where
 w219:Sq 256 c213->Sq 257 Zxp->Sq 169 c218->Sq 163 Zxq
 w119:Sq 392 Zwy->Sq 371 c119
 w120:Sq 341 c98->Sq 345 Zwz
 w234:Sq 229 c234
 w231:Sq 109 c146->Sq 259 ZLs->Sq 170 ZLt
 w166:Sq 240 ZwT->Sq 241 ZvW->Sq 147 ZvX
 w226:Sq 148 Zxi->Sq 150 Zxj->Sq 149 Zxk->Sq 68 ZLj->Sq 20 c201->Sq 63 c226
 w145:Sq 201 ZwH->Sq 202 ZwI->Sq 203 c141->Sq 204 ZwL->Sq 205 ZwO->Sq 108 c145
 w187:Sq 283 ZvZ->Sq 219 ZuE
 w196:Sq 285 c196
 w102:Sq 207 c96->Sq 341 c98->Sq 216 Zwo->Sq 316 ZtN
 w113:Sq 390 Zwt->Sq 391 Zwu->Sq 389 Zwv
 w186:Sq 207 c96->Sq 283 ZvZ
 w198:Sq 225 c198
 w136:Sq 258 ZwK
 w183:Sq 119 c182->Sq 118 c183
 w241:Sq 125 ZLv->Sq 127 ZLk->Sq 126 ZLl->Sq 128 ZLw->Sq 49 ZLx
 w0:Sq 14 c0
 w204:Sq 244 Zxh
 w216:Sq 309 Zxo
 w115:Sq 401 Zww->Sq 388 Zwx
 w151:Sq 364 ZwR
 w128:Sq 374 c127->Sq 373 ZwE
 w161:Sq 334 c160->Sq 333 ZwV
 w99:Sq 322 c99
 w112:Sq 391 Zwu
 w250:Sq 93 c45->Sq 144 c11->Sq 195 ZLC->Sq 98 ZLD
 w65:Sq 251 c65
 w25:Sq 187 c22->Sq 188 c23->Sq 189 c21->Sq 190 c24->Sq 90 c25
 w29:Sq 407 c28->Sq 189 c21->Sq 400 c29
 w39:Sq 189 c21->Sq 179 c39
 w248:Sq 313 ZLA->Sq 194 ZLn->Sq 270 ZLB
 w1:Sq 57 c1
 w2:Sq 59 c2
 w28:Sq 189 c21->Sq 407 c28
 w10:Sq 328 c8->Sq 329 c9->Sq 292 c10
 w31:Sq 387 c30->Sq 366 c31
 w12:Sq 59 c2->Sq 144 c11->Sq 293 c12
 w63:Sq 248 c63
 w64:Sq 249 c64
 w90:Sq 92 c13->Sq 59 c2->Sq 143 c90
 w69:Sq 249 c64->Sq 146 c14->Sq 302 c68->Sq 253 c69
 w19:Sq 59 c2->Sq 144 c11->Sq 236 c19
 w251:Sq 95 ZLz->Sq 96 ZLo->Sq 97 ZLm->Sq 98 ZLD->Sq 38 ZLE
 w72:Sq 92 c13->Sq 66 c72
 w52:Sq 154 c50->Sq 155 c51->Sq 65 c52
 w93:Sq 138 c26->Sq 139 c60->Sq 59 c2->Sq 140 c87->Sq 141 c88->Sq 61 c91->Sq 23 c92->Sq 58 c93
 w86:Sq 175 c84->Sq 74 c86
 w50:Sq 154 c50
set_option maxHeartbeats 100000000 in
theorem ws2:Ws2:=by
 refine ⟨(λq0 q1 q2=>Zf Zb7 (Zb q0 (Zb q1 (Zb q2 Zi))) mixed {loops:=[(0,[.reg 16 (.dat Iq),.cello 1003 4 (.ol 67 (Zql))])],draws:=[(1,[],.o [0,1,3,4] (.alt 2 (.alt 5 (.op 6 (.a [7,8] .done)) (.a [7,5] (.op 6 (.d 8)))) (.a [7,2,5] (.op 6 (.d 8))))),(5,[],.o [0,1,2] (.a [3,4,5] (.op 6 (.d 7))))]} Tryz.func163 (hvc:=?_)),
 (λq0=>Zf Zn (Zb q0 Zi) mixed {} Tryz.func371 (hvc:=?_)),
 (λq0=>Zf Zn (Zb q0 Zi) mixed {} Tryz.func345 (hvc:=?_)),
 (Zf Zn Zi mixed {draws:=[(4,[],.u 0 17 .done)]} Tryz.func229 (hvc:=?_)),
 (λq1 q0=>Zf Zn (Zb q1 (Zb q0 Zi)) mixed {} Tryz.func170 (hvc:=?_)),
 (λq1 q0=>Zf Zn (Zb q1 (Zb q0 Zi)) mixed {} Tryz.func147 (hvc:=?_)),
 (λq1 q0 q2 q3 q4=>Zf Zb7 (Zb q1 (Zb q0 (Zb q2 (Zb q3 (Zb q4 Zi))))) mixed {draws:=[(2,[],.o [0,1] (.a [2,3] (.u 4 4 (.op 9 (.a [8,10] (.o [11,12] .done))))))]} Tryz.func63 (hvc:=?_)),
 (λq4 q2 q1 q3 q0=>Zf Zn (Zb q4 (Zb q2 (Zb q1 (Zb q3 (Zb q0 Zi))))) mixed {loops:=[(0,[.reg 25 (.dat Iq),.ent 2 (nat_lit 3) (.flat Zti.ety)]),(2,[.reg 51 (.dat Iq),.ent 2 (nat_lit 3) (.flat Zti.ety)])]} Tryz.func108 (hvc:=?_)),
 (λq0=>Zf Zn (Zb q0 Zi) mixed {} Tryz.func219 (hvc:=?_)),
 (Zf Zn Zi mixed {} Tryz.func285 (hvc:=?_)),
 (λq2 q0 q1=>Zf Zn (Zb q2 (Zb q0 (Zb q1 Zi))) mixed {loops:=[(0,[.reg 3 (.own (.ol 9 (.flat (.str)))),.reg 8 (.dat Iq)])]} Tryz.func316 (hvc:=?_)),
 (λq1 q0=>Zf Zn (Zb q1 (Zb q0 Zi)) mixed {} Tryz.func389 (hvc:=?_)),
 (λq0=>Zf Zn (Zb q0 Zi) mixed {} Tryz.func283 (hvc:=?_)),
 (Zf Zn Zi mixed {} Tryz.func225 (hvc:=?_)),
 (Zf Zn Zi mixed {} Tryz.func258 (hvc:=?_)),
 (λq0=>Zf Zn (Zb q0 Zi) mixed {} Tryz.func118 (hvc:=?_)),
 (λq1 q2 q3 q0=>Zf Zn (Zb q1 (Zb q2 (Zb q3 (Zb q0 Zi)))) mixed {loops:=[(0,[.reg 5 (.dat (.str)),.reg 19 (.dat Iq)]),(2,[.reg 5 (.dat (.str)),.reg 34 (.dat Iq)]),(4,[.reg 5 (.dat (.str)),.reg 70 (.dat Iq)]),(6,[.reg 5 (.dat (.str)),.reg 100 (.dat Iq)]),(8,[.reg 5 (.dat (.str)),.reg 115 (.dat Iq)])],draws:=[(10,[],.u 0 4 (.u 5 7 (.u 13 12 (.alt 4 (.alt 12 (.a [25,26] (.o [27,28] .done)) (.a [25,12,26] (.o [27,28] .done))) (.a [25,4,12,26] (.o [27,28] .done)))))),(15,[],.u 0 4 (.u 5 7 (.u 13 6 (.alt 4 (.alt 12 (.a [19,20] (.o [21,22] .done)) (.a [19,12,20] (.o [21,22] .done))) (.a [19,4,12,20] (.o [21,22] .done))))))]} Tryz.func49 (hvc:=?_)),
 (Zf Zn Zi mixed {} Tryz.func14 (hvc:=?_)),
 (Zf Zn Zi mixed {} Tryz.func244 (hvc:=?_)),
 (Zf Zn Zi mixed {} Tryz.func309 (hvc:=?_)),
 (λq0=>Zf Zn (Zb q0 Zi) mixed {} Tryz.func388 (hvc:=?_)),
 (Zf Zn Zi mixed {loops:=[(0,[.reg 13 (.dat Iq)])],draws:=[(6,[],.u 0 9 .done)]} Tryz.func364 (hvc:=?_)),
 (λq0=>Zf Zn (Zb q0 Zi) mixed {loops:=[(0,[.reg 8 (.dat Iq)])]} Tryz.func373 (hvc:=?_)),
 (λq0=>Zf Zn (Zb q0 Zi) mixed {loops:=[(0,[.reg 8 (.dat Iq)])]} Tryz.func333 (hvc:=?_)),
 (Zf Zn Zi mixed {loops:=[(0,[.reg 8 (.dat Iq)])]} Tryz.func322 (hvc:=?_)),
 (Zf Zn Zi mixed {loops:=[(0,[.reg 3 (.dat Iq),.reg 4 (.dat Iq)])]} Tryz.func391 (hvc:=?_)),
 (λq0 q1 q2=>Zf Zn (Zb q0 (Zb q1 (Zb q2 Zi))) mixed {draws:=[(6,[],.u 0 4 (.o [6,7,8,11,12,13] (.alt 4 (.op 5 (.alt 9 (.op 10 (.alt 14 (.o [15,16] .done) .done)) .done)) .done)))]} Tryz.func98 (hvc:=?_)),
 (Zf Zn Zi mixed {loops:=[(0,[.reg 5 (.dat Iq)])]} Tryz.func251 (hvc:=?_)),
 (λq1 q0 q2 q3=>Zf Zn (Zb q1 (Zb q0 (Zb q2 (Zb q3 Zi)))) mixed {loops:=[(0,[.reg 3 (.dat Iq)]),(2,[.reg 5 (.dat Iq)])],draws:=[(10,[],.u 0 8 .done)]} Tryz.func90 (hvc:=?_)),
 (λq0 q1=>Zf Zn (Zb q0 (Zb q1 Zi)) mixed {loops:=[(0,[.reg 3 (.dat Iq)])]} Tryz.func400 (hvc:=?_)),
 (λq0=>Zf Zn (Zb q0 Zi) mixed {loops:=[(0,[.reg 6 (.dat Iq)]),(2,[.reg 7 (.dat Iq)])]} Tryz.func179 (hvc:=?_)),
 (λq1 q0=>Zf Zn (Zb q1 (Zb q0 Zi)) mixed {} Tryz.func270 (hvc:=?_)),
 (Zf Zn Zi mixed {loops:=[(0,[.reg 4 (.dat Iq),.cell 1007 2 Iq])],draws:=[(5,[],.u 0 10 (.alt 10 (.u 11 4 (.d 15)) .done))]} Tryz.func57 (hvc:=?_)),
 (Zf Zn Zi mixed {draws:=[(3,[],.u 0 10 .done),(4,[],.u 0 10 (.alt 10 (.op 11 .done) .done))]} Tryz.func59 (hvc:=?_)),
 (λq0=>Zf Zn (Zb q0 Zi) mixed {loops:=[(0,[.reg 3 (.dat Iq)])],draws:=[(4,[],.u 0 4 (.alt 4 (.u 5 17 .done) .done))]} Tryz.func407 (hvc:=?_)),
 (λq1 q0=>Zf Zb7 (Zb q1 (Zb q0 Zi)) mixed {} Tryz.func292 (hvc:=?_)),
 (λq0=>Zf Zn (Zb q0 Zi) mixed {loops:=[(0,[.reg 5 (.dat Iq)])]} Tryz.func366 (hvc:=?_)),
 (λq1 q0=>Zf Zb7 (Zb q1 (Zb q0 Zi)) mixed {loops:=[(0,[.reg 9 (.own (.ol 192 (ZeA))),.reg 10 (.own (.ol 9 (.flat (.str)))),.reg 11 (.dat Iq),.cell 1000 0 (.sl (.int .u8)),.cell 1000 1 Iq,.cell 1000 2 Iq]),(2,[.reg 14 (.dat Iq),.cell 1000 0 (.sl (.int .u8)),.cell 1000 1 Iq,.cell 1000 2 Iq,.cello 1013 2 (.ol 2 (.flat Iq))]),(4,[.reg 16 (.dat Iq),.cell 1000 0 (.sl (.int .u8)),.cell 1000 1 Iq,.cell 1000 2 Iq,.ent 9 (nat_lit 192) (Dp.pair (Dp.flat Ty.str) (Dp.pair (Dp.flat (Ty.int IntKind.i64)) (Dp.pair (Dp.ol (2:Go.TypeId) (Dp.flat (Ty.int IntKind.i64))) (Dp.flat Ty.unit))))])],draws:=[(27,[],.u 0 4 (.u 5 4 (.alt 4 (.alt 9 (.o [10,11] (.d 12)) .done) (.alt 9 (.op 10 (.alt 4 (.op 11 (.d 12)) .done)) .done))))]} Tryz.func293 (hvc:=?_)),
 (Zf Zn Zi mixed {loops:=[(0,[.reg 5 (.dat Iq)])],draws:=[(6,[],.u 0 13 .done)]} Tryz.func248 (hvc:=?_)),
 (Zf Zn Zi mixed {} Tryz.func249 (hvc:=?_)),
 (λq0 q1=>Zf Zn (Zb q0 (Zb q1 Zi)) mixed {loops:=[(0,[.reg 6 (.dat Iq),.reg 7 (.dat Iq)])]} Tryz.func143 (hvc:=?_)),
 (λq0 q1 q2=>Zf Zn (Zb q0 (Zb q1 (Zb q2 Zi))) mixed {draws:=[(6,[],.u 0 7 (.alt 7 (.u 8 28 .done) .done))]} Tryz.func253 (hvc:=?_)),
 (λq1 q0=>Zf Zn (Zb q1 (Zb q0 Zi)) mixed {loops:=[(0,[.reg 3 (.own (.ol 154 (.flat (Xh)))),.reg 4 (.dat Iq),.cell 1000 0 (.sl (.int .u8)),.cell 1000 1 Iq,.cell 1000 2 Iq]),(3,[.reg 3 (.own (.ol 154 (.flat (Xh))))])],draws:=[(11,[],.op 0 (.u 3 4 (.op 9 (.ld 1 (.op 2 (.ld 10 (.alt 7 (.o [8,11,12] (.d 13)) .done)))))))]} Tryz.func236 (hvc:=?_)),
 (λq2 q3 q1 q0=>Zf Zn (Zb q2 (Zb q3 (Zb q1 (Zb q0 Zi)))) mixed {loops:=[(0,[.reg 5 (.dat (.str)),.reg 6 (.dat Iq)]),(2,[.reg 5 (.dat (.str)),.reg 7 (.dat Iq)]),(4,[.reg 5 (.dat (.str)),.reg 9 (.dat Iq)]),(6,[.reg 5 (.dat (.str)),.reg 11 (.dat Iq)]),(8,[.reg 5 (.dat (.str)),.reg 12 (.dat Iq)])],draws:=[(5,[],.u 0 9 (.alt 9 (.o [10,11,12] .done) .done)),(10,[],.u 0 5 (.u 8 7 (.u 16 12 (.alt 5 (.o [6,7,15] (.a [28,29] (.o [30,31,32] .done))) (.a [28,5] (.o [6,7,15] (.alt 29 (.o [30,31,32] .done) .done))))))),(15,[],.u 0 5 (.u 8 7 (.u 16 6 (.alt 5 (.o [6,7,15] (.a [22,23] (.o [24,25,26] .done))) (.a [22,5] (.o [6,7,15] (.alt 23 (.o [24,25,26] .done) .done))))))),(19,[],.u 0 8 (.alt 8 (.o [9,10,11] .done) .done)),(24,[],.u 0 13 (.a [13,14] (.o [15,16,17] .done)))]} Tryz.func38 (hvc:=?_)),
 (λq0=>Zf Zn (Zb q0 Zi) mixed {loops:=[(0,[.reg 5 (.own (.ol 2 (.flat Iq))),.reg 8 (.dat Iq)])]} Tryz.func66 (hvc:=?_)),
 (λq1 q0=>Zf Zb7 (Zb q1 (Zb q0 Zi)) mixed {loops:=[(0,[.reg 6 (.own (.ol 154 (.flat (Xh)))),.reg 7 (.dat Iq)]),(2,[.reg 9 (.own (.ol 158 (Zdf))),.reg 10 (.dat (.bool)),.reg 11 (.dat Iq)])],draws:=[(20,[],.u 0 4 (.o [5,6,7,9,10,12] (.a [4,8] (.op 11 (.alt 13 (.op 14 .done) .done)))))]} Tryz.func65 (hvc:=?_)),
 (λq4 q0 q5 q1 q2 q6 q3=>Zf Zn (Zb q4 (Zb q0 (Zb q5 (Zb q1 (Zb q2 (Zb q6 (Zb q3 Zi))))))) mixed {loops:=[(0,[.reg 7 (.dat Iq),.cell 1000 0 (.sl (.int .u8)),.cell 1000 1 Iq,.cell 1000 2 Iq,.cell 1005 0 (.sl (V6)),.cell 1005 1 (.sl (YJ)),.cell 1005 2 (.sl (.str)),.cell 1005 3 (.sl (ZcF)),.cell 1005 4 (.sl (Za9)),.cell 1005 5 (.sl (Xh)),.cell 1005 6 (.sl (Yx)),.cell 1005 7 (.sl (Yx)),.cell 1005 8 (.sl (Z4)),.cell 1005 9 (.sl (Y6)),.cell 1005 10 (.sl (Zug)),.cell 1005 11 (.sl (Zug))])],draws:=[(9,[],.o [1,2,3] (.ld 0 (.a [4,5] (.o [6,7,8] (.alt 9 (.op 10 .done) .done)))))]} Tryz.func58 (hvc:=?_)),
 (λq0=>Zf Zn (Zb q0 Zi) mixed {loops:=[(0,[.reg 5 (.own (.ol 69 (.flat (Zug)))),.reg 6 (.dat Iq)])]} Tryz.func74 (hvc:=?_)),
 (Zf Zn Zi mixed {loops:=[(0,[.reg 6 (.own (.ol 2 (.flat Iq))),.reg 7 (.dat Iq)])]} Tryz.func154 (hvc:=?_))⟩
 all_goals
  intro a;repeat rcases a with ⟨_,a⟩
  rintro K ⟨r,h,hK⟩;repeat'
    conv=>whnf
    first
    | with_reducible refine Zsx ?_
    | with_reducible refine Zf3 (by assumption) (by assumption) (by assumption) ?_
    | with_reducible refine Zjl (by assumption) ?_
    | with_reducible refine Zgc (by assumption) ?_
    | (with_reducible refine shD ?_);first | refine Zph h (λh=>?_) (λh=>?_) | refine Ztl h (λh=>?_) (λh=>?_)
    | (with_reducible refine Ztb ?_);first | refine Zuv ?_ | refine Zpi ?_
    | (with_reducible refine Zwe ?_);first | refine ZqR h (λh=>?_) (λh=>?_) | refine Ztk h (λh=>?_) (λh=>?_)
    | (with_reducible refine Zta ?_);(refine ⟨λhd=>?_,?_⟩)<;>try subst hd
    | (with_reducible refine Zwg ?_);first | with_reducible refine Zfy h (λx hb h=>?_) | refine Zgc (by assumption) ?_ | with_reducible refine pG h (λhp h=>?_) | with_reducible refine pA h (λx ha hb hx h=>?_) | with_reducible refine pB h (λx hb h=>?_) | refine Zfy h (λx hb h=>?_)
    | (with_reducible refine Zwd ?_);first | with_reducible refine vAt h (λx ha hb hx h=>?_) | refine Zf3 (by assumption) (by assumption) (by assumption) ?_ | with_reducible refine pG h (λhp h=>?_) | with_reducible refine pA h (λx ha hb hx h=>?_) | with_reducible refine pB h (λx hb h=>?_) | refine vAt h (λx ha hb hx h=>?_)
    | (with_reducible refine Zs9 ?_);first | with_reducible refine ZoE h (λx hb h=>?_) | refine Zjl (by assumption) ?_ | with_reducible refine pG h (λhp h=>?_) | with_reducible refine pA h (λx ha hb hx h=>?_) | with_reducible refine pB h (λx hb h=>?_) | refine ZoE h (λx hb h=>?_)
    | with_reducible refine Zwf ?_
    | (with_reducible refine Zp6 ?_);refine Zqd h hK ?_;clear h hK;intro I μ v r h hK;(repeat rcases v with ⟨_,v⟩);(try dsimp only at h)
    | with_reducible refine ⟨by assumption,?_⟩
    | with_reducible refine orL ?_
    | with_reducible refine .inr ?_
    | (with_reducible refine Ztc ?_);first | refine ⟨?_,True.intro⟩ | refine ⟨?_,?_⟩
    | refine ⟨by kernel_rfl,?_⟩
    | refine ⟨by decide,?_⟩
    | with_reducible refine Ztm h (λhp h=>?_)
    | intro fp
    | exact trivial
    | with_reducible exact Zsw h
    | (refine pS h (λe=>?_));subst e;(repeat (first | exact hK | exact ⟨⟨rfl,rfl⟩,hK.1 _ rfl⟩ | (refine pR hK (λe hK=>?_));subst e));done
    | refine Ztm h (λhp h=>?_)
    | refine ⟨by assumption,?_⟩
    | with_reducible refine pG h (λhp h=>?_) | with_reducible refine pA h (λx ha hb hx h=>?_) | with_reducible refine pB h (λx hb h=>?_)
    | refine pG h (λhp h=>?_)
    | fail
theorem ZMx (q1:Sq 226 c236) (q0:Sq 229 c234):Sq 128 ZLw:=by
 refine Zf Zn (Zb q1 (Zb q0 Zi)) mixed {loops:=[(0,[.reg 5 (.dat (.str)),.reg 31 (.dat Iq)]),(2,[.reg 5 (.dat (.str)),.reg 38 (.dat Iq)])],draws:=[(10,[],.o [0,2] (.u 5 17 (.alt 1 (.o [3,4] (.alt 22 (.o [23,24,25] .done) .done)) (.a [22,1] (.o [3,4,23,24,25] .done)))))]} (fn:=Tryz.f128) Tryz.func128 (by kernel_rfl) (by kernel_rfl) ?_;rintro ⟨a0,a1,⟨⟩⟩ K ⟨r,h,hK⟩
 change Y3 a0 a1=some r at h
 unfold Y3 at h
 conv=>whnf
 refine vAt h (λx0 he0a he0b he0x h=>?_)
 conv=>whnf
 refine Zpi ?_;refine Zph h (λh=>?_) (λh=>?_)
 conv=>whnf
 refine ZxP h ?_;rintro I1 μ1 ⟨v0,v1,⟨⟩⟩ zs1 h hI1 hR1
 change Yj a0 a1 v0 v1=some zs1 at h
 unfold Yj at h
 conv=>whnf
 refine Zph h (λh=>?_) (λh=>?_)
 conv=>whnf
 refine vAt h (λx1 he2a he2b he2x h=>?_)
 conv=>whnf
 refine ⟨by kernel_rfl,?_⟩
 conv=>whnf
 refine ⟨he2a,he2b,Zjl he2x ?_⟩
 conv=>whnf
 refine ZxP h ?_;rintro I3 μ3 ⟨v2,v3,⟨⟩⟩ zs3 h hI3 hR3
 change Xg a0 v1 x1 v2 v3=some zs3 at h
 unfold Xg at h
 conv=>whnf
 refine Zph h (λh=>?_) (λh=>?_)
 focus
  conv=>whnf
  refine vAt h (λx2 he4a he4b he4x h=>?_)
  conv=>whnf
  refine ⟨by kernel_rfl,?_⟩
  conv=>whnf
  refine vAt h (λx3 he5a he5b he5x h=>?_)
  conv=>whnf
  obtain ⟨x4,he6a,he6b,he6x,h⟩:=atE h;obtain ⟨nameOf0,hb7,h⟩:=Option.bind_eq_some_iff.1 h;obtain ⟨hp8,h⟩:=guardE h;obtain ⟨hp9,h⟩:=guardE h;refine ⟨?_,?_⟩;rotate_left
  focus
   conv=>whnf
   refine ⟨_,hb7,?_⟩
   conv=>whnf
   refine ⟨he6a,he6b,Zjl he6x ?_⟩
   conv=>whnf
   refine ⟨by kernel_rfl,?_⟩
   conv=>whnf
   refine ⟨he6a,he6b,Zjl he6x ?_⟩
   conv=>whnf
   refine ⟨hp8,?_⟩
   conv=>whnf
   refine ⟨hp9,?_⟩
   conv=>whnf
   refine ⟨trivial,?_⟩
  rotate_right
  focus
   conv=>whnf
   refine ⟨he6a,he6b,Zjl he6x ?_⟩
   conv=>whnf
   refine ⟨by kernel_rfl,?_⟩
   conv=>whnf
   refine ⟨he6a,he6b,Zjl he6x ?_⟩
   conv=>whnf
   refine ⟨_,hb7,?_⟩
   conv=>whnf
   refine ⟨hp8,?_⟩
   conv=>whnf
   refine ⟨hp9,?_⟩
   conv=>whnf
   refine ⟨trivial,?_⟩
  all_goals
   conv=>whnf
   cases h;exact ⟨⟨rfl,rfl⟩,hI3 _ rfl⟩
 conv=>whnf
 cases h;obtain rfl:=hR3 _ rfl;exact ⟨⟨rfl,rfl⟩,hI1 _ rfl⟩
 conv=>whnf
 cases h;obtain rfl:=hR1 _ rfl;exact hK
 conv=>whnf
 refine Zfy h (λdecimal0 hb10 h=>?_)
 conv=>whnf
 refine Ztm h (λhp11 h=>?_)
 conv=>whnf
 refine Ztm h (λhp12 h=>?_)
 conv=>whnf
 refine ZxP h ?_;rintro I13 μ13 ⟨v0,v1,⟨⟩⟩ zs13 h hI13 hR13
 change Yj a0 a1 v0 v1=some zs13 at h
 unfold Yj at h
 conv=>whnf
 refine Zph h (λh=>?_) (λh=>?_)
 conv=>whnf
 refine vAt h (λx1 he14a he14b he14x h=>?_)
 conv=>whnf
 refine ⟨by kernel_rfl,?_⟩
 conv=>whnf
 refine ⟨he14a,he14b,Zjl he14x ?_⟩
 conv=>whnf
 refine ZxP h ?_;rintro I15 μ15 ⟨v2,v3,⟨⟩⟩ zs15 h hI15 hR15
 change Xg a0 v1 x1 v2 v3=some zs15 at h
 unfold Xg at h
 conv=>whnf
 refine Zph h (λh=>?_) (λh=>?_)
 focus
  conv=>whnf
  refine vAt h (λx2 he16a he16b he16x h=>?_)
  conv=>whnf
  refine ⟨by kernel_rfl,?_⟩
  conv=>whnf
  refine vAt h (λx3 he17a he17b he17x h=>?_)
  conv=>whnf
  obtain ⟨x4,he18a,he18b,he18x,h⟩:=atE h;obtain ⟨nameOf0,hb19,h⟩:=Option.bind_eq_some_iff.1 h;obtain ⟨hp20,h⟩:=guardE h;obtain ⟨hp21,h⟩:=guardE h;refine ⟨?_,?_⟩;rotate_left
  focus
   conv=>whnf
   refine ⟨_,hb19,?_⟩
   conv=>whnf
   refine ⟨he18a,he18b,Zjl he18x ?_⟩
   conv=>whnf
   refine ⟨by kernel_rfl,?_⟩
   conv=>whnf
   refine ⟨he18a,he18b,Zjl he18x ?_⟩
   conv=>whnf
   refine ⟨hp20,?_⟩
   conv=>whnf
   refine ⟨hp21,?_⟩
   conv=>whnf
   refine ⟨trivial,?_⟩
  rotate_right
  focus
   conv=>whnf
   refine ⟨he18a,he18b,Zjl he18x ?_⟩
   conv=>whnf
   refine ⟨by kernel_rfl,?_⟩
   conv=>whnf
   refine ⟨he18a,he18b,Zjl he18x ?_⟩
   conv=>whnf
   refine ⟨_,hb19,?_⟩
   conv=>whnf
   refine ⟨hp20,?_⟩
   conv=>whnf
   refine ⟨hp21,?_⟩
   conv=>whnf
   refine ⟨trivial,?_⟩
  all_goals
   conv=>whnf
   cases h;exact ⟨⟨rfl,rfl⟩,hI15 _ rfl⟩
 conv=>whnf
 cases h;obtain rfl:=hR15 _ rfl;exact ⟨⟨rfl,rfl⟩,hI13 _ rfl⟩
 conv=>whnf
 cases h;obtain rfl:=hR13 _ rfl;exact hK
theorem w_laws_FnSetupAfter (q8:Sq 14 c0) (q0:Sq 15 c95) (q2:Sq 16 c227) (q3:Sq 17 c79) (q4:Sq 18 c228) (q1:Sq 19 c233) (q7:Sq 20 c201) (q5:Sq 11 ZLy) (q6:Sq 8 ZLF):Sq 4 ZEp:=by
 refine Zf Zn (Zb q8 (Zb q0 (Zb q2 (Zb q3 (Zb q4 (Zb q1 (Zb q7 (Zb q5 (Zb q6 Zi))))))))) mixed {draws:=[(13,[],.u 0 13 (.alt 13 (.u 14 4 (.o [19,20] (.a [18,21] (.o [22,23,24] .done)))) .done))]} (fn:=Tryz.f4) Tryz.func4 (by kernel_rfl) (by kernel_rfl) ?_;rintro ⟨a0,⟨⟩⟩ K ⟨r,h,hK⟩
 change ZB4 a0=some r at h
 unfold ZB4 at h
 conv=>whnf
 refine Zfy h (λbig0 hb0 h=>?_)
 conv=>whnf
 refine ZqR h (λh=>?_) (λh=>?_)
 conv=>whnf
 cases h;exact hK
 conv=>whnf
 refine Zfy h (λDrawSetupAfter0 hb1 h=>?_)
 conv=>whnf
 refine Zfy h (λSetupAfter0 hb2 h=>?_)
 conv=>whnf
 intro fp3
 conv=>whnf
 refine Zfy h (λSetupAfter1 hb4 h=>?_)
 conv=>whnf
 intro fp5
 conv=>whnf
 refine Zpi ?_;refine Zph h (λh=>?_) (λh=>?_)
 conv=>whnf
 refine Zpi ?_;refine Zph h (λh=>?_) (λh=>?_)
 conv=>whnf
 refine Zfy h (λApplyEdit0 hb6 h=>?_)
 conv=>whnf
 intro fp7
 conv=>whnf
 intro fp8
 conv=>whnf
 intro fp9
 conv=>whnf
 refine Zfy h (λInverseEdit0 hb10 h=>?_)
 conv=>whnf
 refine Zfy h (λSetupAfter2 hb11 h=>?_)
 conv=>whnf
 intro fp12
 conv=>whnf
 refine ⟨by kernel_rfl,?_⟩
 conv=>whnf
 refine Zph h (λh=>?_) (λh=>?_)
 conv=>whnf
 refine Zph h (λh=>?_) (λh=>?_)
 conv=>whnf
 refine Zph h (λh=>?_) (λh=>?_)
 conv=>whnf
 refine Zfy h (λIsSetup0 hb13 h=>?_)
 conv=>whnf
 refine ZqR h (λh=>?_) (λh=>?_)
 conv=>whnf
 refine Zfy h (λSetupText0 hb14 h=>?_)
 conv=>whnf
 refine Zfy h (λSetupText1 hb15 h=>?_)
 conv=>whnf
 refine ⟨trivial,?_⟩
 conv=>whnf
 cases h;exact hK
 conv=>whnf
 refine ⟨trivial,?_⟩
 conv=>whnf
 cases h;exact hK
 conv=>whnf
 refine ⟨trivial,?_⟩
 conv=>whnf
 cases h;exact hK
 conv=>whnf
 refine ⟨trivial,?_⟩
 conv=>whnf
 cases h;exact hK
 conv=>whnf
 refine ⟨trivial,?_⟩
 conv=>whnf
 cases h;exact hK
 conv=>whnf
 cases h;exact hK
 conv=>whnf
 cases h;exact hK
theorem w76 (q1:Sq 92 c13) (q4:Sq 159 c73) (q5:Sq 239 c16) (q0:Sq 160 c74) (q2:Sq 171 c15) (q3:Sq 161 c75):Sq 157 c76:=by
 refine Zf Zb7 (Zb q1 (Zb q4 (Zb q5 (Zb q0 (Zb q2 (Zb q3 Zi)))))) mixed {draws:=[(1,[],.o [0,1,3,4] (.alt 2 (.o [5,6] (.a [7,8] .done)) (.a [7,2] (.o [5,6] (.d 8))))),(5,[],.o [0,1] (.u 4 5 (.alt 2 (.alt 3 (.a [9,10] (.op 11 .done)) (.a [9,3,10] (.op 11 .done))) (.a [9,2,3,10] (.op 11 .done))))),(14,[],.u 0 4 (.o [6,7,9,13,14] (.l [8,10,15] (.alt 4 (.alt 5 (.alt 11 (.alt 12 (.op 16 (.a [17,18] .done)) (.a [17,12] (.op 16 (.d 18)))) (.a [17,11,12] (.op 16 (.d 18)))) (.alt 11 (.alt 5 (.alt 12 (.op 16 (.a [17,18] .done)) (.a [17,12] (.op 16 (.d 18)))) (.a [17,5,12] (.op 16 (.d 18)))) (.alt 17 (.alt 5 (.a [11,12] (.op 16 (.d 18))) (.a [11,5,12] (.op 16 (.d 18)))) .done))) (.alt 11 (.alt 4 (.alt 5 (.alt 12 (.op 16 (.a [17,18] .done)) (.a [17,12] (.op 16 (.d 18)))) (.a [17,5,12] (.op 16 (.d 18)))) (.a [17,4,5,12] (.op 16 (.d 18)))) (.alt 17 (.alt 4 (.alt 5 (.a [11,12] (.op 16 (.d 18))) (.a [11,5,12] (.op 16 (.d 18)))) (.a [11,4,5,12] (.op 16 (.d 18)))) .done)))))),(15,[],.o [0,3,4,9] (.l [1,2] (.a [5,6,7] (.op 8 (.a [10,11] .done)))))]} (fn:=Tryz.f157) Tryz.func157 (by kernel_rfl) (by kernel_rfl) ?_;rintro ⟨a0,a1,⟨⟩⟩ K ⟨r,h,hK⟩
 change ZCx a0 a1=some r at h
 unfold ZCx at h
 focus
  conv=>whnf
  intro fp0
  conv=>whnf
  intro fp1
  conv=>whnf
  intro fp2
  conv=>whnf
  refine ⟨by kernel_rfl,?_⟩
  conv=>whnf
  obtain ⟨l05Places0,hb3,h⟩:=Option.bind_eq_some_iff.1 h;obtain ⟨x0,he4a,he4b,he4x,h⟩:=atE h;refine ⟨?_,?_⟩;rotate_left
  focus
   conv=>whnf
   refine ⟨_,hb3,?_⟩
   conv=>whnf
   refine ⟨he4a,he4b,Zjl he4x ?_⟩
   conv=>whnf
   refine ⟨by kernel_rfl,?_⟩
   conv=>whnf
   refine ⟨he4a,he4b,Zjl he4x ?_⟩
   conv=>whnf
   refine ⟨trivial,?_⟩
  rotate_right
  focus
   conv=>whnf
   refine ⟨_,hb3,?_⟩
   conv=>whnf
   refine ⟨he4a,he4b,Zjl he4x ?_⟩
   conv=>whnf
   refine ⟨by kernel_rfl,?_⟩
   conv=>whnf
   refine ⟨he4a,he4b,Zjl he4x ?_⟩
   conv=>whnf
   refine ⟨trivial,?_⟩
  all_goals
   focus
    conv=>whnf
    refine Zfy h (λl08Nodes0 hb5 h=>?_)
    conv=>whnf
    refine ⟨by kernel_rfl,?_⟩
    conv=>whnf
    refine vAt h (λx1 he6a he6b he6x h=>?_)
    conv=>whnf
    refine ⟨by kernel_rfl,?_⟩
    conv=>whnf
    refine ⟨he6a,he6b,Zjl he6x ?_⟩
    conv=>whnf
    obtain ⟨hp7,h⟩:=guardE h;obtain ⟨hp8,h⟩:=guardE h;obtain ⟨l02Ints0,hb9,h⟩:=Option.bind_eq_some_iff.1 h;obtain ⟨hp10,h⟩:=guardE h;refine ⟨?_,?_⟩;rotate_left
    focus
     conv=>whnf
     refine ⟨by decide,?_⟩
     conv=>whnf
     refine ⟨hp7,?_⟩
     conv=>whnf
     refine ⟨hp8,?_⟩
     conv=>whnf
     refine ⟨_,hb9,?_⟩
     conv=>whnf
     refine ⟨hp10,?_⟩
     conv=>whnf
     refine ⟨trivial,?_⟩
    rotate_right
    focus
     conv=>whnf
     refine ⟨by decide,?_⟩
     conv=>whnf
     refine ⟨hp7,?_⟩
     conv=>whnf
     refine ⟨hp8,?_⟩
     conv=>whnf
     refine ⟨?_,?_⟩;rotate_left
     focus
      conv=>whnf
      refine ⟨_,hb9,?_⟩
      conv=>whnf
      refine ⟨hp10,?_⟩
      conv=>whnf
      refine ⟨trivial,?_⟩
     rotate_right
     focus
      conv=>whnf
      refine ⟨_,hb9,?_⟩
      conv=>whnf
      refine ⟨hp10,?_⟩
      conv=>whnf
      refine ⟨trivial,?_⟩
    all_goals
     conv=>whnf
     refine ⟨hp7,?_⟩
     conv=>whnf
     refine ⟨hp8,?_⟩
     conv=>whnf
     refine Ztm h (λhp11 h=>?_)
     conv=>whnf
     refine Ztm h (λhp12 h=>?_)
     conv=>whnf
     refine Zfy h (λl08Connect0 hb13 h=>?_)
     conv=>whnf
     intro fp14
     conv=>whnf
     refine Zph h (λh=>?_) (λh=>?_)
     focus
      conv=>whnf
      refine vAt h (λx2 he15a he15b he15x h=>?_)
      conv=>whnf
      refine ⟨by kernel_rfl,?_⟩
      conv=>whnf
      refine ⟨by decide,?_⟩
      conv=>whnf
      refine ⟨he15a,he15b,Zjl he15x ?_⟩
      conv=>whnf
      refine ⟨by kernel_rfl,?_⟩
      conv=>whnf
      refine ⟨by kernel_rfl,?_⟩
      conv=>whnf
      refine ⟨by kernel_rfl,?_⟩
      conv=>whnf
      refine ⟨by kernel_rfl,?_⟩
      conv=>whnf
      obtain ⟨hp17,h⟩:=guardE h;obtain ⟨hp19,h⟩:=guardE h;refine ⟨?_,?_⟩;rotate_left
      focus
       conv=>whnf
       refine ⟨?_,?_⟩;rotate_left
       focus
        conv=>whnf
        refine ⟨?_,?_⟩;rotate_left
        focus
         conv=>whnf
         intro fp29
         conv=>whnf
         refine ⟨by kernel_rfl,?_⟩
         conv=>whnf
         refine ⟨hp17,?_⟩
         conv=>whnf
         intro fp30
         conv=>whnf
         refine ⟨by kernel_rfl,?_⟩
         conv=>whnf
         refine ⟨hp19,?_⟩
         conv=>whnf
         refine ⟨trivial,?_⟩
        rotate_right
        focus
         conv=>whnf
         intro fp29
         conv=>whnf
         refine ⟨?_,?_⟩;rotate_left
         focus
          conv=>whnf
          refine ⟨by kernel_rfl,?_⟩
          conv=>whnf
          refine ⟨hp17,?_⟩
          conv=>whnf
          intro fp30
          conv=>whnf
          refine ⟨by kernel_rfl,?_⟩
          conv=>whnf
          refine ⟨hp19,?_⟩
          conv=>whnf
          refine ⟨trivial,?_⟩
         rotate_right
         focus
          conv=>whnf
          refine ⟨by kernel_rfl,?_⟩
          conv=>whnf
          refine ⟨hp17,?_⟩
          conv=>whnf
          intro fp30
          conv=>whnf
          refine ⟨by kernel_rfl,?_⟩
          conv=>whnf
          refine ⟨hp19,?_⟩
          conv=>whnf
          refine ⟨trivial,?_⟩
       rotate_right
       focus
        conv=>whnf
        refine ⟨?_,?_⟩;rotate_left
        focus
         conv=>whnf
         intro fp29
         conv=>whnf
         refine ⟨by kernel_rfl,?_⟩
         conv=>whnf
         refine ⟨hp17,?_⟩
         conv=>whnf
         intro fp30
         conv=>whnf
         refine ⟨by kernel_rfl,?_⟩
         conv=>whnf
         refine ⟨hp19,?_⟩
         conv=>whnf
         refine ⟨trivial,?_⟩
        rotate_right
        focus
         conv=>whnf
         intro fp29
         conv=>whnf
         refine ⟨?_,?_⟩;rotate_left
         focus
          conv=>whnf
          refine ⟨by kernel_rfl,?_⟩
          conv=>whnf
          refine ⟨hp17,?_⟩
          conv=>whnf
          intro fp30
          conv=>whnf
          refine ⟨by kernel_rfl,?_⟩
          conv=>whnf
          refine ⟨hp19,?_⟩
          conv=>whnf
          refine ⟨trivial,?_⟩
         rotate_right
         focus
          conv=>whnf
          refine ⟨by kernel_rfl,?_⟩
          conv=>whnf
          refine ⟨hp17,?_⟩
          conv=>whnf
          intro fp30
          conv=>whnf
          refine ⟨?_,?_⟩;rotate_left
          focus
           conv=>whnf
           refine ⟨by kernel_rfl,?_⟩
           conv=>whnf
           refine ⟨hp19,?_⟩
           conv=>whnf
           refine ⟨trivial,?_⟩
          rotate_right
          focus
           conv=>whnf
           refine ⟨by kernel_rfl,?_⟩
           conv=>whnf
           refine ⟨hp19,?_⟩
           conv=>whnf
           refine ⟨trivial,?_⟩
      rotate_right
      focus
       conv=>whnf
       intro fp29
       conv=>whnf
       refine ⟨?_,?_⟩;rotate_left
       focus
        conv=>whnf
        refine ⟨?_,?_⟩;rotate_left
        focus
         conv=>whnf
         refine ⟨?_,?_⟩;rotate_left
         focus
          conv=>whnf
          refine ⟨by kernel_rfl,?_⟩
          conv=>whnf
          refine ⟨hp17,?_⟩
          conv=>whnf
          intro fp30
          conv=>whnf
          refine ⟨by kernel_rfl,?_⟩
          conv=>whnf
          refine ⟨hp19,?_⟩
          conv=>whnf
          refine ⟨trivial,?_⟩
         rotate_right
         focus
          conv=>whnf
          refine ⟨by kernel_rfl,?_⟩
          conv=>whnf
          refine ⟨hp17,?_⟩
          conv=>whnf
          intro fp30
          conv=>whnf
          refine ⟨by kernel_rfl,?_⟩
          conv=>whnf
          refine ⟨hp19,?_⟩
          conv=>whnf
          refine ⟨trivial,?_⟩
        rotate_right
        focus
         conv=>whnf
         refine ⟨?_,?_⟩;rotate_left
         focus
          conv=>whnf
          refine ⟨by kernel_rfl,?_⟩
          conv=>whnf
          refine ⟨hp17,?_⟩
          conv=>whnf
          intro fp30
          conv=>whnf
          refine ⟨by kernel_rfl,?_⟩
          conv=>whnf
          refine ⟨hp19,?_⟩
          conv=>whnf
          refine ⟨trivial,?_⟩
         rotate_right
         focus
          conv=>whnf
          refine ⟨by kernel_rfl,?_⟩
          conv=>whnf
          refine ⟨hp17,?_⟩
          conv=>whnf
          intro fp30
          conv=>whnf
          refine ⟨?_,?_⟩;rotate_left
          focus
           conv=>whnf
           refine ⟨by kernel_rfl,?_⟩
           conv=>whnf
           refine ⟨hp19,?_⟩
           conv=>whnf
           refine ⟨trivial,?_⟩
          rotate_right
          focus
           conv=>whnf
           refine ⟨by kernel_rfl,?_⟩
           conv=>whnf
           refine ⟨hp19,?_⟩
           conv=>whnf
           refine ⟨trivial,?_⟩
       rotate_right
       focus
        conv=>whnf
        refine ⟨by kernel_rfl,?_⟩
        conv=>whnf
        refine ⟨hp17,?_⟩
        conv=>whnf
        intro fp30
        conv=>whnf
        refine ⟨?_,?_⟩;rotate_left
        focus
         conv=>whnf
         refine ⟨by kernel_rfl,?_⟩
         conv=>whnf
         refine ⟨hp19,?_⟩
         conv=>whnf
         refine ⟨trivial,?_⟩
        rotate_right
        focus
         conv=>whnf
         refine ⟨?_,?_⟩;rotate_left
         focus
          conv=>whnf
          refine ⟨by kernel_rfl,?_⟩
          conv=>whnf
          refine ⟨hp19,?_⟩
          conv=>whnf
          refine ⟨trivial,?_⟩
         rotate_right
         focus
          conv=>whnf
          refine ⟨by kernel_rfl,?_⟩
          conv=>whnf
          refine ⟨hp19,?_⟩
          conv=>whnf
          refine ⟨trivial,?_⟩
      all_goals
       conv=>whnf
       refine ⟨by kernel_rfl,?_⟩
       conv=>whnf
       refine ⟨by kernel_rfl,?_⟩
       conv=>whnf
       refine ⟨by kernel_rfl,?_⟩
       conv=>whnf
       refine Zfy h (λl07Lumped0 hb20 h=>?_)
       conv=>whnf
       intro fp21
       conv=>whnf
       refine ⟨by kernel_rfl,?_⟩
       conv=>whnf
       refine Ztm h (λhp22 h=>?_)
       conv=>whnf
       intro fp23
       conv=>whnf
       refine Zfy h (λl08Attach0 hb24 h=>?_)
       conv=>whnf
       intro fp25
       conv=>whnf
       intro fp26
       conv=>whnf
       intro fp27
       conv=>whnf
       refine ⟨trivial,?_⟩
       conv=>whnf
       cases h;exact hK
     focus
      conv=>whnf
      refine vAt h (λx2 he31a he31b he31x h=>?_)
      conv=>whnf
      refine ⟨by kernel_rfl,?_⟩
      conv=>whnf
      refine ⟨by decide,?_⟩
      conv=>whnf
      refine ⟨he31a,he31b,Zjl he31x ?_⟩
      conv=>whnf
      refine ⟨by kernel_rfl,?_⟩
      conv=>whnf
      refine ⟨by kernel_rfl,?_⟩
      conv=>whnf
      refine ⟨by kernel_rfl,?_⟩
      conv=>whnf
      refine ⟨by kernel_rfl,?_⟩
      conv=>whnf
      obtain ⟨hp33,h⟩:=guardE h;obtain ⟨hp35,h⟩:=guardE h;refine ⟨?_,?_⟩;rotate_left
      focus
       conv=>whnf
       refine ⟨?_,?_⟩;rotate_left
       focus
        conv=>whnf
        refine ⟨?_,?_⟩;rotate_left
        focus
         conv=>whnf
         intro fp45
         conv=>whnf
         refine ⟨by kernel_rfl,?_⟩
         conv=>whnf
         refine ⟨hp33,?_⟩
         conv=>whnf
         intro fp46
         conv=>whnf
         refine ⟨by kernel_rfl,?_⟩
         conv=>whnf
         refine ⟨hp35,?_⟩
         conv=>whnf
         refine ⟨trivial,?_⟩
        rotate_right
        focus
         conv=>whnf
         intro fp45
         conv=>whnf
         refine ⟨?_,?_⟩;rotate_left
         focus
          conv=>whnf
          refine ⟨by kernel_rfl,?_⟩
          conv=>whnf
          refine ⟨hp33,?_⟩
          conv=>whnf
          intro fp46
          conv=>whnf
          refine ⟨by kernel_rfl,?_⟩
          conv=>whnf
          refine ⟨hp35,?_⟩
          conv=>whnf
          refine ⟨trivial,?_⟩
         rotate_right
         focus
          conv=>whnf
          refine ⟨by kernel_rfl,?_⟩
          conv=>whnf
          refine ⟨hp33,?_⟩
          conv=>whnf
          intro fp46
          conv=>whnf
          refine ⟨by kernel_rfl,?_⟩
          conv=>whnf
          refine ⟨hp35,?_⟩
          conv=>whnf
          refine ⟨trivial,?_⟩
       rotate_right
       focus
        conv=>whnf
        refine ⟨?_,?_⟩;rotate_left
        focus
         conv=>whnf
         intro fp45
         conv=>whnf
         refine ⟨by kernel_rfl,?_⟩
         conv=>whnf
         refine ⟨hp33,?_⟩
         conv=>whnf
         intro fp46
         conv=>whnf
         refine ⟨by kernel_rfl,?_⟩
         conv=>whnf
         refine ⟨hp35,?_⟩
         conv=>whnf
         refine ⟨trivial,?_⟩
        rotate_right
        focus
         conv=>whnf
         intro fp45
         conv=>whnf
         refine ⟨?_,?_⟩;rotate_left
         focus
          conv=>whnf
          refine ⟨by kernel_rfl,?_⟩
          conv=>whnf
          refine ⟨hp33,?_⟩
          conv=>whnf
          intro fp46
          conv=>whnf
          refine ⟨by kernel_rfl,?_⟩
          conv=>whnf
          refine ⟨hp35,?_⟩
          conv=>whnf
          refine ⟨trivial,?_⟩
         rotate_right
         focus
          conv=>whnf
          refine ⟨by kernel_rfl,?_⟩
          conv=>whnf
          refine ⟨hp33,?_⟩
          conv=>whnf
          intro fp46
          conv=>whnf
          refine ⟨?_,?_⟩;rotate_left
          focus
           conv=>whnf
           refine ⟨by kernel_rfl,?_⟩
           conv=>whnf
           refine ⟨hp35,?_⟩
           conv=>whnf
           refine ⟨trivial,?_⟩
          rotate_right
          focus
           conv=>whnf
           refine ⟨by kernel_rfl,?_⟩
           conv=>whnf
           refine ⟨hp35,?_⟩
           conv=>whnf
           refine ⟨trivial,?_⟩
      rotate_right
      focus
       conv=>whnf
       intro fp45
       conv=>whnf
       refine ⟨?_,?_⟩;rotate_left
       focus
        conv=>whnf
        refine ⟨?_,?_⟩;rotate_left
        focus
         conv=>whnf
         refine ⟨?_,?_⟩;rotate_left
         focus
          conv=>whnf
          refine ⟨by kernel_rfl,?_⟩
          conv=>whnf
          refine ⟨hp33,?_⟩
          conv=>whnf
          intro fp46
          conv=>whnf
          refine ⟨by kernel_rfl,?_⟩
          conv=>whnf
          refine ⟨hp35,?_⟩
          conv=>whnf
          refine ⟨trivial,?_⟩
         rotate_right
         focus
          conv=>whnf
          refine ⟨by kernel_rfl,?_⟩
          conv=>whnf
          refine ⟨hp33,?_⟩
          conv=>whnf
          intro fp46
          conv=>whnf
          refine ⟨by kernel_rfl,?_⟩
          conv=>whnf
          refine ⟨hp35,?_⟩
          conv=>whnf
          refine ⟨trivial,?_⟩
        rotate_right
        focus
         conv=>whnf
         refine ⟨?_,?_⟩;rotate_left
         focus
          conv=>whnf
          refine ⟨by kernel_rfl,?_⟩
          conv=>whnf
          refine ⟨hp33,?_⟩
          conv=>whnf
          intro fp46
          conv=>whnf
          refine ⟨by kernel_rfl,?_⟩
          conv=>whnf
          refine ⟨hp35,?_⟩
          conv=>whnf
          refine ⟨trivial,?_⟩
         rotate_right
         focus
          conv=>whnf
          refine ⟨by kernel_rfl,?_⟩
          conv=>whnf
          refine ⟨hp33,?_⟩
          conv=>whnf
          intro fp46
          conv=>whnf
          refine ⟨?_,?_⟩;rotate_left
          focus
           conv=>whnf
           refine ⟨by kernel_rfl,?_⟩
           conv=>whnf
           refine ⟨hp35,?_⟩
           conv=>whnf
           refine ⟨trivial,?_⟩
          rotate_right
          focus
           conv=>whnf
           refine ⟨by kernel_rfl,?_⟩
           conv=>whnf
           refine ⟨hp35,?_⟩
           conv=>whnf
           refine ⟨trivial,?_⟩
       rotate_right
       focus
        conv=>whnf
        refine ⟨by kernel_rfl,?_⟩
        conv=>whnf
        refine ⟨hp33,?_⟩
        conv=>whnf
        intro fp46
        conv=>whnf
        refine ⟨?_,?_⟩;rotate_left
        focus
         conv=>whnf
         refine ⟨by kernel_rfl,?_⟩
         conv=>whnf
         refine ⟨hp35,?_⟩
         conv=>whnf
         refine ⟨trivial,?_⟩
        rotate_right
        focus
         conv=>whnf
         refine ⟨?_,?_⟩;rotate_left
         focus
          conv=>whnf
          refine ⟨by kernel_rfl,?_⟩
          conv=>whnf
          refine ⟨hp35,?_⟩
          conv=>whnf
          refine ⟨trivial,?_⟩
         rotate_right
         focus
          conv=>whnf
          refine ⟨by kernel_rfl,?_⟩
          conv=>whnf
          refine ⟨hp35,?_⟩
          conv=>whnf
          refine ⟨trivial,?_⟩
      all_goals
       conv=>whnf
       refine ⟨by kernel_rfl,?_⟩
       conv=>whnf
       refine ⟨by kernel_rfl,?_⟩
       conv=>whnf
       refine ⟨by kernel_rfl,?_⟩
       conv=>whnf
       refine Zfy h (λl07Lumped0 hb36 h=>?_)
       conv=>whnf
       intro fp37
       conv=>whnf
       refine ⟨by kernel_rfl,?_⟩
       conv=>whnf
       refine Ztm h (λhp38 h=>?_)
       conv=>whnf
       intro fp39
       conv=>whnf
       refine Zfy h (λl08Attach0 hb40 h=>?_)
       conv=>whnf
       intro fp41
       conv=>whnf
       intro fp42
       conv=>whnf
       intro fp43
       conv=>whnf
       refine ⟨trivial,?_⟩
       conv=>whnf
       cases h;exact hK
end Go.Proofs.YtepbknolmhmipaaGreatDoor
