/-
  The functions keep their contracts, if what they call does. Printed by program.
-/
import Derived.Test.YtioiomifapgimaaGreatDoorM
import Derived.KernelRfl
namespace Go.Proofs.YtioiomifapgimaaGreatDoor
open Go Go.Sx
set_option maxRecDepth 100000
set_option maxHeartbeats 100000000
set_option linter.unusedVariables false
set_option linter.unusedSimpArgs false
structure Ws3:Prop where
 w151:Sq 66 Zzh
 w118:Sq 295 ZzZ
 w121:Sq 257 c99->Sq 261 Zyq
 w174:Sq 120 ZAq
 w138:Sq 218 ZAc->Sq 33 c97->Sq 168 c138
 w147:Sq 118 Zyr
 w173:Sq 118 Zyr->Sq 119 c173
 w187:Sq 32 Zzi->Sq 33 c97->Sq 26 ZAk->Sq 27 ZAr->Sq 34 ZAx->Sq 37 ZAy->Sq 11 ZAz
 w150:Sq 121 c146->Sq 118 Zyr->Sq 122 ZAg->Sq 68 ZAh
 w103:Sq 33 c97->Sq 257 c99->Sq 215 Zyp->Sq 243 ZzP
 w170:Sq 113 ZAl->Sq 114 c167->Sq 116 c168->Sq 115 ZAn->Sq 63 ZAo
 w186:Sq 37 ZAy
 w164:Sq 110 c162->Sq 66 Zzh->Sq 213 c164
 w152:Sq 66 Zzh->Sq 71 c105->Sq 69 c152
 w205:Sq 92 c201->Sq 93 ZAJ->Sq 94 ZAK->Sq 51 ZAL
 w188:Sq 49 ZAA
 w189:Sq 49 ZAA->Sq 18 ZAB
 w191:Sq 233 ZAC->Sq 195 ZAD
 w203:Sq 149 c203
 w202:Sq 93 ZAJ
 w194:Sq 267 c193->Sq 252 c194
 w216:Sq 197 ZAP->Sq 153 ZAQ
 w224:Sq 54 c218->Sq 55 c222->Sq 56 ZAV->Sq 21 ZAW
 w222:Sq 98 ZAS->Sq 99 ZAT->Sq 100 ZAU->Sq 55 c222
 w226:Sq 23 c226
 w215:Sq 101 Zya->Sq 197 ZAP
 w223:Sq 101 Zya->Sq 56 ZAV
 w19:Sq 14 c19
 w5:Sq 247 c4->Sq 222 c5
 w8:Sq 128 c7->Sq 74 c8
 w15:Sq 75 c11->Sq 76 c12->Sq 77 c14->Sq 39 c15
 w12:Sq 76 c12
 w3:Sq 131 c2->Sq 264 c3
 w4:Sq 264 c3->Sq 247 c4
 w25:Sq 251 c24->Sq 232 c25
 w26:Sq 232 c25->Sq 194 c26
 w35:Sq 86 c31->Sq 87 c32->Sq 88 c34->Sq 46 c35
 w39:Sq 90 c39
 w30:Sq 146 c22->Sq 144 c30
 w32:Sq 87 c32
 w23:Sq 146 c22->Sq 266 c23
 w36:Sq 146 c22->Sq 89 c36
 w115:Sq 291 ZzX->Sq 300 ZzY
 w140:Sq 217 c139->Sq 172 ZAd
 w107:Sq 125 ZzR->Sq 172 c107
 w113:Sq 293 ZzW
 w96:Sq 41 c66->Sq 42 c43->Sq 43 c70->Sq 44 c95->Sq 15 c96
 w70:Sq 41 c66->Sq 81 c67->Sq 82 c69->Sq 42 c43->Sq 43 c70
 w55:Sq 176 c52->Sq 177 c53->Sq 178 c54->Sq 132 c55
 w58:Sq 42 c43->Sq 133 c58
 w75:Sq 138 c71->Sq 139 c74->Sq 83 c75
 w72:Sq 154 c72
 w50:Sq 250 c50
 w48:Sq 283 c47->Sq 265 c48
 w71:Sq 79 c59->Sq 42 c43->Sq 138 c71
 w79:Sq 225 c79
 w84:Sq 228 c84
 w67:Sq 136 c62->Sq 81 c67
set_option maxHeartbeats 100000000 in
theorem ws3:Ws3:=by
 refine ⟨(Zf Zr Zi mixed {draws:=[(1,[],.u 0 12 (.d 12))]} Tryz.func66 (hvc:=?_)),
 (Zf Zr Zi mixed {} Tryz.func295 (hvc:=?_)),
 (λq0=>Zf Zr (Zb q0 Zi) mixed {} Tryz.func261 (hvc:=?_)),
 (Zf Zr Zi mixed {draws:=[(3,[],.u 0 18 .done)]} Tryz.func120 (hvc:=?_)),
 (λq0 q1=>Zf Zr (Zb q0 (Zb q1 Zi)) mixed {} Tryz.func168 (hvc:=?_)),
 (Zf Zr Zi mixed {loops:=[(0,[.reg 3 (.own (.ol 196 (.flat (ZmR)))),.reg 13 (.dat Iq)]),(2,[.reg 3 (.own (.ol 196 (.flat (ZmR)))),.reg 21 (.dat Iq)]),(4,[.reg 3 (.own (.ol 196 (.flat (ZmR)))),.reg 44 (.dat Iq)])]} Tryz.func118 (hvc:=?_)),
 (λq0=>Zf Zr (Zb q0 Zi) mixed {loops:=[(0,[.reg 5 (.own (.ol 2 (.flat Iq))),.reg 11 (.dat Iq)])]} Tryz.func119 (hvc:=?_)),
 (λq4 q5 q3 q2 q0 q1=>Zf ZuF (Zb q4 (Zb q5 (Zb q3 (Zb q2 (Zb q0 (Zb q1 Zi)))))) mixed {loops:=[(0,[.reg 14 (.own (.ol 49 (.flat (Yr)))),.reg 44 (.dat Iq)])]} Tryz.func11 (hvc:=?_)),
 (λq1 q0 q2=>Zf Zr (Zb q1 (Zb q0 (Zb q2 Zi))) mixed {loops:=[(0,[.reg 32 (.dat Iq),.ent 1 (nat_lit 2) (.flat ZqU.ety)]),(2,[.reg 50 (.dat Iq)])],draws:=[(13,[],.u 0 5 (.alt 5 (.op 6 .done) .done))]} Tryz.func68 (hvc:=?_)),
 (λq2 q0 q1=>Zf Zr (Zb q2 (Zb q0 (Zb q1 Zi))) mixed {loops:=[(0,[.reg 3 (.own (.ol 9 (.flat (.str)))),.reg 8 (.dat Iq)])]} Tryz.func243 (hvc:=?_)),
 (λq2 q0 q1 q3=>Zf Zr (Zb q2 (Zb q0 (Zb q1 (Zb q3 Zi)))) mixed {loops:=[(0,[.reg 9 (.dat Iq),.reg 27 (.dat Iq)])],draws:=[(9,[],.u 0 5 (.o [6,7,8,10,11] (.alt 5 (.o [9,12,13,14] .done) .done)))]} Tryz.func63 (hvc:=?_)),
 (Zf Zr Zi mixed {} Tryz.func37 (hvc:=?_)),
 (λq0 q1=>Zf Zr (Zb q0 (Zb q1 Zi)) mixed {loops:=[(0,[.reg 22 (.dat Iq),.ent 0 (nat_lit 2) (.flat ZqU.ety)]),(2,[.reg 8 (.dat Iq),.reg 44 (.dat Iq)])],draws:=[(13,[],.u 0 13 (.op 15 (.alt 13 (.o [14,16,17,18] (.d 19)) .done)))]} Tryz.func213 (hvc:=?_)),
 (λq0 q1=>Zf Zr (Zb q0 (Zb q1 (ZjY (ZnI YS Zi mixed {draws:=[(1,[],.u 0 17 .done)]} Tryz.func110 (by kernel_rfl) (by kernel_rfl)) (ZjY (ZnI YS (ZjY (ZnI YS (ZjY (ZnI YS Zi mixed {} Tryz.func123 (by kernel_rfl) (by kernel_rfl)) Zi) mixed {loops:=[(0,[.reg 8 (.dat Iq)])]} Tryz.func172 (by kernel_rfl) (by kernel_rfl)) Zi) mixed {} Tryz.func124 (by kernel_rfl) (by kernel_rfl)) Zi)))) mixed {loops:=[(0,[.reg 24 (.dat Iq),.ent 1 (nat_lit 2) (.flat ZqU.ety)]),(2,[.reg 38 (.dat Iq),.ent 1 (nat_lit 2) (.flat ZqU.ety)]),(4,[.cello 1018 6 (.ol 2 (.flat Iq)),.ent 3 (nat_lit 4) (.flat ZuG.ety)]),(6,[.reg 91 (.dat Iq),.cello 1018 6 (.ol (nat_lit 2) (.flat (Ty.int IntKind.i64))),.ent 3 (nat_lit 4) (.flat ZuG.ety)])],draws:=[(1,[],.u 0 4 (.alt 4 (.op 5 (.alt 6 (.op 7 .done) .done)) .done)),(11,[],.u 0 14 (.d 14)),(15,[],.u 0 11 .done)]} Tryz.func69 (hvc:=?_)),
 (λq0 q1 q2=>Zf Zr (Zb q0 (Zb q1 (Zb q2 Zi))) mixed {} Tryz.func51 (hvc:=?_)),
 (Zf Zr Zi mixed {} Tryz.func49 (hvc:=?_)),
 (λq0=>Zf Zr (Zb q0 Zi) mixed {loops:=[(0,[.reg 5 (.dat Iq)])],draws:=[(6,[],.u 0 8 (.alt 8 (.op 9 .done) .done))]} Tryz.func18 (hvc:=?_)),
 (λq0=>Zf Zr (Zb q0 Zi) mixed {loops:=[(0,[.reg 5 (.dat Iq)])],draws:=[(6,[],.u 0 8 (.alt 8 (.op 9 .done) .done))]} Tryz.func195 (hvc:=?_)),
 (Zf Zr Zi mixed {} Tryz.func149 (hvc:=?_)),
 (Zf Zr Zi mixed {loops:=[(0,[.reg 5 (.dat Iq)])],draws:=[(6,[],.u 0 9 .done)]} Tryz.func93 (hvc:=?_)),
 (λq0=>Zf Zr (Zb q0 Zi) mixed {loops:=[(0,[.reg 5 (.dat Iq)])],draws:=[(6,[],.u 0 8 (.alt 8 (.op 9 .done) .done))]} Tryz.func252 (hvc:=?_)),
 (λq0=>Zf YS (Zb q0 Zi) mixed {loops:=[(0,[.reg 1 (.dat Iq),.reg 5 (.dat Iq),.ent 0 (nat_lit 274) (Dp.pair (Dp.flat (Ty.int IntKind.i64)) (Dp.pair (Dp.flat (Ty.int IntKind.i64)) (Dp.pair (Dp.flat (Ty.int IntKind.i64)) (Dp.pair (Dp.flat (Ty.int IntKind.i64)) (Dp.pair (Dp.ol (317:Go.TypeId) Zf1) (Dp.pair (Dp.ol (317:Go.TypeId) Zf1) (Dp.flat Ty.unit)))))))])]} Tryz.func153 (hvc:=?_)),
 (λq0 q1 q2=>Zf YS (Zb q0 (Zb q1 (Zb q2 Zi))) mixed {} Tryz.func21 (hvc:=?_)),
 (λq0 q1 q2=>Zf YS (Zb q0 (Zb q1 (Zb q2 Zi))) mixed {} Tryz.func55 (hvc:=?_)),
 (Zf YS Zi mixed {loops:=[(0,[.reg 1 (.dat Iq),.reg 5 (.dat Iq),.ent 0 (nat_lit 49) (.flat Yr)])]} Tryz.func23 (hvc:=?_)),
 (λq0=>Zf YS (Zb q0 Zi) mixed {loops:=[(0,[.reg 1 (.dat Iq),.reg 5 (.dat Iq),.ent 0 (nat_lit 317) (Dp.pair (Dp.ol (2:Go.TypeId) (Dp.flat (Ty.int IntKind.i64))) (Dp.pair (Dp.ol (2:Go.TypeId) (Dp.flat (Ty.int IntKind.i64))) (Dp.pair (Dp.ol (2:Go.TypeId) (Dp.flat (Ty.int IntKind.i64))) (Dp.flat Ty.unit))))])]} Tryz.func197 (hvc:=?_)),
 (λq0=>Zf YS (Zb q0 Zi) mixed {loops:=[(0,[.reg 1 (.dat Iq),.reg 5 (.dat Iq),.ent 0 (nat_lit 162) (Dp.pair (Dp.ol (2:Go.TypeId) (Dp.flat (Ty.int IntKind.i64))) (Dp.pair (Dp.ol (2:Go.TypeId) (Dp.flat (Ty.int IntKind.i64))) (Dp.pair (Dp.ol (2:Go.TypeId) (Dp.flat (Ty.int IntKind.i64))) (Dp.pair (Dp.ol (2:Go.TypeId) (Dp.flat (Ty.int IntKind.i64))) (Dp.flat Ty.unit)))))])]} Tryz.func56 (hvc:=?_)),
 (Zf Zr Zi mixed {} Tryz.func14 (hvc:=?_)),
 (λq0=>Zf Zr (Zb q0 Zi) mixed {} Tryz.func222 (hvc:=?_)),
 (λq0=>Zf Zr (Zb q0 Zi) mixed {loops:=[(0,[.reg 1 (.dat Iq),.reg 5 (.dat Iq)])]} Tryz.func74 (hvc:=?_)),
 (λq0 q1 q2=>Zf Zr (Zb q0 (Zb q1 (Zb q2 Zi))) mixed {} Tryz.func39 (hvc:=?_)),
 (Zf Zr Zi mixed {loops:=[(0,[.reg 1 (.dat Iq),.reg 5 (.dat Iq)])]} Tryz.func76 (hvc:=?_)),
 (λq0=>Zf Zr (Zb q0 Zi) mixed {} Tryz.func264 (hvc:=?_)),
 (λq0=>Zf Zr (Zb q0 Zi) mixed {loops:=[(0,[.reg 1 (.dat Iq),.reg 5 (.dat Iq)])]} Tryz.func247 (hvc:=?_)),
 (λq0=>Zf YS (Zb q0 Zi) mixed {} Tryz.func232 (hvc:=?_)),
 (λq0=>Zf YS (Zb q0 Zi) mixed {loops:=[(0,[.reg 4 (.dat Iq),.ent 0 (nat_lit 274) ZuV])]} Tryz.func194 (hvc:=?_)),
 (λq0 q1 q2=>Zf YS (Zb q0 (Zb q1 (Zb q2 Zi))) mixed {} Tryz.func46 (hvc:=?_)),
 (Zf Zr Zi mixed {} Tryz.func90 (hvc:=?_)),
 (λq0=>Zf Zr (Zb q0 Zi) mixed {} Tryz.func144 (hvc:=?_)),
 (Zf Zr Zi mixed {loops:=[(0,[.reg 4 (.dat Iq),.ent 0 (nat_lit 9) (.flat ZzE.ety)])]} Tryz.func87 (hvc:=?_)),
 (λq0=>Zf Zr (Zb q0 Zi) mixed {} Tryz.func266 (hvc:=?_)),
 (λq0=>Zf Zr (Zb q0 Zi) mixed {} Tryz.func89 (hvc:=?_)),
 (λq0=>Zf Zr (Zb q0 Zi) mixed {loops:=[(0,[.reg 8 (.dat Iq)])]} Tryz.func300 (hvc:=?_)),
 (λq0=>Zf Zr (Zb q0 Zi) mixed {loops:=[(0,[.reg 8 (.dat Iq)])]} Tryz.func172 (hvc:=?_)),
 (λq0=>Zf Zr (Zb q0 Zi) mixed {loops:=[(0,[.reg 8 (.dat Iq)])]} Tryz.func172 (hvc:=?_)),
 (Zf Zr Zi mixed {loops:=[(0,[.reg 3 (.dat Iq),.reg 4 (.dat Iq)])]} Tryz.func293 (hvc:=?_)),
 (λq1 q3 q0 q2=>Zf ZuF (Zb q1 (Zb q3 (Zb q0 (Zb q2 Zi)))) mixed {loops:=[(0,[.reg 9 (.dat (.sl (Yr))),.reg 10 (.dat Iq)]),(2,[.reg 12 (.dat Iq)])],draws:=[(14,[],.u 0 13 .done)]} Tryz.func15 (hvc:=?_)),
 (λq2 q0 q1 q3=>Zf Zr (Zb q2 (Zb q0 (Zb q1 (Zb q3 Zi)))) mixed {loops:=[(0,[.reg 5 (.dat Iq)])]} Tryz.func43 (hvc:=?_)),
 (λq0 q1 q2=>Zf Zr (Zb q0 (Zb q1 (Zb q2 Zi))) mixed {loops:=[(0,[.reg 5 (.own (.ol 9 (.flat (.str)))),.reg 6 (.dat Iq)]),(2,[.reg 7 (.own (.ol 9 (.flat (.str)))),.reg 8 (.dat Iq)]),(4,[.reg 10 (.dat Iq),.ent 6 (nat_lit 2) (.flat ZqU.ety)]),(6,[.reg 12 (.dat Iq),.ent 6 (nat_lit 2) (.flat ZqU.ety)]),(8,[.reg 13 (.dat Iq)])]} Tryz.func132 (hvc:=?_)),
 (λq0=>Zf Zr (Zb q0 Zi) mixed {loops:=[(0,[.reg 6 (.dat Iq)]),(2,[.reg 7 (.dat Iq)])]} Tryz.func133 (hvc:=?_)),
 (λq1 q0=>Zf Zr (Zb q1 (Zb q0 Zi)) mixed {} Tryz.func83 (hvc:=?_)),
 (Zf Zr Zi mixed {} Tryz.func154 (hvc:=?_)),
 (Zf Zr Zi mixed {loops:=[(0,[.reg 4 (.dat Iq),.ent 1 (nat_lit 2) (.flat ZqU.ety)])]} Tryz.func250 (hvc:=?_)),
 (λq0=>Zf Zr (Zb q0 Zi) mixed {loops:=[(0,[.reg 5 (.dat Iq)])]} Tryz.func265 (hvc:=?_)),
 (λq0 q1=>Zf Zr (Zb q0 (Zb q1 Zi)) mixed {} Tryz.func138 (hvc:=?_)),
 (Zf Zr Zi mixed {loops:=[(0,[.reg 5 (.dat Iq)])]} Tryz.func225 (hvc:=?_)),
 (Zf Zr Zi mixed {loops:=[(0,[.reg 8 (.dat Iq),.ent 1 (nat_lit 2) (.flat ZqU.ety)]),(2,[.reg 9 (.dat Iq),.ent 1 (nat_lit 2) (.flat ZqU.ety)])],draws:=[(9,[],.u 0 10 (.d 10))]} Tryz.func228 (hvc:=?_)),
 (λq0=>Zf Zr (Zb q0 Zi) mixed {loops:=[(0,[.reg 3 (.own (.ol 2 (.flat Iq))),.reg 4 (.dat Iq)])]} Tryz.func81 (hvc:=?_))⟩
 all_goals
  intro a;repeat rcases a with ⟨_,a⟩
  rintro K ⟨r,h,hK⟩;repeat'
    conv=>whnf
    first
    | with_reducible refine Zu7 ?_
    | with_reducible refine ZgM (by assumption) (by assumption) (by assumption) ?_
    | with_reducible refine Qb (by assumption) ?_
    | with_reducible refine ZgU (by assumption) ?_
    | (with_reducible refine shD ?_);first | refine VB h (λh=>?_) (λh=>?_) | refine ZuL h (λh=>?_) (λh=>?_)
    | (with_reducible refine ZvU ?_);first | refine Zv6 ?_ | refine ZjM ?_
    | (with_reducible refine ZzB ?_);first | refine ZsS h (λh=>?_) (λh=>?_) | refine Zv5 h (λh=>?_) (λh=>?_)
    | (with_reducible refine ZvT ?_);(refine ⟨λhd=>?_,?_⟩)<;>try subst hd
    | (with_reducible refine ZzD ?_);first | with_reducible refine XZ h (λx hb h=>?_) | refine ZgU (by assumption) ?_ | with_reducible refine pG h (λhp h=>?_) | with_reducible refine pA h (λx ha hb hx h=>?_) | with_reducible refine pB h (λx hb h=>?_) | refine XZ h (λx hb h=>?_)
    | (with_reducible refine ZzA ?_);first | with_reducible refine vAt h (λx ha hb hx h=>?_) | refine ZgM (by assumption) (by assumption) (by assumption) ?_ | with_reducible refine pG h (λhp h=>?_) | with_reducible refine pA h (λx ha hb hx h=>?_) | with_reducible refine pB h (λx hb h=>?_) | refine vAt h (λx ha hb hx h=>?_)
    | (with_reducible refine ZvS ?_);first | with_reducible refine ZpZ h (λx hb h=>?_) | refine Qb (by assumption) ?_ | with_reducible refine pG h (λhp h=>?_) | with_reducible refine pA h (λx ha hb hx h=>?_) | with_reducible refine pB h (λx hb h=>?_) | refine ZpZ h (λx hb h=>?_)
    | with_reducible refine ZzC ?_
    | (with_reducible refine ZrX ?_);refine Zr5 h hK ?_;clear h hK;intro I μ v r h hK;(repeat rcases v with ⟨_,v⟩);(try dsimp only at h)
    | with_reducible refine ⟨by assumption,?_⟩
    | with_reducible refine orL ?_
    | with_reducible refine .inr ?_
    | (with_reducible refine ZvV ?_);first | refine ⟨?_,True.intro⟩ | refine ⟨?_,?_⟩
    | refine ⟨by kernel_rfl,?_⟩
    | refine ⟨by decide,?_⟩
    | with_reducible refine Zwz h (λhp h=>?_)
    | intro fp
    | exact trivial
    | with_reducible exact Zu5 h
    | (refine pS h (λe=>?_));subst e;(repeat (first | exact hK | exact ⟨⟨rfl,rfl⟩,hK.1 _ rfl⟩ | (refine pR hK (λe hK=>?_));subst e));done
    | refine Zwz h (λhp h=>?_)
    | refine ⟨by assumption,?_⟩
    | with_reducible refine pG h (λhp h=>?_) | with_reducible refine pA h (λx ha hb hx h=>?_) | with_reducible refine pB h (λx hb h=>?_)
    | refine pG h (λhp h=>?_)
    | fail
end Go.Proofs.YtioiomifapgimaaGreatDoor
