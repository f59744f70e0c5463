/-
  The functions keep their contracts, if what they call does. Printed by program.
-/
import Derived.Test.YtepbknolmhmipaaGreatDoorM
import Derived.KernelRfl
namespace Go.Proofs.YtepbknolmhmipaaGreatDoor
open Go Go.Sx
set_option maxRecDepth 100000
set_option maxHeartbeats 100000000
set_option linter.unusedVariables false
set_option linter.unusedSimpArgs false
structure Ws1:Prop where
 w152:Sq 210 ZwR->Sq 111 c152
 w127:Sq 342 ZwB->Sq 343 ZwD->Sq 317 c127
 w131:Sq 343 c130->Sq 346 c131
 w123:Sq 369 Zwq->Sq 370 c117->Sq 371 Zwz->Sq 372 ZwA->Sq 345 ZuD->Sq 207 c97->Sq 342 ZwB
 w185:Sq 229 ZvY
 w147:Sq 109 Zun
 w154:Sq 109 Zun->Sq 212 c154
 w133:Sq 281 c98->Sq 316 Zwp->Sq 317 c127->Sq 207 c97->Sq 318 ZwG->Sq 273 ZwH
 w146:Sq 201 ZwI->Sq 202 ZwJ->Sq 203 ZwN->Sq 204 c138->Sq 205 c145->Sq 108 c146
 w143:Sq 206 c143
 w117:Sq 388 c116->Sq 370 c117
 w110:Sq 223 ZvV
 w98:Sq 207 c97->Sq 320 Zht->Sq 321 Zdl->Sq 281 c98
 w172:Sq 207 c97->Sq 284 ZwZ
 w188:Sq 226 ZuE->Sq 227 Zer->Sq 228 Zw8
 w136:Sq 274 ZwK
 w165:Sq 218 ZvW
 w189:Sq 227 Zer->Sq 228 Zw8->Sq 126 Zv0
 w176:Sq 218 ZvW->Sq 209 c109->Sq 222 c175->Sq 223 ZvV->Sq 123 Zw1
 w167:Sq 119 ZvX->Sq 118 c167
 w97:Sq 207 c97
 w212:Sq 50 c203->Sq 51 Zxk->Sq 52 Zxl->Sq 12 c212
 w214:Sq 134 c213->Sq 53 Zxm
 w221:Sq 137 Zxr->Sq 56 Zxs
 w218:Sq 233 c196->Sq 136 c218
 w219:Sq 136 c218->Sq 55 Zxq
 w216:Sq 234 Zxn->Sq 135 Zxo
 w204:Sq 233 c196->Sq 231 Zxh
 w206:Sq 131 c206
 w197:Sq 233 c196->Sq 385 Zxd
 w6:Sq 312 c5->Sq 268 c6
 w7:Sq 267 c1->Sq 268 c6->Sq 186 c2->Sq 183 c7
 w22:Sq 186 c2->Sq 88 c22
 w10:Sq 186 c2->Sq 184 c10
 w13:Sq 185 c13
 w4:Sq 367 c3->Sq 339 c4
 w32:Sq 340 c31->Sq 315 c32
 w45:Sq 39 c36->Sq 40 c42->Sq 41 c44->Sq 9 c45
 w42:Sq 100 c38->Sq 101 c39->Sq 102 c41->Sq 40 c42
 w49:Sq 200 c48->Sq 105 c49
 w28:Sq 314 c27->Sq 271 c28
 w48:Sq 200 c48
 w153:Sq 211 ZwS
 w101:Sq 322 Zwn->Sq 282 Zwo
 w125:Sq 344 c124->Sq 373 ZwC
 w168:Sq 118 c167->Sq 217 c168
 w119:Sq 393 Zwy->Sq 392 c119
 w94:Sq 93 c82->Sq 144 c86->Sq 195 c93->Sq 98 c94
 w85:Sq 78 c73->Sq 90 c77->Sq 91 c79->Sq 92 c70->Sq 93 c82->Sq 94 c84->Sq 37 c85
 w96:Sq 37 c85->Sq 38 c95->Sq 8 c96
 w63:Sq 189 c57->Sq 366 c62->Sq 337 c63
 w56:Sq 250 c56
 w70:Sq 92 c70
 w75:Sq 189 c57->Sq 188 c75
 w84:Sq 92 c70->Sq 189 c57->Sq 193 c83->Sq 94 c84
set_option maxHeartbeats 100000000 in
theorem ws1:Ws1:=by
 refine ⟨(λq0=>Zf Zn (Zb q0 Zi) mixed {loops:=[(0,[.reg 7 (.own (.ol 197 (.flat (ZmI)))),.reg 21 (.dat Iq)]),(2,[.reg 7 (.own (.ol 197 (.flat (ZmI)))),.reg 29 (.dat Iq)])]} Tryz.func111 (hvc:=?_)),
 (λq1 q0=>Zf Zn (Zb q1 (Zb q0 Zi)) mixed {loops:=[(0,[.reg 8 (.dat Iq)])]} Tryz.func317 (hvc:=?_)),
 (λq0=>Zf Zn (Zb q0 Zi) mixed {} Tryz.func346 (hvc:=?_)),
 (λq4 q3 q2 q0 q1 q5=>Zf Zn (Zb q4 (Zb q3 (Zb q2 (Zb q0 (Zb q1 (Zb q5 Zi)))))) mixed {draws:=[(2,[],.u 0 12 (.alt 12 (.u 13 5 (.alt 18 (.u 19 11 (.alt 30 (.u 31 9 .done) .done)) .done)) .done)),(3,[],.o [0,1] (.alt 2 (.u 3 4 (.alt 7 (.u 8 6 (.alt 14 (.u 15 6 (.alt 21 (.o [22,23] .done) .done)) .done)) .done)) .done))]} Tryz.func342 (hvc:=?_)),
 (Zf Zn Zi mixed {draws:=[(4,[],.u 0 17 .done)]} Tryz.func229 (hvc:=?_)),
 (Zf Zn Zi mixed {loops:=[(0,[.reg 3 (.own (.ol 185 (.flat (ZhI)))),.reg 13 (.dat Iq)]),(2,[.reg 3 (.own (.ol 185 (.flat (ZhI)))),.reg 21 (.dat Iq)]),(4,[.reg 3 (.own (.ol 185 (.flat (ZhI)))),.reg 44 (.dat Iq)])]} Tryz.func109 (hvc:=?_)),
 (λq0=>Zf Zn (Zb q0 Zi) mixed {loops:=[(0,[.reg 5 (.own (.ol 2 (.flat Iq))),.reg 11 (.dat Iq)])]} Tryz.func212 (hvc:=?_)),
 (λq3 q2 q1 q4 q0=>Zf Zn (Zb q3 (Zb q2 (Zb q1 (Zb q4 (Zb q0 Zi))))) mixed {} Tryz.func273 (hvc:=?_)),
 (λq4 q2 q1 q3 q0=>Zf Zn (Zb q4 (Zb q2 (Zb q1 (Zb q3 (Zb q0 Zi))))) mixed {loops:=[(0,[.reg 25 (.dat Iq),.ent 2 (nat_lit 3) (.flat Zti.ety)]),(2,[.reg 51 (.dat Iq),.ent 2 (nat_lit 3) (.flat Zti.ety)])]} Tryz.func108 (hvc:=?_)),
 (Zf Zn Zi mixed {} Tryz.func206 (hvc:=?_)),
 (λq0=>Zf Zn (Zb q0 Zi) mixed {} Tryz.func370 (hvc:=?_)),
 (Zf Zn Zi mixed {loops:=[(0,[.reg 3 (.dat Iq)])],draws:=[(4,[],.u 0 10 .done)]} Tryz.func223 (hvc:=?_)),
 (λq2 q1 q0=>Zf Zn (Zb q2 (Zb q1 (Zb q0 Zi))) mixed {} Tryz.func281 (hvc:=?_)),
 (λq0=>Zf Zn (Zb q0 Zi) mixed {} Tryz.func284 (hvc:=?_)),
 (λq0 q1=>Zf Zn (Zb q0 (Zb q1 Zi)) mixed {loops:=[(0,[.reg 13 (.dat Iq),.ent 0 (nat_lit 9) (.flat Zwh.ety)])]} Tryz.func228 (hvc:=?_)),
 (Zf Zn Zi mixed {} Tryz.func274 (hvc:=?_)),
 (Zf Zn Zi mixed {} Tryz.func218 (hvc:=?_)),
 (λq0 q1=>Zf Zn (Zb q0 (Zb q1 Zi)) mixed {} Tryz.func126 (hvc:=?_)),
 (λq0 q2 q3 q1=>Zf Zn (Zb q0 (Zb q2 (Zb q3 (Zb q1 Zi)))) mixed {loops:=[(0,[.reg 15 (.dat Iq)])]} Tryz.func123 (hvc:=?_)),
 (λq0=>Zf Zn (Zb q0 Zi) mixed {} Tryz.func118 (hvc:=?_)),
 (Zf Zn Zi mixed {} Tryz.func207 (hvc:=?_)),
 (λq0 q1 q2=>Zf Zn (Zb q0 (Zb q1 (Zb q2 Zi))) mixed {} Tryz.func12 (hvc:=?_)),
 (λq0=>Zf Zn (Zb q0 Zi) mixed {loops:=[(0,[.reg 5 (.dat Iq)])],draws:=[(6,[],.u 0 8 (.alt 8 (.op 9 .done) .done))]} Tryz.func53 (hvc:=?_)),
 (λq0=>Zf Zn (Zb q0 Zi) mixed {loops:=[(0,[.reg 5 (.dat Iq)])],draws:=[(6,[],.u 0 8 (.alt 8 (.op 9 .done) .done))]} Tryz.func56 (hvc:=?_)),
 (λq0=>Zf Zn (Zb q0 Zi) mixed {} Tryz.func136 (hvc:=?_)),
 (λq0=>Zf Zn (Zb q0 Zi) mixed {loops:=[(0,[.reg 5 (.dat Iq)])],draws:=[(6,[],.u 0 8 (.alt 8 (.op 9 .done) .done))]} Tryz.func55 (hvc:=?_)),
 (λq0=>Zf Zn (Zb q0 Zi) mixed {} Tryz.func135 (hvc:=?_)),
 (λq0=>Zf Zn (Zb q0 Zi) mixed {} Tryz.func231 (hvc:=?_)),
 (Zf Zn Zi mixed {loops:=[(0,[.reg 5 (.dat Iq)])],draws:=[(6,[],.u 0 9 .done)]} Tryz.func131 (hvc:=?_)),
 (λq0=>Zf Zn (Zb q0 Zi) mixed {} Tryz.func385 (hvc:=?_)),
 (λq0=>Zf Zn (Zb q0 Zi) mixed {loops:=[(0,[.reg 1 (.dat Iq),.reg 5 (.dat Iq)])]} Tryz.func268 (hvc:=?_)),
 (λq1 q2 q0=>Zf Zn (Zb q1 (Zb q2 (Zb q0 Zi))) mixed {} Tryz.func183 (hvc:=?_)),
 (λq0=>Zf Zn (Zb q0 Zi) mixed {} Tryz.func88 (hvc:=?_)),
 (λq0=>Zf Zn (Zb q0 Zi) mixed {} Tryz.func184 (hvc:=?_)),
 (Zf Zn Zi mixed {} Tryz.func185 (hvc:=?_)),
 (λq0=>Zf Zn (Zb q0 Zi) mixed {loops:=[(0,[.reg 1 (.dat Iq),.reg 5 (.dat Iq)])]} Tryz.func339 (hvc:=?_)),
 (λq0=>Zf Zb7 (Zb q0 Zi) mixed {} Tryz.func315 (hvc:=?_)),
 (λq0 q1 q2=>Zf Zb7 (Zb q0 (Zb q1 (Zb q2 Zi))) mixed {} Tryz.func9 (hvc:=?_)),
 (λq0 q1 q2=>Zf Zb7 (Zb q0 (Zb q1 (Zb q2 Zi))) mixed {} Tryz.func40 (hvc:=?_)),
 (λq0=>Zf Zn (Zb q0 Zi) mixed {} Tryz.func105 (hvc:=?_)),
 (λq0=>Zf Zn (Zb q0 Zi) mixed {loops:=[(0,[.reg 4 (.dat Iq),.ent 0 (nat_lit 342) (.flat Zuh.ety)])]} Tryz.func271 (hvc:=?_)),
 (Zf Zn Zi mixed {} Tryz.func200 (hvc:=?_)),
 (Zf Zn Zi mixed {} Tryz.func211 (hvc:=?_)),
 (λq0=>Zf Zn (Zb q0 Zi) mixed {} Tryz.func282 (hvc:=?_)),
 (λq0=>Zf Zn (Zb q0 Zi) mixed {loops:=[(0,[.reg 8 (.dat Iq)])]} Tryz.func373 (hvc:=?_)),
 (λq0=>Zf Zn (Zb q0 Zi) mixed {loops:=[(0,[.reg 8 (.dat Iq)])]} Tryz.func217 (hvc:=?_)),
 (λq0=>Zf Zn (Zb q0 Zi) mixed {loops:=[(0,[.reg 8 (.dat Iq)])]} Tryz.func392 (hvc:=?_)),
 (λq0 q1 q2=>Zf Zn (Zb q0 (Zb q1 (Zb q2 Zi))) mixed {draws:=[(6,[],.u 0 4 (.o [6,7,8,11,12,13] (.alt 4 (.op 5 (.alt 9 (.op 10 (.alt 14 (.o [15,16] .done) .done)) .done)) .done)))]} Tryz.func98 (hvc:=?_)),
 (λq5 q4 q2 q3 q1 q0=>Zf Zn (Zb q5 (Zb q4 (Zb q2 (Zb q3 (Zb q1 (Zb q0 Zi)))))) mixed {loops:=[(0,[.reg 5 (.dat Iq)]),(2,[.reg 6 (.dat Iq)])],draws:=[(6,[],.u 0 8 (.alt 8 (.o [9,10] .done) .done)),(11,[],.u 0 6 (.alt 6 (.op 7 .done) .done))]} Tryz.func37 (hvc:=?_)),
 (λq0 q1=>Zf Zn (Zb q0 (Zb q1 Zi)) mixed {} Tryz.func8 (hvc:=?_)),
 (λq1 q0=>Zf Zn (Zb q1 (Zb q0 Zi)) mixed {} Tryz.func337 (hvc:=?_)),
 (Zf Zn Zi mixed {loops:=[(0,[.reg 3 (.dat Iq)])]} Tryz.func250 (hvc:=?_)),
 (Zf Zn Zi mixed {loops:=[(0,[.reg 3 (.own (.ol 234 (.flat (ZcG)))),.reg 4 (.dat Iq)]),(2,[.reg 3 (.own (.ol 234 (.flat (ZcG)))),.reg 6 (.dat Iq)]),(4,[.reg 3 (.own (.ol 234 (.flat (ZcG)))),.reg 7 (.dat Iq)])],draws:=[(13,[],.u 0 16 (.a [16,17] (.op 18 .done)))]} Tryz.func92 (hvc:=?_)),
 (λq0=>Zf Zn (Zb q0 Zi) mixed {} Tryz.func188 (hvc:=?_)),
 (λq0 q2 q1=>Zf Zn (Zb q0 (Zb q2 (Zb q1 Zi))) mixed {loops:=[(0,[.reg 10 (.dat Iq)])],draws:=[(6,[],.u 0 5 (.alt 5 (.u 6 23 (.alt 29 (.o [30,31] .done) .done)) .done))]} Tryz.func94 (hvc:=?_))⟩
 all_goals
  intro a;repeat rcases a with ⟨_,a⟩
  rintro K ⟨r,h,hK⟩;repeat'
    conv=>whnf
    first
    | with_reducible refine Zsx ?_
    | with_reducible refine Zf3 (by assumption) (by assumption) (by assumption) ?_
    | with_reducible refine Zjl (by assumption) ?_
    | with_reducible refine Zgc (by assumption) ?_
    | (with_reducible refine shD ?_);first | refine Zph h (λh=>?_) (λh=>?_) | refine Ztl h (λh=>?_) (λh=>?_)
    | (with_reducible refine Ztb ?_);first | refine Zuv ?_ | refine Zpi ?_
    | (with_reducible refine Zwe ?_);first | refine ZqR h (λh=>?_) (λh=>?_) | refine Ztk h (λh=>?_) (λh=>?_)
    | (with_reducible refine Zta ?_);(refine ⟨λhd=>?_,?_⟩)<;>try subst hd
    | (with_reducible refine Zwg ?_);first | with_reducible refine Zfy h (λx hb h=>?_) | refine Zgc (by assumption) ?_ | with_reducible refine pG h (λhp h=>?_) | with_reducible refine pA h (λx ha hb hx h=>?_) | with_reducible refine pB h (λx hb h=>?_) | refine Zfy h (λx hb h=>?_)
    | (with_reducible refine Zwd ?_);first | with_reducible refine vAt h (λx ha hb hx h=>?_) | refine Zf3 (by assumption) (by assumption) (by assumption) ?_ | with_reducible refine pG h (λhp h=>?_) | with_reducible refine pA h (λx ha hb hx h=>?_) | with_reducible refine pB h (λx hb h=>?_) | refine vAt h (λx ha hb hx h=>?_)
    | (with_reducible refine Zs9 ?_);first | with_reducible refine ZoE h (λx hb h=>?_) | refine Zjl (by assumption) ?_ | with_reducible refine pG h (λhp h=>?_) | with_reducible refine pA h (λx ha hb hx h=>?_) | with_reducible refine pB h (λx hb h=>?_) | refine ZoE h (λx hb h=>?_)
    | with_reducible refine Zwf ?_
    | (with_reducible refine Zp6 ?_);refine Zqd h hK ?_;clear h hK;intro I μ v r h hK;(repeat rcases v with ⟨_,v⟩);(try dsimp only at h)
    | with_reducible refine ⟨by assumption,?_⟩
    | with_reducible refine orL ?_
    | with_reducible refine .inr ?_
    | (with_reducible refine Ztc ?_);first | refine ⟨?_,True.intro⟩ | refine ⟨?_,?_⟩
    | refine ⟨by kernel_rfl,?_⟩
    | refine ⟨by decide,?_⟩
    | with_reducible refine Ztm h (λhp h=>?_)
    | intro fp
    | exact trivial
    | with_reducible exact Zsw h
    | (refine pS h (λe=>?_));subst e;(repeat (first | exact hK | exact ⟨⟨rfl,rfl⟩,hK.1 _ rfl⟩ | (refine pR hK (λe hK=>?_));subst e));done
    | refine Ztm h (λhp h=>?_)
    | refine ⟨by assumption,?_⟩
    | with_reducible refine pG h (λhp h=>?_) | with_reducible refine pA h (λx ha hb hx h=>?_) | with_reducible refine pB h (λx hb h=>?_)
    | refine pG h (λhp h=>?_)
    | fail
theorem w_laws_FnExactSetupText (q2:Sq 6 c18) (q3:Sq 7 c26) (q4:Sq 9 c45) (q5:Sq 10 c55) (q0:Sq 8 c96) (q1:Sq 11 c193) (q6:Sq 12 c212) (q7:Sq 13 c222):Sq 3 Zbe:=by
 refine Zf Zn (Zb q2 (Zb q3 (Zb q4 (Zb q5 (Zb q0 (Zb q1 (Zb q6 (Zb q7 Zi)))))))) mixed {draws:=[(8,[],.o [0,2] (.a [1,3,4] (.op 5 .done))),(14,[],.o [0,1] (.a [2,3] (.op 4 .done))),(16,[],.o [0,1] (.a [2,3] (.op 4 .done)))]} (fn:=Tryz.f3) Tryz.func3 (by kernel_rfl) (by kernel_rfl) ?_;rintro ⟨aB0,aS0,⟨⟩⟩ K ⟨r,h,hK⟩
 change X9 aB0 aS0=some r at h
 unfold X9 at h
 conv=>whnf
 refine Zfy h (λszBlock0 hb0 h=>?_)
 conv=>whnf
 refine Zph h (λh=>?_) (λh=>?_)
 conv=>whnf
 cases h;exact hK
 conv=>whnf
 refine Zfy h (λszSetup0 hb1 h=>?_)
 conv=>whnf
 refine Zph h (λh=>?_) (λh=>?_)
 conv=>whnf
 cases h;exact hK
 conv=>whnf
 refine ⟨by kernel_rfl,?_⟩
 conv=>whnf
 refine Zfy h (λtoBlock0 hb2 h=>?_)
 conv=>whnf
 intro fp3
 conv=>whnf
 intro fp4
 conv=>whnf
 intro fp5
 conv=>whnf
 refine Zfy h (λtoSetup0 hb6 h=>?_)
 conv=>whnf
 intro fp7
 conv=>whnf
 refine Zfy h (λSetupText0 hb8 h=>?_)
 conv=>whnf
 refine ⟨trivial,?_⟩
 conv=>whnf
 refine ⟨_,hb2,?_⟩
 conv=>whnf
 intro fp9
 conv=>whnf
 intro fp10
 conv=>whnf
 intro fp11
 conv=>whnf
 refine ⟨_,hb6,?_⟩
 conv=>whnf
 intro fp12
 conv=>whnf
 refine Zfy h (λSetupText1 hb13 h=>?_)
 conv=>whnf
 refine Zpi ?_;refine Zph h (λh=>?_) (λh=>?_)
 conv=>whnf
 refine ⟨by kernel_rfl,?_⟩
 conv=>whnf
 refine ⟨_,hb2,?_⟩
 conv=>whnf
 intro fp14
 conv=>whnf
 intro fp15
 conv=>whnf
 intro fp16
 conv=>whnf
 refine Zfy h (λeqBlock0 hb17 h=>?_)
 conv=>whnf
 refine ⟨trivial,?_⟩
 conv=>whnf
 refine Zpi ?_;refine ZqR h (λh=>?_) (λh=>?_)
 conv=>whnf
 refine ⟨by kernel_rfl,?_⟩
 conv=>whnf
 refine ⟨_,hb6,?_⟩
 conv=>whnf
 intro fp18
 conv=>whnf
 refine Zfy h (λeqSetup0 hb19 h=>?_)
 conv=>whnf
 refine ⟨trivial,?_⟩
 conv=>whnf
 refine Zpi ?_;refine ZqR h (λh=>?_) (λh=>?_)
 conv=>whnf
 cases h;exact hK
 conv=>whnf
 cases h;exact hK
 conv=>whnf
 cases h;exact hK
 conv=>whnf
 cases h;exact hK
end Go.Proofs.YtepbknolmhmipaaGreatDoor
