/-
  The functions keep their contracts, if what they call does. Printed by program.
-/
import Derived.Test.YtepbknolmhmipaaGreatDoorM
import Derived.KernelRfl
namespace Go.Proofs.YtepbknolmhmipaaGreatDoor
open Go Go.Sx
set_option maxRecDepth 100000
set_option maxHeartbeats 100000000
set_option linter.unusedVariables false
set_option linter.unusedSimpArgs false
structure Ws1:Prop where
 w228:Sq 62 c167->Sq 68 ZLj->Sq 18 c228
 w168:Sq 210 c168
 w173:Sq 211 ZwY->Sq 109 c146->Sq 212 c171->Sq 213 ZwZ->Sq 113 c173
 w220:Sq 109 c146->Sq 166 Zxr
 w221:Sq 167 Zxs
 w117:Sq 393 c117
 w127:Sq 374 c127
 w122:Sq 369 Zwp->Sq 370 c116->Sq 371 c119->Sq 372 ZuD->Sq 345 Zwz->Sq 207 c96->Sq 342 ZwA
 w121:Sq 345 Zwz->Sq 207 c96->Sq 372 ZuD
 w134:Sq 216 Zwo->Sq 202 ZwI
 w138:Sq 204 ZwL->Sq 276 c138
 w229:Sq 260 c229
 w162:Sq 333 ZwV->Sq 298 c162
 w160:Sq 334 c160
 w132:Sq 281 c97->Sq 316 ZtN->Sq 317 ZwD->Sq 207 c96->Sq 318 c131->Sq 273 ZwG
 w197:Sq 281 c97->Sq 285 c196->Sq 224 Zxd
 w148:Sq 112 Zwq->Sq 207 c96->Sq 208 Zun->Sq 209 Zws->Sq 110 c148
 w227:Sq 62 c167->Sq 20 c201->Sq 63 c226->Sq 16 c227
 w158:Sq 331 c157->Sq 296 ZwU
 w110:Sq 112 Zwq->Sq 207 c96->Sq 209 Zws->Sq 223 c109->Sq 402 ZvV
 w159:Sq 297 c159
 w191:Sq 207 c96->Sq 222 Zxa
 w152:Sq 364 ZwR->Sq 330 c152
 w190:Sq 119 c182->Sq 207 c96->Sq 219 ZuE->Sq 220 Zv0->Sq 120 Zw9
 w239:Sq 127 ZLk->Sq 126 ZLl->Sq 226 c236->Sq 125 ZLv
 w182:Sq 218 c154->Sq 207 c96->Sq 119 c182
 w211:Sq 305 Zxl
 w140:Sq 319 c139->Sq 275 ZwM
 w100:Sq 322 c99->Sq 282 Zwn
 w184:Sq 118 c183->Sq 217 Zw7
 w118:Sq 393 c117->Sq 392 Zwy
 w230:Sq 260 c229->Sq 259 ZLs
 w71:Sq 78 c40->Sq 151 c61->Sq 152 c62->Sq 153 c70->Sq 64 c71
 w41:Sq 189 c21->Sq 250 c20->Sq 191 c41
 w5:Sq 406 c4->Sq 59 c2->Sq 399 c5
 w4:Sq 59 c2->Sq 406 c4
 w8:Sq 59 c2->Sq 362 c3->Sq 363 c7->Sq 328 c8
 w27:Sq 250 c20->Sq 189 c21->Sq 336 c27
 w66:Sq 301 c66
 w89:Sq 92 c13->Sq 142 c89
 w78:Sq 156 c59->Sq 92 c13->Sq 157 c76->Sq 158 c77->Sq 159 c73->Sq 160 c74->Sq 161 c75->Sq 162 c58->Sq 67 c78
 w61:Sq 151 c61
 w91:Sq 78 c40->Sq 92 c13->Sq 59 c2->Sq 142 c89->Sq 143 c90->Sq 144 c11->Sq 146 c14->Sq 145 c17->Sq 61 c91
 w73:Sq 92 c13->Sq 146 c14->Sq 159 c73
 w77:Sq 159 c73->Sq 146 c14->Sq 92 c13->Sq 160 c74->Sq 239 c16->Sq 161 c75->Sq 158 c77
 w249:Sq 270 ZLB->Sq 195 ZLC
 w42:Sq 191 c41->Sq 91 c42
 w47:Sq 92 c13->Sq 189 c21->Sq 193 c46->Sq 94 c47
 w245:Sq 92 c13->Sq 194 ZLn->Sq 96 ZLo
 w84:Sq 162 c58->Sq 175 c84
set_option maxHeartbeats 100000000 in
theorem ws1:Ws1:=by
 refine ⟨(λq1 q0=>Zf Zb7 (Zb q1 (Zb q0 Zi)) mixed {} Tryz.func18 (hvc:=?_)),
 (Zf Zn Zi mixed {} Tryz.func210 (hvc:=?_)),
 (λq0 q1 q2 q3=>Zf Zn (Zb q0 (Zb q1 (Zb q2 (Zb q3 Zi)))) mixed {loops:=[(0,[.reg 27 (.dat Iq),.ent 2 (nat_lit 2) (.flat (Ty.int IntKind.i64))]),(2,[.reg 10 (.dat Iq),.ent 2 (nat_lit 2) (.flat (Ty.int IntKind.i64))])],draws:=[(7,[],.u 0 16 (.alt 16 (.o [17,18] (.d 19)) .done)),(12,[],.u 0 14 (.d 14))]} Tryz.func113 (hvc:=?_)),
 (λq0=>Zf Zn (Zb q0 Zi) mixed {loops:=[(0,[.reg 16 (.dat Iq),.entm 1 (ZIJ.ty) (ZIJ.ety),.ent 2 (nat_lit 3) (.flat Zti.ety)])],draws:=[(7,[],.u 0 20 (.d 20))]} Tryz.func166 (hvc:=?_)),
 (Zf Zb7 Zi mixed {draws:=[(2,[],.u 0 10 (.d 10)),(3,[],.u 0 14 (.d 14))]} Tryz.func167 (hvc:=?_)),
 (Zf Zn Zi mixed {} Tryz.func393 (hvc:=?_)),
 (Zf Zn Zi mixed {} Tryz.func374 (hvc:=?_)),
 (λq4 q3 q2 q0 q1 q5=>Zf Zn (Zb q4 (Zb q3 (Zb q2 (Zb q0 (Zb q1 (Zb q5 Zi)))))) mixed {draws:=[(2,[],.u 0 12 (.alt 12 (.u 13 5 (.alt 18 (.u 19 11 (.alt 30 (.u 31 9 .done) .done)) .done)) .done)),(3,[],.o [0,1] (.alt 2 (.u 3 4 (.alt 7 (.u 8 6 (.alt 14 (.u 15 6 (.alt 21 (.o [22,23] .done) .done)) .done)) .done)) .done))]} Tryz.func342 (hvc:=?_)),
 (λq0 q1=>Zf Zn (Zb q0 (Zb q1 Zi)) mixed {} Tryz.func372 (hvc:=?_)),
 (λq0=>Zf Zn (Zb q0 Zi) mixed {loops:=[(0,[.reg 3 (.own (.ol 9 (.flat (.str)))),.reg 12 (.dat Iq)]),(2,[.reg 4 (.own (.ol 9 (.flat (.str)))),.reg 25 (.dat Iq)])]} Tryz.func202 (hvc:=?_)),
 (λq0=>Zf Zn (Zb q0 Zi) mixed {} Tryz.func276 (hvc:=?_)),
 (Zf Zn Zi mixed {} Tryz.func260 (hvc:=?_)),
 (λq0=>Zf Zn (Zb q0 Zi) mixed {} Tryz.func298 (hvc:=?_)),
 (Zf Zn Zi mixed {} Tryz.func334 (hvc:=?_)),
 (λq3 q2 q1 q4 q0=>Zf Zn (Zb q3 (Zb q2 (Zb q1 (Zb q4 (Zb q0 Zi))))) mixed {} Tryz.func273 (hvc:=?_)),
 (λq1 q0=>Zf Zn (Zb q1 (Zb q0 Zi)) mixed {} Tryz.func224 (hvc:=?_)),
 (λq0 q3 q1 q2=>Zf Zn (Zb q0 (Zb q3 (Zb q1 (Zb q2 Zi)))) mixed {} Tryz.func110 (hvc:=?_)),
 (λq1 q2 q0=>Zf Zb7 (Zb q1 (Zb q2 (Zb q0 Zi))) mixed {} Tryz.func16 (hvc:=?_)),
 (λq0=>Zf Zn (Zb q0 Zi) mixed {} Tryz.func296 (hvc:=?_)),
 (λq0 q3 q2 q1=>Zf Zn (Zb q0 (Zb q3 (Zb q2 (Zb q1 Zi)))) mixed {} Tryz.func402 (hvc:=?_)),
 (Zf Zn Zi mixed {} Tryz.func297 (hvc:=?_)),
 (λq0=>Zf Zn (Zb q0 Zi) mixed {} Tryz.func222 (hvc:=?_)),
 (λq0=>Zf Zn (Zb q0 Zi) mixed {} Tryz.func330 (hvc:=?_)),
 (λq0 q2 q3 q1=>Zf Zn (Zb q0 (Zb q2 (Zb q3 (Zb q1 Zi)))) mixed {loops:=[(0,[.reg 13 (.dat Iq)])],draws:=[(4,[],.o [0,1,2] (.alt 3 (.u 4 41 .done) .done))]} Tryz.func120 (hvc:=?_)),
 (λq0 q2 q1=>Zf Zn (Zb q0 (Zb q2 (Zb q1 Zi))) mixed {draws:=[(2,[],.u 0 5 (.u 7 12 (.alt 5 (.alt 6 (.a [19,20] (.op 21 .done)) (.a [19,6,20] (.op 21 .done))) (.a [19,5,6,20] (.op 21 .done))))),(6,[],.u 0 5 (.u 6 8 (.op 15 (.u 17 6 (.alt 5 (.alt 14 (.alt 16 (.a [23,24] (.op 25 .done)) (.a [23,16,24] (.op 25 .done))) (.a [23,14,16,24] (.op 25 .done))) (.a [23,5,14,16,24] (.op 25 .done)))))))]} Tryz.func125 (hvc:=?_)),
 (λq0 q1=>Zf Zn (Zb q0 (Zb q1 Zi)) mixed {} Tryz.func119 (hvc:=?_)),
 (Zf Zn Zi mixed {} Tryz.func305 (hvc:=?_)),
 (λq0=>Zf Zn (Zb q0 Zi) mixed {} Tryz.func275 (hvc:=?_)),
 (λq0=>Zf Zn (Zb q0 Zi) mixed {} Tryz.func282 (hvc:=?_)),
 (λq0=>Zf Zn (Zb q0 Zi) mixed {loops:=[(0,[.reg 8 (.dat Iq)])]} Tryz.func217 (hvc:=?_)),
 (λq0=>Zf Zn (Zb q0 Zi) mixed {loops:=[(0,[.reg 8 (.dat Iq)])]} Tryz.func392 (hvc:=?_)),
 (λq0=>Zf Zn (Zb q0 Zi) mixed {loops:=[(0,[.reg 8 (.dat Iq)])]} Tryz.func259 (hvc:=?_)),
 (λq3 q0 q1 q2=>Zf Zn (Zb q3 (Zb q0 (Zb q1 (Zb q2 Zi)))) mixed {} Tryz.func64 (hvc:=?_)),
 (λq1 q0=>Zf Zn (Zb q1 (Zb q0 Zi)) mixed {loops:=[(0,[.reg 4 (.dat Iq)])]} Tryz.func191 (hvc:=?_)),
 (λq0 q1=>Zf Zn (Zb q0 (Zb q1 Zi)) mixed {loops:=[(0,[.reg 7 (.own (.ol 2 (.flat Iq))),.reg 9 (.dat Iq),.cell 1000 0 (.sl (.int .u8)),.cell 1000 1 Iq,.cell 1000 2 Iq])],draws:=[(10,[],.u 0 5 (.op 6 (.alt 5 (.alt 7 (.o [8,9,10] .done) .done) (.a [7,5] (.o [8,9,10] .done))))),(12,[],.u 0 6 (.op 7 (.alt 6 (.alt 8 (.o [9,10,11] .done) .done) (.a [8,6] (.o [9,10,11] .done)))))]} Tryz.func399 (hvc:=?_)),
 (λq0=>Zf Zn (Zb q0 Zi) mixed {loops:=[(0,[.reg 5 (.own (.ol 2 (.flat Iq))),.reg 6 (.dat Iq),.reg 7 (.dat Iq),.cell 0 0 (.sl (.int .u8)),.cell 0 1 Iq,.cell 0 2 Iq])]} Tryz.func406 (hvc:=?_)),
 (λq2 q1 q0=>Zf Zb7 (Zb q2 (Zb q1 (Zb q0 Zi))) mixed {loops:=[(0,[.reg 9 (.own (.ol 342 (.flat (ZfZ)))),.reg 10 (.dat Iq),.cell 1000 0 (.sl (.int .u8)),.cell 1000 1 Iq,.cell 1000 2 Iq]),(2,[.reg 12 (.own (.ol 296 (Zup))),.reg 13 (.dat Iq),.cell 1000 0 (.sl (.int .u8)),.cell 1000 1 Iq,.cell 1000 2 Iq])],draws:=[(7,[],.u 0 5 (.op 6 (.alt 5 (.alt 7 (.o [8,9] (.a [10,11] (.op 12 .done))) .done) (.alt 7 (.op 8 (.alt 5 (.op 9 (.a [10,11] (.op 12 .done))) .done)) .done))))]} Tryz.func328 (hvc:=?_)),
 (λq0 q1=>Zf Zn (Zb q0 (Zb q1 Zi)) mixed {loops:=[(0,[.reg 5 (.dat Iq),.reg 6 (.dat Iq)]),(2,[.reg 8 (.dat Iq)])],draws:=[(12,[],.u 0 9 .done)]} Tryz.func336 (hvc:=?_)),
 (Zf Zn Zi mixed {loops:=[(0,[.reg 5 (.dat Iq)])]} Tryz.func301 (hvc:=?_)),
 (λq0=>Zf Zn (Zb q0 Zi) mixed {loops:=[(0,[.reg 8 (.dat Iq)])]} Tryz.func142 (hvc:=?_)),
 (λq7 q2 q3 q4 q6 q0 q5 q1=>Zf Zb7 (Zb q7 (Zb q2 (Zb q3 (Zb q4 (Zb q6 (Zb q0 (Zb q5 (Zb q1 Zi)))))))) mixed {draws:=[(5,[],.u 0 13 (.d 13)),(13,[],.u 0 9 (.d 9)),(16,[],.u 0 6 (.alt 6 (.op 7 (.d 8)) .done))]} Tryz.func67 (hvc:=?_)),
 (Zf Zn Zi mixed {} Tryz.func151 (hvc:=?_)),
 (λq5 q2 q6 q7 q0 q3 q4 q1=>Zf Zn (Zb q5 (Zb q2 (Zb q6 (Zb q7 (Zb q0 (Zb q3 (Zb q4 (Zb q1 Zi)))))))) mixed {draws:=[(12,[],.u 0 12 (.alt 12 (.op 13 (.d 14)) .done))]} Tryz.func61 (hvc:=?_)),
 (λq0 q1=>Zf Zn (Zb q0 (Zb q1 Zi)) mixed {loops:=[(0,[.reg 4 (.dat Iq),.ent 2 (nat_lit 2) (.flat Ztj.ety)]),(2,[.reg 6 (.dat Iq),.ent 2 (nat_lit 2) (.flat Ztj.ety)])],draws:=[(9,[],.u 0 15 (.d 15))]} Tryz.func159 (hvc:=?_)),
 (λq3 q4 q1 q0 q5 q2=>Zf ZJU (Zb q3 (Zb q4 (Zb q1 (Zb q0 (Zb q5 (Zb q2 Zi)))))) mixed {draws:=[(7,[],.u 0 4 (.op 5 (.u 8 9 (.alt 4 (.o [6,7] (.d 17)) .done)))),(8,[],.o [0,1,2,5,6] (.alt 3 (.alt 4 (.a [7,8] (.op 9 .done)) (.a [7,4,8] (.op 9 .done))) (.a [7,3,4,8] (.op 9 .done)))),(9,[],.u 0 4 (.u 5 4 (.o [10,11,12] (.alt 4 (.alt 9 (.op 13 (.a [14,15] .done)) (.a [14,9] (.op 13 (.d 15)))) (.alt 9 (.alt 4 (.op 13 (.a [14,15] .done)) (.a [14,4] (.op 13 (.d 15)))) (.alt 14 (.alt 4 (.alt 9 (.op 13 (.d 15)) .done) (.a [9,4] (.op 13 (.d 15)))) .done)))))),(10,[],.u 0 6 (.op 8 (.alt 6 (.op 7 (.a [9,10] .done)) .done)))]} Tryz.func158 (hvc:=?_)),
 (λq0=>Zf Zn (Zb q0 Zi) mixed {loops:=[(0,[.reg 7 (.dat (.str)),.reg 8 (.dat Iq)])],draws:=[(5,[],.u 0 13 (.alt 13 (.o [14,15] .done) .done))]} Tryz.func195 (hvc:=?_)),
 (λq0=>Zf Zn (Zb q0 Zi) mixed {loops:=[(0,[.reg 3 (.dat Iq)]),(2,[.reg 4 (.dat Iq)])],draws:=[(9,[],.u 0 11 .done)]} Tryz.func91 (hvc:=?_)),
 (λq0 q2 q1=>Zf Zn (Zb q0 (Zb q2 (Zb q1 Zi))) mixed {loops:=[(0,[.reg 10 (.dat Iq)])],draws:=[(6,[],.u 0 5 (.alt 5 (.u 6 23 (.alt 29 (.o [30,31] .done) .done)) .done))]} Tryz.func94 (hvc:=?_)),
 (λq0 q1=>Zf Zn (Zb q0 (Zb q1 Zi)) mixed {draws:=[(1,[],.u 0 6 (.op 7 (.alt 6 (.o [8,9] (.alt 10 (.op 11 .done) .done)) .done)))]} Tryz.func96 (hvc:=?_)),
 (λq0=>Zf Zn (Zb q0 Zi) mixed {} Tryz.func175 (hvc:=?_))⟩
 all_goals
  intro a;repeat rcases a with ⟨_,a⟩
  rintro K ⟨r,h,hK⟩;repeat'
    conv=>whnf
    first
    | with_reducible refine Zsx ?_
    | with_reducible refine Zf3 (by assumption) (by assumption) (by assumption) ?_
    | with_reducible refine Zjl (by assumption) ?_
    | with_reducible refine Zgc (by assumption) ?_
    | (with_reducible refine shD ?_);first | refine Zph h (λh=>?_) (λh=>?_) | refine Ztl h (λh=>?_) (λh=>?_)
    | (with_reducible refine Ztb ?_);first | refine Zuv ?_ | refine Zpi ?_
    | (with_reducible refine Zwe ?_);first | refine ZqR h (λh=>?_) (λh=>?_) | refine Ztk h (λh=>?_) (λh=>?_)
    | (with_reducible refine Zta ?_);(refine ⟨λhd=>?_,?_⟩)<;>try subst hd
    | (with_reducible refine Zwg ?_);first | with_reducible refine Zfy h (λx hb h=>?_) | refine Zgc (by assumption) ?_ | with_reducible refine pG h (λhp h=>?_) | with_reducible refine pA h (λx ha hb hx h=>?_) | with_reducible refine pB h (λx hb h=>?_) | refine Zfy h (λx hb h=>?_)
    | (with_reducible refine Zwd ?_);first | with_reducible refine vAt h (λx ha hb hx h=>?_) | refine Zf3 (by assumption) (by assumption) (by assumption) ?_ | with_reducible refine pG h (λhp h=>?_) | with_reducible refine pA h (λx ha hb hx h=>?_) | with_reducible refine pB h (λx hb h=>?_) | refine vAt h (λx ha hb hx h=>?_)
    | (with_reducible refine Zs9 ?_);first | with_reducible refine ZoE h (λx hb h=>?_) | refine Zjl (by assumption) ?_ | with_reducible refine pG h (λhp h=>?_) | with_reducible refine pA h (λx ha hb hx h=>?_) | with_reducible refine pB h (λx hb h=>?_) | refine ZoE h (λx hb h=>?_)
    | with_reducible refine Zwf ?_
    | (with_reducible refine Zp6 ?_);refine Zqd h hK ?_;clear h hK;intro I μ v r h hK;(repeat rcases v with ⟨_,v⟩);(try dsimp only at h)
    | with_reducible refine ⟨by assumption,?_⟩
    | with_reducible refine orL ?_
    | with_reducible refine .inr ?_
    | (with_reducible refine Ztc ?_);first | refine ⟨?_,True.intro⟩ | refine ⟨?_,?_⟩
    | refine ⟨by kernel_rfl,?_⟩
    | refine ⟨by decide,?_⟩
    | with_reducible refine Ztm h (λhp h=>?_)
    | intro fp
    | exact trivial
    | with_reducible exact Zsw h
    | (refine pS h (λe=>?_));subst e;(repeat (first | exact hK | exact ⟨⟨rfl,rfl⟩,hK.1 _ rfl⟩ | (refine pR hK (λe hK=>?_));subst e));done
    | refine Ztm h (λhp h=>?_)
    | refine ⟨by assumption,?_⟩
    | with_reducible refine pG h (λhp h=>?_) | with_reducible refine pA h (λx ha hb hx h=>?_) | with_reducible refine pB h (λx hb h=>?_)
    | refine pG h (λhp h=>?_)
    | fail
theorem ZMw (q0:Sq 307 Zxm) (q2:Sq 308 Zxn) (q1:Sq 309 Zxo) (q3:Sq 211 ZwY):Sq 257 Zxp:=by
 refine Zf Zb7 (Zb q0 (Zb q2 (Zb q1 (Zb q3 Zi)))) mixed {loops:=[(0,[.reg 19 (.dat Iq),.splt 1300 192 (ZeA)])],draws:=[(1,[],.o [0,1,3,4,6,7] (.alt 2 (.alt 5 (.alt 8 (.op 9 (.a [10,11] .done)) (.a [10,8] (.op 9 (.d 11)))) (.a [10,5,8] (.op 9 (.d 11)))) (.a [10,2,5,8] (.op 9 (.d 11))))),(5,[],.u 0 5 (.alt 5 (.o [6,7] (.d 8)) .done))]} (fn:=Tryz.f257) Tryz.func257 (by kernel_rfl) (by kernel_rfl) ?_;rintro ⟨d0,⟨⟩⟩ K ⟨r,h,hK⟩
 change ZBA d0=some r at h
 unfold ZBA at h
 focus
  conv=>whnf
  refine ⟨by kernel_rfl,?_⟩
  conv=>whnf
  obtain ⟨Instance0,hb0,h⟩:=Option.bind_eq_some_iff.1 h;obtain ⟨string0,hb1,h⟩:=Option.bind_eq_some_iff.1 h;obtain ⟨Port0,hb2,h⟩:=Option.bind_eq_some_iff.1 h;refine ⟨?_,?_⟩;rotate_left
  focus
   conv=>whnf
   refine ⟨_,hb0,?_⟩
   conv=>whnf
   refine ⟨_,hb1,?_⟩
   conv=>whnf
   refine ⟨_,hb2,?_⟩
   conv=>whnf
   refine ⟨trivial,?_⟩
  rotate_right
  focus
   conv=>whnf
   refine ⟨_,hb0,?_⟩
   conv=>whnf
   refine ⟨?_,?_⟩;rotate_left
   focus
    conv=>whnf
    refine ⟨_,hb1,?_⟩
    conv=>whnf
    refine ⟨_,hb2,?_⟩
    conv=>whnf
    refine ⟨trivial,?_⟩
   rotate_right
   focus
    conv=>whnf
    refine ⟨_,hb1,?_⟩
    conv=>whnf
    refine ⟨?_,?_⟩;rotate_left
    focus
     conv=>whnf
     refine ⟨_,hb2,?_⟩
     conv=>whnf
     refine ⟨trivial,?_⟩
    rotate_right
    focus
     conv=>whnf
     refine ⟨_,hb2,?_⟩
     conv=>whnf
     refine ⟨trivial,?_⟩
  all_goals
   conv=>whnf
   refine ZxP h ?_;rintro I3 μ3 ⟨v0,l0,⟨⟩⟩ zs3 h hI3 hR3
   change ZA9 Instance0 string0 Port0 v0 l0=some zs3 at h
   unfold ZA9 at h
   conv=>whnf
   intro fp4
   conv=>whnf
   refine Zph h (λh=>?_) (λh=>?_)
   conv=>whnf
   refine vAt h (λx0 he5a he5b he5x h=>?_)
   conv=>whnf
   refine Ztm h (λhp6 h=>?_)
   conv=>whnf
   refine ⟨he5a,he5b,Zjl he5x ?_⟩
   conv=>whnf
   refine ⟨by kernel_rfl,?_⟩
   conv=>whnf
   refine Zfy h (λint64_0 hb7 h=>?_)
   conv=>whnf
   refine ⟨he5a,he5b,Zjl he5x ?_⟩
   conv=>whnf
   refine Ztm h (λhp8 h=>?_)
   conv=>whnf
   refine vAt h (λx1 he9a he9b he9x h=>?_)
   conv=>whnf
   refine ⟨trivial,?_⟩
   conv=>whnf
   cases h;exact ⟨⟨rfl,rfl⟩,hI3 _ rfl⟩
   conv=>whnf
   refine Ztm h (λhp10 h=>?_)
   conv=>whnf
   cases h;obtain rfl:=hR3 _ rfl;exact hK
end Go.Proofs.YtepbknolmhmipaaGreatDoor
