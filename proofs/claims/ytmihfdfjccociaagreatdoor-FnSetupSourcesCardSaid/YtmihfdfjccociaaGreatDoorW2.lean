/-
  The functions keep their contracts, if what they call does. Printed by program.
-/
import Derived.Test.YtmihfdfjccociaaGreatDoorM
import Derived.KernelRfl
namespace Go.Proofs.YtmihfdfjccociaaGreatDoor
open Go Go.Sx
set_option maxRecDepth 100000
set_option maxHeartbeats 100000000
set_option linter.unusedVariables false
set_option linter.unusedSimpArgs false
structure Ws2:Prop where
 w89:Sq 70 c88->Sq 132 c89
 w88:Sq 129 c85->Sq 46 c79->Sq 130 c86->Sq 131 c87->Sq 70 c88
 w59:Sq 258 c55->Sq 259 c58->Sq 230 c59
 w56:Sq 260 c56
 w64:Sq 261 c53->Sq 127 c41->Sq 262 c63->Sq 231 c64
 w65:Sq 156 c30->Sq 229 c35->Sq 230 c59->Sq 76 c29->Sq 231 c64->Sq 186 c65
 w113:Sq 156 c30->Sq 157 Zuf->Sq 93 Zug
 w115:Sq 93 Zug->Sq 77 Zuh->Sq 76 c29->Sq 171 c34->Sq 109 Zui
 w81:Sq 69 c37->Sq 76 c29->Sq 126 c80->Sq 127 c41->Sq 67 c81
 w105:Sq 73 ZsI->Sq 135 Zua->Sq 74 c105
 w49:Sq 296 c48->Sq 281 c49
 w46:Sq 298 c44->Sq 299 c45->Sq 297 c46
 w41:Sq 188 c40->Sq 127 c41
 w36:Sq 280 c36
 w68:Sq 187 c68
 w121:Sq 110 Zuk->Sq 50 Zul
 w119:Sq 111 c119
 w106:Sq 104 c98->Sq 76 c29->Sq 73 ZsI->Sq 74 c105->Sq 105 Zub
 w153:Sq 72 c152->Sq 73 ZsI->Sq 74 c105->Sq 34 ZuE
 w98:Sq 45 c97->Sq 76 c29->Sq 104 c98
 w116:Sq 100 c92->Sq 101 c96->Sq 102 Zt9->Sq 105 Zub->Sq 106 Zue->Sq 109 Zui->Sq 48 c116
 w99:Sq 104 c98->Sq 103 c99
 w109:Sq 108 Zuc->Sq 107 c109
 w29:Sq 76 c29
 w0:Sq 5 c0
 w77:Sq 191 c76->Sq 124 c77
 w57:Sq 260 c56->Sq 284 c57
 w100:Sq 103 c99->Sq 172 Zt8
 w39:Sq 192 c38->Sq 232 c39
 w45:Sq 299 c45
 w144:Sq 25 c139->Sq 63 c143->Sq 38 c21->Sq 29 ZuA
 w134:Sq 185 Zut->Sq 115 Zuu
 w1:Sq 21 c1
 w5:Sq 307 c4->Sq 36 c2->Sq 294 c5
 w4:Sq 36 c2->Sq 307 c4
 w9:Sq 36 c2->Sq 253 c7->Sq 216 c9
 w12:Sq 36 c2->Sq 169 c11->Sq 167 c12
 w136:Sq 118 c20->Sq 117 Zuw
 w135:Sq 38 c21->Sq 116 Zuv
 w14:Sq 28 c13->Sq 58 c14
 w19:Sq 36 c2->Sq 169 c11->Sq 99 c19
 w22:Sq 118 c20->Sq 38 c21->Sq 59 c22
 w146:Sq 28 c13->Sq 38 c21->Sq 64 c145->Sq 30 c146
set_option maxHeartbeats 100000000 in
theorem ws2:Ws2:=by
 refine ⟨(λq0=>GO Zv (Ze q0 Zn) {loops:=[(0,[.reg 8 (.dat Iq),.ent 3 (nat_lit 2) (.flat ZrK.ety)])],draws:=[(1,[],.u 0 7 (.alt 7 (.a [8,9] (.op 10 .done)) (.a [8,7,9] (.op 10 .done)))),(6,[],.u 0 22 (.d 22))]} Tryz.func132 ?_),
 (λq0 q1 q2 q3=>GO Zv (Ze q0 (Ze q1 (Ze q2 (Ze q3 Zn)))) {loops:=[(0,[.reg 27 (.dat Iq),.ent 2 (nat_lit 2) (.flat (Ty.int IntKind.i64))]),(2,[.reg 10 (.dat Iq),.ent 2 (nat_lit 2) (.flat (Ty.int IntKind.i64))])],draws:=[(7,[],.u 0 16 (.alt 16 (.o [17,18] (.d 19)) .done)),(12,[],.u 0 14 (.d 14))]} Tryz.func70 ?_),
 (λq1 q0=>GO Zv (Ze q1 (Ze q0 Zn)) {loops:=[(0,[.reg 8 (.dat Iq)])]} Tryz.func230 ?_),
 (GO Zv Zn {} Tryz.func260 ?_),
 (λq0 q1 q2=>GO Zv (Ze q0 (Ze q1 (Ze q2 Zn))) {loops:=[(0,[.reg 3 (.dat Iq),.reg 9 (.dat Iq)])],draws:=[(10,[],.u 0 7 (.alt 7 (.u 8 6 (.alt 14 (.o [15,16] .done) .done)) .done)),(12,[],.u 0 10 (.alt 10 (.u 11 4 (.op 16 (.a [15,17] (.o [18,19,20] .done)))) .done))]} Tryz.func231 ?_),
 (λq3 q2 q1 q4 q0=>GO Zv (Ze q3 (Ze q2 (Ze q1 (Ze q4 (Ze q0 Zn))))) {} Tryz.func186 ?_),
 (λq1 q0=>GO Zv (Ze q1 (Ze q0 Zn)) {} Tryz.func93 ?_),
 (λq1 q0 q3 q2=>GO Zv (Ze q1 (Ze q0 (Ze q3 (Ze q2 Zn)))) {loops:=[(0,[.reg 3 (.own (.ol 9 (.flat (.str)))),.reg 8 (.dat Iq)])]} Tryz.func109 ?_),
 (λq0 q3 q1 q2=>GO Zv (Ze q0 (Ze q3 (Ze q1 (Ze q2 Zn)))) {} Tryz.func67 ?_),
 (λq0 q1=>GO Zv (Ze q0 (Ze q1 Zn)) {} Tryz.func74 ?_),
 (λq0=>GO Zv (Ze q0 Zn) {} Tryz.func281 ?_),
 (λq1 q0=>GO Zv (Ze q1 (Ze q0 Zn)) {} Tryz.func297 ?_),
 (λq0=>GO Zv (Ze q0 Zn) {} Tryz.func127 ?_),
 (GO Zv Zn {} Tryz.func280 ?_),
 (GO Zv Zn {} Tryz.func187 ?_),
 (λq0=>GO Zv (Ze q0 Zn) {} Tryz.func50 ?_),
 (GO Zv Zn {} Tryz.func111 ?_),
 (λq0 q2 q3 q1=>GO Zv (Ze q0 (Ze q2 (Ze q3 (Ze q1 Zn)))) {loops:=[(0,[.reg 13 (.dat Iq)])],draws:=[(4,[],.o [0,1,2] (.alt 3 (.u 4 41 .done) .done))]} Tryz.func105 ?_),
 (λq0 q2 q1=>GO Zv (Ze q0 (Ze q2 (Ze q1 Zn))) {loops:=[(0,[.reg 9 (.dat Iq)])],draws:=[(4,[],.o [0,1,2] (.alt 3 (.u 4 4 (.alt 8 (.u 9 5 (.alt 14 (.u 15 17 .done) .done)) .done)) .done))]} Tryz.func34 ?_),
 (λq0 q1=>GO Zv (Ze q0 (Ze q1 Zn)) {} Tryz.func104 ?_),
 (λq2 q5 q1 q3 q0 q4=>GO Zv (Ze q2 (Ze q5 (Ze q1 (Ze q3 (Ze q0 (Ze q4 Zn)))))) {} Tryz.func48 ?_),
 (λq0=>GO Zv (Ze q0 Zn) {} Tryz.func103 ?_),
 (λq0=>GO Zv (Ze q0 Zn) {} Tryz.func107 ?_),
 (GO Zv Zn {} Tryz.func76 ?_),
 (GO Zv Zn {} Tryz.func5 ?_),
 (λq0=>GO Zv (Ze q0 Zn) {} Tryz.func124 ?_),
 (λq0=>GO Zv (Ze q0 Zn) {loops:=[(0,[.reg 8 (.dat Iq)])]} Tryz.func284 ?_),
 (λq0=>GO Zv (Ze q0 Zn) {loops:=[(0,[.reg 8 (.dat Iq)])]} Tryz.func172 ?_),
 (λq0=>GO Zv (Ze q0 Zn) {loops:=[(0,[.reg 8 (.dat Iq)])]} Tryz.func232 ?_),
 (GO Zv Zn {loops:=[(0,[.reg 3 (.dat Iq),.reg 4 (.dat Iq)])]} Tryz.func299 ?_),
 (λq1 q0 q2=>GO Zv (Ze q1 (Ze q0 (Ze q2 Zn))) {} Tryz.func29 ?_),
 (λq0=>GO Zv (Ze q0 Zn) {loops:=[(0,[.reg 3 (.dat Iq)]),(2,[.reg 4 (.dat Iq)])],draws:=[(9,[],.u 0 13 .done)]} Tryz.func115 ?_),
 (GO Zv Zn {loops:=[(0,[.reg 4 (.dat Iq),.cell 1007 2 Iq])],draws:=[(5,[],.u 0 10 (.alt 10 (.u 11 4 (.d 15)) .done))]} Tryz.func21 ?_),
 (λq0 q1=>GO Zv (Ze q0 (Ze q1 Zn)) {loops:=[(0,[.reg 7 (.own (.ol 2 (.flat Iq))),.reg 9 (.dat Iq),.cell 1000 0 (.sl (.int .u8)),.cell 1000 1 Iq,.cell 1000 2 Iq])],draws:=[(10,[],.u 0 5 (.op 6 (.alt 5 (.alt 7 (.o [8,9,10] .done) .done) (.a [7,5] (.o [8,9,10] .done))))),(12,[],.u 0 6 (.op 7 (.alt 6 (.alt 8 (.o [9,10,11] .done) .done) (.a [8,6] (.o [9,10,11] .done)))))]} Tryz.func294 ?_),
 (λq0=>GO Zv (Ze q0 Zn) {loops:=[(0,[.reg 5 (.own (.ol 2 (.flat Iq))),.reg 6 (.dat Iq),.reg 7 (.dat Iq),.cell 0 0 (.sl (.int .u8)),.cell 0 1 Iq,.cell 0 2 Iq])]} Tryz.func307 ?_),
 (λq1 q0=>GO ZcL (Ze q1 (Ze q0 Zn)) {} Tryz.func216 ?_),
 (λq1 q0=>GO ZcL (Ze q1 (Ze q0 Zn)) {loops:=[(0,[.reg 9 (.own (.ol 141 (Zi6))),.reg 10 (.own (.ol 9 (.flat (.str)))),.reg 11 (.dat Iq),.cell 1000 0 (.sl (.int .u8)),.cell 1000 1 Iq,.cell 1000 2 Iq]),(2,[.reg 14 (.dat Iq),.cell 1000 0 (.sl (.int .u8)),.cell 1000 1 Iq,.cell 1000 2 Iq,.cello 1013 2 (.ol 2 (.flat Iq))]),(4,[.reg 16 (.dat Iq),.cell 1000 0 (.sl (.int .u8)),.cell 1000 1 Iq,.cell 1000 2 Iq,.ent 9 (nat_lit 141) (Dp.pair (Dp.flat Ty.str) (Dp.pair (Dp.flat (Ty.int IntKind.i64)) (Dp.pair (Dp.ol (2:Go.TypeId) (Dp.flat (Ty.int IntKind.i64))) (Dp.flat Ty.unit))))])],draws:=[(27,[],.u 0 4 (.u 5 4 (.alt 4 (.alt 9 (.o [10,11] (.d 12)) .done) (.alt 9 (.op 10 (.alt 4 (.op 11 (.d 12)) .done)) .done))))]} Tryz.func167 ?_),
 (λq0=>GO Zv (Ze q0 Zn) {loops:=[(0,[.reg 3 (.dat Iq)]),(2,[.reg 4 (.dat Iq)])],draws:=[(9,[],.u 0 9 .done)]} Tryz.func117 ?_),
 (λq0=>GO Zv (Ze q0 Zn) {loops:=[(0,[.reg 6 (.dat Iq)]),(2,[.reg 8 (.dat Iq)]),(4,[.reg 9 (.dat Iq)])],draws:=[(6,[],.u 0 6 (.alt 6 (.u 7 15 .done) .done))]} Tryz.func116 ?_),
 (λq0=>GO Zv (Ze q0 Zn) {loops:=[(0,[.reg 5 (.own (.ol 2 (.flat Iq))),.reg 7 (.dat Iq)])]} Tryz.func58 ?_),
 (λq1 q0=>GO Zv (Ze q1 (Ze q0 Zn)) {loops:=[(0,[.reg 3 (.own (.ol 77 (.flat (Jr)))),.reg 4 (.dat Iq),.cell 1000 0 (.sl (.int .u8)),.cell 1000 1 Iq,.cell 1000 2 Iq]),(3,[.reg 3 (.own (.ol 77 (.flat (Jr))))])],draws:=[(11,[],.op 0 (.u 3 4 (.op 9 (.ld 1 (.op 2 (.ld 10 (.alt 7 (.o [8,11,12] (.d 13)) .done)))))))]} Tryz.func99 ?_),
 (λq0 q1=>GO Zv (Ze q0 (Ze q1 Zn)) {} Tryz.func59 ?_),
 (λq0 q2 q1=>GO Zv (Ze q0 (Ze q2 (Ze q1 Zn))) {loops:=[(0,[.reg 10 (.dat Iq)])],draws:=[(6,[],.u 0 5 (.alt 5 (.u 6 23 (.alt 29 (.o [30,31] .done) .done)) .done))]} Tryz.func30 ?_)⟩
 all_goals
  intro a;repeat rcases a with ⟨_,a⟩
  rintro K ⟨r,h,hK⟩;repeat'
    conv=>whnf
    first
    | with_reducible refine ZqH ?_
    | with_reducible refine ZeT (by assumption) (by assumption) (by assumption) ?_
    | with_reducible refine Zhq (by assumption) ?_
    | with_reducible refine Ze2 (by assumption) ?_
    | (with_reducible refine shD ?_);first | refine Zmn h (λh=>?_) (λh=>?_) | refine Zrt h (λh=>?_) (λh=>?_)
    | (with_reducible refine Zrl ?_);first | refine ZsA ?_ | refine Zqm ?_
    | (with_reducible refine ZtZ ?_);first | refine Zou h (λh=>?_) (λh=>?_) | refine Zrs h (λh=>?_) (λh=>?_)
    | (with_reducible refine Zrk ?_);(refine ⟨λhd=>?_,?_⟩)<;>try subst hd
    | (with_reducible refine Zt1 ?_);first | with_reducible refine ZeB h (λx hb h=>?_) | refine Ze2 (by assumption) ?_ | with_reducible refine pG h (λhp h=>?_) | with_reducible refine pA h (λx ha hb hx h=>?_) | with_reducible refine pB h (λx hb h=>?_) | refine ZeB h (λx hb h=>?_)
    | (with_reducible refine ZtY ?_);first | with_reducible refine vAt h (λx ha hb hx h=>?_) | refine ZeT (by assumption) (by assumption) (by assumption) ?_ | with_reducible refine pG h (λhp h=>?_) | with_reducible refine pA h (λx ha hb hx h=>?_) | with_reducible refine pB h (λx hb h=>?_) | refine vAt h (λx ha hb hx h=>?_)
    | (with_reducible refine Zrj ?_);first | with_reducible refine Zmm h (λx hb h=>?_) | refine Zhq (by assumption) ?_ | with_reducible refine pG h (λhp h=>?_) | with_reducible refine pA h (λx ha hb hx h=>?_) | with_reducible refine pB h (λx hb h=>?_) | refine Zmm h (λx hb h=>?_)
    | with_reducible refine Zt0 ?_
    | (with_reducible refine ZnM ?_);refine ZnS h hK ?_;clear h hK;intro I μ v r h hK;(repeat rcases v with ⟨_,v⟩);(try dsimp only at h)
    | with_reducible refine ⟨by assumption,?_⟩
    | with_reducible refine orL ?_
    | with_reducible refine .inr ?_
    | (with_reducible refine Zrm ?_);first | refine ⟨?_,True.intro⟩ | refine ⟨?_,?_⟩
    | refine ⟨by kernel_rfl,?_⟩
    | refine ⟨by decide,?_⟩
    | with_reducible refine Zru h (λhp h=>?_)
    | intro fp
    | exact trivial
    | with_reducible exact ZqG h
    | (refine pS h (λe=>?_));subst e;(repeat (first | exact hK | exact ⟨⟨rfl,rfl⟩,hK.1 _ rfl⟩ | (refine pR hK (λe hK=>?_));subst e));done
    | refine Zru h (λhp h=>?_)
    | refine ⟨by assumption,?_⟩
    | with_reducible refine pG h (λhp h=>?_) | with_reducible refine pA h (λx ha hb hx h=>?_) | with_reducible refine pB h (λx hb h=>?_)
    | refine pG h (λhp h=>?_)
    | fail
theorem w_laws_FnSetupSources (q7:Sq 5 c0) (q0:Sq 6 c28) (q1:Sq 7 Zun) (q2:Sq 8 Zuo) (q6:Sq 9 ZtL) (q3:Sq 10 ZuC) (q4:Sq 11 c154) (q5:Sq 12 c157):Sq 3 Zcq:=by
 refine GO Zv (Ze q7 (Ze q0 (Ze q1 (Ze q2 (Ze q6 (Ze q3 (Ze q4 (Ze q5 Zn)))))))) {} Tryz.func3 ?_;rintro ⟨a0,⟨⟩⟩ K ⟨r,h,hK⟩
 change Qt a0=some r at h
 unfold Qt at h
 conv=>whnf
 refine ZeB h (λbig0 hb0 h=>?_)
 conv=>whnf
 refine Zou h (λh=>?_) (λh=>?_)
 conv=>whnf
 cases h;exact hK
 conv=>whnf
 refine ZeB h (λDrawSetupSources0 hb1 h=>?_)
 conv=>whnf
 intro fp2
 conv=>whnf
 intro fp3
 conv=>whnf
 intro fp4
 conv=>whnf
 intro fp5
 conv=>whnf
 refine ZeB h (λSetupSources0 hb6 h=>?_)
 conv=>whnf
 refine ZeB h (λSetupTargets0 hb7 h=>?_)
 conv=>whnf
 refine ZeB h (λIsSetup0 hb8 h=>?_)
 conv=>whnf
 refine Zqm ?_;refine Zou h (λh=>?_) (λh=>?_)
 conv=>whnf
 refine ZeB h (λSetupSources1 hb9 h=>?_)
 conv=>whnf
 refine Zmn h (λh=>?_) (λh=>?_)
 conv=>whnf
 refine Zmn h (λh=>?_) (λh=>?_)
 conv=>whnf
 refine Zmn h (λh=>?_) (λh=>?_)
 conv=>whnf
 refine ZeB h (λIsSources0 hb10 h=>?_)
 conv=>whnf
 refine Zou h (λh=>?_) (λh=>?_)
 conv=>whnf
 refine Zmn h (λh=>?_) (λh=>?_)
 conv=>whnf
 refine ZeB h (λIsTargets0 hb11 h=>?_)
 conv=>whnf
 cases h;exact hK
 conv=>whnf
 cases h;exact hK
 conv=>whnf
 cases h;exact hK
 conv=>whnf
 cases h;exact hK
 conv=>whnf
 cases h;exact hK
 conv=>whnf
 cases h;exact hK
 conv=>whnf
 refine Zmn h (λh=>?_) (λh=>?_)
 conv=>whnf
 cases h;exact hK
 conv=>whnf
 cases h;exact hK
end Go.Proofs.YtmihfdfjccociaaGreatDoor
