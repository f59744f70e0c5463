/-
  The functions keep their contracts, if what they call does. Printed by program.
-/
import Derived.Test.YtmihfdfjccociaaGreatDoorM
import Derived.KernelRfl
namespace Go.Proofs.YtmihfdfjccociaaGreatDoor
open Go Go.Sx
set_option maxRecDepth 100000
set_option maxHeartbeats 100000000
set_option linter.unusedVariables false
set_option linter.unusedSimpArgs false
structure Ws1:Prop where
 w83:Sq 128 c83
 w63:Sq 259 c62->Sq 262 c63
 w54:Sq 261 c53->Sq 76 c29->Sq 283 c54
 w53:Sq 257 c31->Sq 261 c53
 w74:Sq 187 c68->Sq 76 c29->Sq 188 c73->Sq 122 c74
 w86:Sq 46 c79->Sq 130 c86
 w75:Sq 125 c75
 w117:Sq 32 c82->Sq 33 c91->Sq 48 c116->Sq 22 c117
 w103:Sq 134 ZtK->Sq 73 ZsI
 w44:Sq 310 c43->Sq 127 c41->Sq 298 c44
 w80:Sq 76 c29->Sq 126 c80
 w34:Sq 156 c30->Sq 220 c33->Sq 171 c34
 w118:Sq 52 c94->Sq 51 Zuj
 w95:Sq 76 c29->Sq 219 c93->Sq 52 c94->Sq 170 c95
 w104:Sq 76 c29->Sq 135 Zua
 w107:Sq 76 c29->Sq 174 c107
 w92:Sq 100 c92
 w69:Sq 190 c69
 w62:Sq 284 c61->Sq 259 c62
 w111:Sq 173 Zud->Sq 106 Zue
 w33:Sq 254 c32->Sq 220 c33
 w110:Sq 107 c109->Sq 173 Zud
 w51:Sq 301 c50->Sq 300 c51
 w47:Sq 297 c46->Sq 309 c47
 w28:Sq 21 c1->Sq 20 c27->Sq 6 c28
 w137:Sq 115 Zuu->Sq 116 Zuv->Sq 117 Zuw->Sq 56 Zux
 w147:Sq 25 c139->Sq 26 c25->Sq 27 c141->Sq 28 c13->Sq 29 ZuA->Sq 30 c146->Sq 9 ZtL
 w128:Sq 308 c127->Sq 38 c21->Sq 295 Zuq
 w138:Sq 38 c21->Sq 57 c138
 w129:Sq 295 Zuq->Sq 279 Zur
 w127:Sq 38 c21->Sq 308 c127
 w16:Sq 218 c16
 w10:Sq 215 c8->Sq 216 c9->Sq 166 c10
 w6:Sq 294 c5->Sq 278 c6
 w8:Sq 36 c2->Sq 252 c3->Sq 253 c7->Sq 215 c8
 w126:Sq 118 c20->Sq 38 c21->Sq 226 Zup
 w3:Sq 252 c3
 w13:Sq 28 c13
 w18:Sq 166 c10->Sq 167 c12->Sq 58 c14->Sq 168 c17->Sq 98 c18
 w17:Sq 36 c2->Sq 217 c15->Sq 218 c16->Sq 168 c17
 w145:Sq 64 c145
 w143:Sq 119 Zuz->Sq 38 c21->Sq 63 c143
 w27:Sq 47 c26->Sq 36 c2->Sq 20 c27
 w148:Sq 65 c148
set_option maxHeartbeats 100000000 in
theorem ws1:Ws1:=by
 refine ⟨(GO Zv Zn {} Tryz.func128 ?_),
 (λq0=>GO Zv (Ze q0 Zn) {} Tryz.func262 ?_),
 (λq0 q1=>GO Zv (Ze q0 (Ze q1 Zn)) {} Tryz.func283 ?_),
 (λq0=>GO Zv (Ze q0 Zn) {} Tryz.func261 ?_),
 (λq1 q2 q0=>GO Zv (Ze q1 (Ze q2 (Ze q0 Zn))) {draws:=[(1,[],.u 0 4 (.alt 4 (.op 5 (.alt 6 (.u 7 18 (.alt 25 (.o [26,27,28] .done) .done)) .done)) .done))]} Tryz.func122 ?_),
 (λq0=>GO Zv (Ze q0 Zn) {loops:=[(0,[.reg 5 (.own (.ol 2 (.flat Iq))),.reg 11 (.dat Iq)])]} Tryz.func130 ?_),
 (GO Zv Zn {} Tryz.func125 ?_),
 (λq1 q2 q0=>GO Zv (Ze q1 (Ze q2 (Ze q0 Zn))) {draws:=[(1,[],.op 0 (.alt 1 (.o [2,3,5] (.a [4,6] (.o [7,8] .done))) .done))]} Tryz.func22 ?_),
 (λq0=>GO Zv (Ze q0 Zn) {} Tryz.func73 ?_),
 (λq1 q0=>GO Zv (Ze q1 (Ze q0 Zn)) {} Tryz.func298 ?_),
 (λq0=>GO Zv (Ze q0 Zn) {loops:=[(0,[.reg 8 (.dat Iq)])]} Tryz.func126 ?_),
 (λq1 q0=>GO Zv (Ze q1 (Ze q0 Zn)) {loops:=[(0,[.reg 7 (.dat Iq)])]} Tryz.func171 ?_),
 (λq0=>GO Zv (Ze q0 Zn) {loops:=[(0,[.reg 7 (.own (.ol 116 (.flat (Xt)))),.reg 19 (.dat Iq)])],draws:=[(1,[],.u 0 6 (.alt 6 (.alt 7 (.a [8,9,10] .done) (.a [8,7,9,10] .done)) (.alt 7 (.alt 6 (.a [8,9,10] .done) (.a [8,6,9,10] .done)) (.alt 8 (.alt 6 (.a [7,9,10] .done) (.a [7,6,9,10] .done)) .done))))]} Tryz.func51 ?_),
 (λq1 q0 q2=>GO Zv (Ze q1 (Ze q0 (Ze q2 Zn))) {} Tryz.func170 ?_),
 (λq0=>GO Zv (Ze q0 Zn) {} Tryz.func135 ?_),
 (λq0=>GO Zv (Ze q0 Zn) {} Tryz.func174 ?_),
 (GO Zv Zn {} Tryz.func100 ?_),
 (GO Zv Zn {} Tryz.func190 ?_),
 (λq0=>GO Zv (Ze q0 Zn) {} Tryz.func259 ?_),
 (λq0=>GO Zv (Ze q0 Zn) {} Tryz.func106 ?_),
 (λq0=>GO Zv (Ze q0 Zn) {} Tryz.func220 ?_),
 (λq0=>GO Zv (Ze q0 Zn) {loops:=[(0,[.reg 8 (.dat Iq)])]} Tryz.func173 ?_),
 (λq0=>GO Zv (Ze q0 Zn) {loops:=[(0,[.reg 8 (.dat Iq)])]} Tryz.func300 ?_),
 (λq0=>GO Zv (Ze q0 Zn) {loops:=[(0,[.reg 8 (.dat Iq)])]} Tryz.func309 ?_),
 (λq1 q0=>GO ZcL (Ze q1 (Ze q0 Zn)) {} Tryz.func6 ?_),
 (λq0 q1 q2=>GO Zv (Ze q0 (Ze q1 (Ze q2 Zn))) {loops:=[(0,[.reg 5 (.own (.ol 9 (.flat (.str)))),.reg 6 (.dat Iq)]),(2,[.reg 7 (.own (.ol 9 (.flat (.str)))),.reg 8 (.dat Iq)]),(4,[.reg 10 (.dat Iq),.ent 6 (nat_lit 2) (.flat ZrK.ety)]),(6,[.reg 12 (.dat Iq),.ent 6 (nat_lit 2) (.flat ZrK.ety)]),(8,[.reg 13 (.dat Iq)])]} Tryz.func56 ?_),
 (λq5 q4 q2 q3 q1 q0=>GO Zv (Ze q5 (Ze q4 (Ze q2 (Ze q3 (Ze q1 (Ze q0 Zn)))))) {loops:=[(0,[.reg 5 (.dat Iq)]),(2,[.reg 6 (.dat Iq)])],draws:=[(6,[],.u 0 8 (.alt 8 (.o [9,10] .done) .done)),(11,[],.u 0 6 (.alt 6 (.op 7 .done) .done))]} Tryz.func9 ?_),
 (λq0 q1=>GO Zv (Ze q0 (Ze q1 Zn)) {loops:=[(0,[.reg 3 (.dat Iq)])]} Tryz.func295 ?_),
 (λq0=>GO Zv (Ze q0 Zn) {loops:=[(0,[.reg 6 (.dat Iq)]),(2,[.reg 7 (.dat Iq)])]} Tryz.func57 ?_),
 (λq0=>GO Zv (Ze q0 Zn) {loops:=[(0,[.reg 5 (.dat Iq),.cell 1004 0 Iq,.cell 1004 1 Iq])],draws:=[(3,[],.u 0 9 (.a [9,10] .done)),(7,[],.u 0 9 (.d 9)),(8,[],.u 0 9 (.d 9))]} Tryz.func279 ?_),
 (λq0=>GO Zv (Ze q0 Zn) {loops:=[(0,[.reg 3 (.dat Iq)])],draws:=[(4,[],.u 0 4 (.alt 4 (.u 5 17 .done) .done))]} Tryz.func308 ?_),
 (GO Zv Zn {} Tryz.func218 ?_),
 (λq1 q0=>GO ZcL (Ze q1 (Ze q0 Zn)) {} Tryz.func166 ?_),
 (λq0=>GO ZcL (Ze q0 Zn) {draws:=[(2,[],.o [1,2] (.ld 0 (.a [3,4] (.op 5 .done))))]} Tryz.func278 ?_),
 (λq2 q1 q0=>GO ZcL (Ze q2 (Ze q1 (Ze q0 Zn))) {loops:=[(0,[.reg 9 (.own (.ol 264 (.flat (Zlt)))),.reg 10 (.dat Iq),.cell 1000 0 (.sl (.int .u8)),.cell 1000 1 Iq,.cell 1000 2 Iq]),(2,[.reg 12 (.own (.ol 208 (ZtN))),.reg 13 (.dat Iq),.cell 1000 0 (.sl (.int .u8)),.cell 1000 1 Iq,.cell 1000 2 Iq])],draws:=[(7,[],.u 0 5 (.op 6 (.alt 5 (.alt 7 (.o [8,9] (.a [10,11] (.op 12 .done))) .done) (.alt 7 (.op 8 (.alt 5 (.op 9 (.a [10,11] (.op 12 .done))) .done)) .done))))]} Tryz.func215 ?_),
 (λq0 q1=>GO Zv (Ze q0 (Ze q1 Zn)) {loops:=[(0,[.reg 5 (.dat Iq),.reg 6 (.dat Iq)]),(2,[.reg 8 (.dat Iq)])],draws:=[(12,[],.u 0 9 .done)]} Tryz.func226 ?_),
 (GO Zv Zn {loops:=[(0,[.reg 5 (.dat (.bool)),.reg 6 (.dat (.bool)),.reg 8 (.dat Iq)])],draws:=[(7,[],.u 0 17 .done),(8,[],.u 0 17 .done)]} Tryz.func252 ?_),
 (GO Zv Zn {loops:=[(0,[.reg 3 (.own (.ol 143 (.flat (Zd8)))),.reg 4 (.dat Iq)]),(2,[.reg 3 (.own (.ol 143 (.flat (Zd8)))),.reg 6 (.dat Iq)]),(4,[.reg 3 (.own (.ol 143 (.flat (Zd8)))),.reg 7 (.dat Iq)])],draws:=[(13,[],.u 0 16 (.a [16,17] (.op 18 .done)))]} Tryz.func28 ?_),
 (λq2 q3 q1 q0=>GO ZcL (Ze q2 (Ze q3 (Ze q1 (Ze q0 Zn)))) {loops:=[(0,[.reg 9 (.own (.ol 133 (Zo4))),.reg 10 (.dat Iq),.cell 0 0 (.sl (.int .u8)),.cell 0 1 Iq,.cell 0 2 Iq])]} Tryz.func98 ?_),
 (λq1 q0 q2=>GO Zv (Ze q1 (Ze q0 (Ze q2 Zn))) {loops:=[(0,[.reg 6 (.dat Iq),.cell 1000 0 (.sl (.int .u8)),.cell 1000 1 Iq,.cell 1000 2 Iq,.cello 1005 0 (.ol (nat_lit 2) (.flat (Ty.int IntKind.i64))),.cello 1005 1 (.ol (nat_lit 2) (.flat (Ty.int IntKind.i64))),.cello 1005 2 (.ol (nat_lit 2) (.flat (Ty.int IntKind.i64))),.cello 1005 3 (.ol (nat_lit 2) (.flat (Ty.int IntKind.i64)))]),(2,[.reg 8 (.dat Iq),.cell 1000 0 (.sl (.int .u8)),.cell 1000 1 Iq,.cell 1000 2 Iq,.ent 10 (nat_lit 2) (.flat (Ty.int IntKind.i64))])],draws:=[(6,[],.o [0,1,3,4,8,11,15,18,22] (.l [9,16,23] (.a [2,5,6,7,10,12,13,14,17,19,20,21] (.op 24 (.d 25))))),(10,[],.op 0 (.u 2 5 (.ld 1 (.alt 7 (.op 8 (.d 9)) .done))))]} Tryz.func168 ?_),
 (GO Zv Zn {} Tryz.func64 ?_),
 (λq0 q1=>GO Zv (Ze q0 (Ze q1 Zn)) {loops:=[(0,[.reg 7 (.dat Iq)])],draws:=[(4,[],.u 0 5 (.alt 5 (.op 6 (.alt 7 (.u 8 20 .done) .done)) .done))]} Tryz.func63 ?_),
 (λq0 q1=>GO ZcL (Ze q0 (Ze q1 Zn)) {draws:=[(4,[],.o [0,3] (.ld 1 (.alt 2 (.alt 4 (.u 5 4 (.d 9)) .done) (.a [4,2] (.u 5 4 (.d 9)))))),(7,[],.o [0,3] (.ld 1 (.alt 2 (.alt 4 (.u 5 4 (.d 9)) .done) (.a [4,2] (.u 5 4 (.d 9)))))),(10,[],.u 0 12 (.d 12)),(15,[],.u 0 6 (.a [6,7] (.op 8 (.d 9)))),(20,[],.u 0 6 (.a [6,7] (.op 8 (.d 9)))),(23,[],.op 0 (.alt 1 (.a [2,3] .done) (.a [2,1,3] .done)))]} Tryz.func20 ?_),
 (GO Zv Zn {loops:=[(0,[.reg 7 (.dat Iq)])],draws:=[(2,[],.u 0 14 .done),(4,[],.u 0 14 .done),(6,[],.o [0,1,3,4] (.alt 2 (.a [5,6] (.op 7 .done)) (.a [5,2,6] (.op 7 .done))))]} Tryz.func65 ?_)⟩
 all_goals
  intro a;repeat rcases a with ⟨_,a⟩
  rintro K ⟨r,h,hK⟩;repeat'
    conv=>whnf
    first
    | with_reducible refine ZqH ?_
    | with_reducible refine ZeT (by assumption) (by assumption) (by assumption) ?_
    | with_reducible refine Zhq (by assumption) ?_
    | with_reducible refine Ze2 (by assumption) ?_
    | (with_reducible refine shD ?_);first | refine Zmn h (λh=>?_) (λh=>?_) | refine Zrt h (λh=>?_) (λh=>?_)
    | (with_reducible refine Zrl ?_);first | refine ZsA ?_ | refine Zqm ?_
    | (with_reducible refine ZtZ ?_);first | refine Zou h (λh=>?_) (λh=>?_) | refine Zrs h (λh=>?_) (λh=>?_)
    | (with_reducible refine Zrk ?_);(refine ⟨λhd=>?_,?_⟩)<;>try subst hd
    | (with_reducible refine Zt1 ?_);first | with_reducible refine ZeB h (λx hb h=>?_) | refine Ze2 (by assumption) ?_ | with_reducible refine pG h (λhp h=>?_) | with_reducible refine pA h (λx ha hb hx h=>?_) | with_reducible refine pB h (λx hb h=>?_) | refine ZeB h (λx hb h=>?_)
    | (with_reducible refine ZtY ?_);first | with_reducible refine vAt h (λx ha hb hx h=>?_) | refine ZeT (by assumption) (by assumption) (by assumption) ?_ | with_reducible refine pG h (λhp h=>?_) | with_reducible refine pA h (λx ha hb hx h=>?_) | with_reducible refine pB h (λx hb h=>?_) | refine vAt h (λx ha hb hx h=>?_)
    | (with_reducible refine Zrj ?_);first | with_reducible refine Zmm h (λx hb h=>?_) | refine Zhq (by assumption) ?_ | with_reducible refine pG h (λhp h=>?_) | with_reducible refine pA h (λx ha hb hx h=>?_) | with_reducible refine pB h (λx hb h=>?_) | refine Zmm h (λx hb h=>?_)
    | with_reducible refine Zt0 ?_
    | (with_reducible refine ZnM ?_);refine ZnS h hK ?_;clear h hK;intro I μ v r h hK;(repeat rcases v with ⟨_,v⟩);(try dsimp only at h)
    | with_reducible refine ⟨by assumption,?_⟩
    | with_reducible refine orL ?_
    | with_reducible refine .inr ?_
    | (with_reducible refine Zrm ?_);first | refine ⟨?_,True.intro⟩ | refine ⟨?_,?_⟩
    | refine ⟨by kernel_rfl,?_⟩
    | refine ⟨by decide,?_⟩
    | with_reducible refine Zru h (λhp h=>?_)
    | intro fp
    | exact trivial
    | with_reducible exact ZqG h
    | (refine pS h (λe=>?_));subst e;(repeat (first | exact hK | exact ⟨⟨rfl,rfl⟩,hK.1 _ rfl⟩ | (refine pR hK (λe hK=>?_));subst e));done
    | refine Zru h (λhp h=>?_)
    | refine ⟨by assumption,?_⟩
    | with_reducible refine pG h (λhp h=>?_) | with_reducible refine pA h (λx ha hb hx h=>?_) | with_reducible refine pB h (λx hb h=>?_)
    | refine pG h (λhp h=>?_)
    | fail
end Go.Proofs.YtmihfdfjccociaaGreatDoor
