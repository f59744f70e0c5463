/-
  The functions keep their contracts, if what they call does. Printed by program.
-/
import Derived.Test.YtepbknolmhmipaaGreatDoorM
import Derived.KernelRfl
namespace Go.Proofs.YtepbknolmhmipaaGreatDoor
open Go Go.Sx
set_option maxRecDepth 100000
set_option maxHeartbeats 100000000
set_option linter.unusedVariables false
set_option linter.unusedSimpArgs false
structure Ws4:Prop where
 w223:Sq 166 Zxr->Sq 109 c146->Sq 258 ZwK->Sq 247 c206->Sq 167 Zxs->Sq 168 c222->Sq 164 ZLr
 w174:Sq 113 c173->Sq 214 Zw0
 w224:Sq 166 Zxr->Sq 109 c146->Sq 258 ZwK->Sq 212 c171->Sq 167 Zxs->Sq 168 c222->Sq 165 ZLi
 w123:Sq 344 ZwB
 w172:Sq 213 ZwZ
 w141:Sq 274 ZwJ->Sq 207 c96->Sq 275 ZwM->Sq 203 c141
 w167:Sq 46 ZwP->Sq 147 ZvX->Sq 62 c167
 w225:Sq 163 Zxq->Sq 109 c146->Sq 164 ZLr->Sq 165 ZLi->Sq 166 Zxr->Sq 167 Zxs->Sq 168 c222->Sq 169 c218->Sq 68 ZLj
 w150:Sq 295 ZwQ
 w207:Sq 247 c206->Sq 109 c146->Sq 150 Zxj
 w142:Sq 206 ZwN
 w133:Sq 273 ZwG->Sq 216 Zwo->Sq 201 ZwH
 w218:Sq 211 ZwY->Sq 169 c218
 w105:Sq 207 c96->Sq 278 c105
 w208:Sq 246 c208
 w212:Sq 211 ZwY->Sq 306 c212
 w109:Sq 223 c109
 w177:Sq 115 Zw2
 w104:Sq 112 Zwq
 w153:Sq 330 c152->Sq 294 ZwS
 w192:Sq 218 c154->Sq 209 Zws->Sq 222 Zxa->Sq 223 c109->Sq 123 Zxb
 w193:Sq 123 Zxb->Sq 122 c193
 w96:Sq 207 c96
 w203:Sq 243 c203
 w210:Sq 304 c210
 w170:Sq 211 ZwY
 w185:Sq 217 Zw7->Sq 117 ZvY
 w107:Sq 319 Zwr->Sq 275 c107
 w157:Sq 332 c156->Sq 331 c157
 w114:Sq 389 Zwv->Sq 401 Zww
 w34:Sq 336 c27->Sq 250 c20->Sq 189 c21->Sq 337 c32->Sq 338 c33->Sq 310 c34
 w38:Sq 262 c35->Sq 263 c36->Sq 264 c37->Sq 178 c38
 w83:Sq 37 c48->Sq 173 c82->Sq 72 c83
 w60:Sq 37 c48->Sq 237 c49->Sq 65 c52->Sq 156 c59->Sq 139 c60
 w88:Sq 72 c83->Sq 73 c81->Sq 74 c86->Sq 238 c85->Sq 141 c88
 w30:Sq 400 c29->Sq 387 c30
 w21:Sq 189 c21
 w33:Sq 338 c33
 w20:Sq 250 c20
 w56:Sq 303 c55->Sq 254 c56
 w54:Sq 365 c53->Sq 335 c54
 w57:Sq 239 c16->Sq 255 c57
 w13:Sq 92 c13
 w17:Sq 59 c2->Sq 171 c15->Sq 239 c16->Sq 145 c17
 w80:Sq 92 c13->Sq 146 c14->Sq 159 c73->Sq 162 c58->Sq 174 c80
 w22:Sq 250 c20->Sq 189 c21->Sq 187 c22
 w246:Sq 97 ZLm->Sq 96 ZLo->Sq 95 ZLz
 w94:Sq 138 c26->Sq 59 c2->Sq 60 c94
 w85:Sq 175 c84->Sq 238 c85
 w49:Sq 92 c13->Sq 237 c49
set_option maxHeartbeats 100000000 in
theorem ws4:Ws4:=by
 refine ⟨(λq1 q2 q3 q0 q5 q4=>Zf Zb7 (Zb q1 (Zb q2 (Zb q3 (Zb q0 (Zb q5 (Zb q4 Zi)))))) mixed {draws:=[(2,[],.u 0 4 (.o [5,6] (.alt 4 (.o [7,8] (.a [9,10] .done)) (.a [9,4] (.o [7,8] (.d 10)))))),(4,[],.u 0 5 (.u 6 5 (.a [5,11] (.o [12,13] .done)))),(5,[],.u 0 13 (.alt 13 (.op 14 (.a [15,16] (.o [17,18,19] (.d 20)))) .done)),(6,[],.u 0 8 (.a [8,9] (.o [10,11,12] (.d 13))))]} Tryz.func164 (hvc:=?_)),
 (λq0=>Zf Zn (Zb q0 Zi) mixed {loops:=[(0,[.reg 8 (.dat Iq),.ent 3 (nat_lit 2) (.flat Ztj.ety)])],draws:=[(1,[],.u 0 7 (.alt 7 (.a [8,9] (.op 10 .done)) (.a [8,7,9] (.op 10 .done)))),(6,[],.u 0 22 (.d 22))]} Tryz.func214 (hvc:=?_)),
 (λq0 q1 q2 q4 q5 q3=>Zf ZJU (Zb q0 (Zb q1 (Zb q2 (Zb q4 (Zb q5 (Zb q3 Zi)))))) mixed {draws:=[(4,[],.u 0 10 (.alt 10 (.op 11 (.alt 12 (.u 13 4 (.a [17,18] .done)) (.a [17,12] (.u 13 4 (.d 18))))) (.a [17,10] (.op 11 (.alt 12 (.u 13 4 (.d 18)) .done))))),(6,[],.o [0,2,3,4] (.alt 1 (.a [5,6] .done) (.a [5,1,6] .done))),(7,[],.u 0 13 (.d 13)),(9,[],.u 0 13 (.alt 13 (.o [14,15,16] (.d 17)) .done)),(10,[],.u 0 11 (.alt 11 (.o [12,13] (.d 14)) .done))]} Tryz.func165 (hvc:=?_)),
 (Zf Zn Zi mixed {} Tryz.func344 (hvc:=?_)),
 (Zf Zn Zi mixed {draws:=[(3,[],.u 0 18 .done)]} Tryz.func213 (hvc:=?_)),
 (λq1 q2 q0=>Zf Zn (Zb q1 (Zb q2 (Zb q0 Zi))) mixed {draws:=[(1,[],.u 0 4 (.alt 4 (.op 5 (.alt 6 (.u 7 18 (.alt 25 (.o [26,27,28] .done) .done)) .done)) .done))]} Tryz.func203 (hvc:=?_)),
 (λq1 q0=>Zf Zn (Zb q1 (Zb q0 Zi)) mixed {} Tryz.func62 (hvc:=?_)),
 (λq6 q1 q4 q0 q2 q5 q3 q7=>Zf Zb7 (Zb q6 (Zb q1 (Zb q4 (Zb q0 (Zb q2 (Zb q5 (Zb q3 (Zb q7 Zi)))))))) mixed {draws:=[(4,[],.u 0 5 (.o [6,7,11,12] (.alt 5 (.o [8,9,10,13,14] (.d 15)) .done))),(11,[],.o [0,1,3,4] (.alt 2 (.o [5,6] (.a [7,8] .done)) (.a [7,2] (.o [5,6] (.d 8))))),(17,[],.u 0 6 (.alt 6 (.op 7 (.d 8)) .done))]} Tryz.func68 (hvc:=?_)),
 (Zf Zn Zi mixed {} Tryz.func295 (hvc:=?_)),
 (λq0 q1=>Zf Zn (Zb q0 (Zb q1 Zi)) mixed {loops:=[(0,[.reg 5 (.own (.ol 2 (.flat Iq))),.reg 19 (.dat Iq)])]} Tryz.func150 (hvc:=?_)),
 (Zf Zn Zi mixed {} Tryz.func206 (hvc:=?_)),
 (λq1 q0=>Zf Zn (Zb q1 (Zb q0 Zi)) mixed {loops:=[(0,[.reg 3 (.own (.ol 9 (.flat (.str)))),.reg 9 (.dat Iq)])]} Tryz.func201 (hvc:=?_)),
 (λq0=>Zf Zn (Zb q0 Zi) mixed {draws:=[(1,[],.o [0,1,3,4,6,7,9,10] (.a [2,5,8,11] (.op 12 (.d 13))))]} Tryz.func169 (hvc:=?_)),
 (λq0=>Zf Zn (Zb q0 Zi) mixed {} Tryz.func278 (hvc:=?_)),
 (Zf Zb7 Zi mixed {loops:=[(0,[.reg 9 (.dat Iq),.ent 0 (nat_lit 2) (.flat (Ty.int IntKind.i64))])]} Tryz.func246 (hvc:=?_)),
 (λq0=>Zf Zb7 (Zb q0 Zi) mixed {loops:=[(0,[.reg 3 (.own (.ol 402 (Zk3))),.reg 8 (.dat Iq)])],draws:=[(5,[],.o [0,1,2,4,5,7,8] (.a [3,6,9] (.op 10 (.a [11,12] (.op 13 .done)))))]} Tryz.func306 (hvc:=?_)),
 (Zf Zn Zi mixed {loops:=[(0,[.reg 3 (.dat Iq)])],draws:=[(4,[],.u 0 10 .done)]} Tryz.func223 (hvc:=?_)),
 (Zf Zn Zi mixed {} Tryz.func115 (hvc:=?_)),
 (Zf Zn Zi mixed {} Tryz.func112 (hvc:=?_)),
 (λq0=>Zf Zn (Zb q0 Zi) mixed {} Tryz.func294 (hvc:=?_)),
 (λq0 q2 q3 q1=>Zf Zn (Zb q0 (Zb q2 (Zb q3 (Zb q1 Zi)))) mixed {loops:=[(0,[.reg 15 (.dat Iq)])]} Tryz.func123 (hvc:=?_)),
 (λq0=>Zf Zn (Zb q0 Zi) mixed {} Tryz.func122 (hvc:=?_)),
 (Zf Zn Zi mixed {} Tryz.func207 (hvc:=?_)),
 (Zf Zn Zi mixed {} Tryz.func243 (hvc:=?_)),
 (Zf Zn Zi mixed {} Tryz.func304 (hvc:=?_)),
 (Zf Zn Zi mixed {} Tryz.func211 (hvc:=?_)),
 (λq0=>Zf Zn (Zb q0 Zi) mixed {} Tryz.func117 (hvc:=?_)),
 (λq0=>Zf Zn (Zb q0 Zi) mixed {} Tryz.func275 (hvc:=?_)),
 (λq0=>Zf Zn (Zb q0 Zi) mixed {loops:=[(0,[.reg 17 (.dat Iq)])]} Tryz.func331 (hvc:=?_)),
 (λq0=>Zf Zn (Zb q0 Zi) mixed {loops:=[(0,[.reg 8 (.dat Iq)])]} Tryz.func401 (hvc:=?_)),
 (λq1 q2 q4 q3 q0=>Zf Zn (Zb q1 (Zb q2 (Zb q4 (Zb q3 (Zb q0 Zi))))) mixed {loops:=[(0,[.reg 5 (.dat Iq)]),(2,[.reg 7 (.dat Iq)]),(5,[.reg 9 (.dat Iq)])],draws:=[(13,[],.u 0 31 .done),(25,[],.u 0 26 .done)]} Tryz.func310 (hvc:=?_)),
 (λq0 q1 q2=>Zf Zn (Zb q0 (Zb q1 (Zb q2 Zi))) mixed {loops:=[(0,[.reg 5 (.own (.ol 9 (.flat (.str)))),.reg 6 (.dat Iq)]),(2,[.reg 7 (.own (.ol 9 (.flat (.str)))),.reg 8 (.dat Iq)]),(4,[.reg 10 (.dat Iq),.ent 6 (nat_lit 2) (.flat Ztj.ety)]),(6,[.reg 12 (.dat Iq),.ent 6 (nat_lit 2) (.flat Ztj.ety)]),(8,[.reg 13 (.dat Iq)])]} Tryz.func178 (hvc:=?_)),
 (λq1 q0=>Zf Zn (Zb q1 (Zb q0 Zi)) mixed {} Tryz.func72 (hvc:=?_)),
 (λq1 q2 q0 q3=>Zf Zb7 (Zb q1 (Zb q2 (Zb q0 (Zb q3 Zi)))) mixed {draws:=[(3,[],.o [0,2] (.alt 1 (.alt 3 (.o [4,5,6] (.a [7,8] (.op 9 .done))) (.a [7,3] (.o [4,5,6] (.alt 8 (.op 9 .done) .done)))) (.a [7,1,3] (.o [4,5,6] (.alt 8 (.op 9 .done) .done))))),(4,[],.o [0,2] (.alt 1 (.op 3 (.alt 4 (.op 5 .done) .done)) .done))]} Tryz.func139 (hvc:=?_)),
 (λq0 q2 q1 q3=>Zf Zn (Zb q0 (Zb q2 (Zb q1 (Zb q3 Zi)))) mixed {draws:=[(5,[],.u 0 8 (.alt 8 (.u 9 5 (.alt 14 (.alt 15 (.a [16,17,18,19] (.op 20 .done)) (.a [16,15,17,18,19] (.op 20 .done))) (.alt 15 (.alt 14 (.a [16,17,18,19] (.op 20 .done)) (.a [16,14,17,18,19] (.op 20 .done))) (.alt 16 (.alt 14 (.a [15,17,18,19] (.op 20 .done)) (.a [15,14,17,18,19] (.op 20 .done))) .done)))) (.alt 14 (.alt 8 (.u 9 5 (.alt 15 (.a [16,17,18,19] (.op 20 .done)) (.a [16,15,17,18,19] (.op 20 .done)))) (.alt 15 (.alt 8 (.u 9 5 (.a [16,17,18,19] (.op 20 .done))) (.a [16,8] (.u 9 5 (.a [17,18,19] (.op 20 .done))))) (.alt 16 (.alt 8 (.u 9 5 (.a [15,17,18,19] (.op 20 .done))) (.a [15,8] (.u 9 5 (.a [17,18,19] (.op 20 .done))))) .done))) (.alt 15 (.alt 8 (.u 9 5 (.alt 14 (.a [16,17,18,19] (.op 20 .done)) (.a [16,14,17,18,19] (.op 20 .done)))) (.alt 14 (.alt 8 (.u 9 5 (.a [16,17,18,19] (.op 20 .done))) (.a [16,8] (.u 9 5 (.a [17,18,19] (.op 20 .done))))) (.alt 16 (.alt 8 (.u 9 5 (.a [14,17,18,19] (.op 20 .done))) (.a [14,8] (.u 9 5 (.a [17,18,19] (.op 20 .done))))) .done))) (.alt 16 (.alt 8 (.u 9 5 (.alt 14 (.a [15,17,18,19] (.op 20 .done)) (.a [15,14,17,18,19] (.op 20 .done)))) (.alt 14 (.alt 8 (.u 9 5 (.a [15,17,18,19] (.op 20 .done))) (.a [15,8] (.u 9 5 (.a [17,18,19] (.op 20 .done))))) (.alt 15 (.alt 8 (.u 9 5 (.a [14,17,18,19] (.op 20 .done))) (.a [14,8] (.u 9 5 (.a [17,18,19] (.op 20 .done))))) .done))) .done))))),(6,[],.u 0 5 (.o [6,7] (.a [5,8] (.op 9 (.alt 10 (.op 11 .done) .done)))))]} Tryz.func141 (hvc:=?_)),
 (λq0=>Zf Zn (Zb q0 Zi) mixed {loops:=[(0,[.reg 5 (.dat Iq),.cell 1004 0 Iq,.cell 1004 1 Iq])],draws:=[(3,[],.u 0 9 (.a [9,10] .done)),(7,[],.u 0 9 (.d 9)),(8,[],.u 0 9 (.d 9))]} Tryz.func387 (hvc:=?_)),
 (Zf Zn Zi mixed {} Tryz.func189 (hvc:=?_)),
 (Zf Zn Zi mixed {loops:=[(0,[.reg 4 (.dat Iq),.ent 1 (nat_lit 2) (.flat Ztj.ety)])]} Tryz.func338 (hvc:=?_)),
 (Zf Zn Zi mixed {loops:=[(0,[.reg 3 (.dat Iq)])]} Tryz.func250 (hvc:=?_)),
 (λq0=>Zf Zb7 (Zb q0 Zi) mixed {loops:=[(0,[.reg 4 (.dat Iq),.cello 1003 0 (.ol 281 (Zqk))])],draws:=[(5,[],.u 0 7 (.a [7,8,9] (.op 10 (.d 11))))]} Tryz.func254 (hvc:=?_)),
 (λq0=>Zf Zb7 (Zb q0 Zi) mixed {loops:=[(0,[.reg 3 (.own (.ol 402 (Zk3))),.reg 4 (.dat Iq)])]} Tryz.func335 (hvc:=?_)),
 (λq0=>Zf Zb7 (Zb q0 Zi) mixed {loops:=[(0,[.reg 4 (.dat Iq),.cello 1003 0 (.ol 192 (ZeA))])],draws:=[(1,[],.o [1,2,5] (.ld 6 (.alt 0 (.alt 3 (.alt 4 (.alt 7 (.op 8 (.a [9,10] .done)) (.a [9,7] (.op 8 (.d 10)))) (.a [9,4,7] (.op 8 (.d 10)))) (.alt 4 (.alt 3 (.alt 7 (.op 8 (.a [9,10] .done)) (.a [9,7] (.op 8 (.d 10)))) (.a [9,3,7] (.op 8 (.d 10)))) (.alt 9 (.alt 3 (.a [4,7] (.op 8 (.d 10))) (.a [4,3,7] (.op 8 (.d 10)))) .done))) (.alt 4 (.alt 0 (.alt 3 (.alt 7 (.op 8 (.a [9,10] .done)) (.a [9,7] (.op 8 (.d 10)))) (.a [9,3,7] (.op 8 (.d 10)))) (.a [9,0,3,7] (.op 8 (.d 10)))) (.alt 9 (.alt 0 (.alt 3 (.a [4,7] (.op 8 (.d 10))) (.a [4,3,7] (.op 8 (.d 10)))) (.a [4,0,3,7] (.op 8 (.d 10)))) .done)))))]} Tryz.func255 (hvc:=?_)),
 (Zf Zn Zi mixed {loops:=[(0,[.reg 3 (.own (.ol 234 (.flat (ZcG)))),.reg 4 (.dat Iq)]),(2,[.reg 3 (.own (.ol 234 (.flat (ZcG)))),.reg 6 (.dat Iq)]),(4,[.reg 3 (.own (.ol 234 (.flat (ZcG)))),.reg 7 (.dat Iq)])],draws:=[(13,[],.u 0 16 (.a [16,17] (.op 18 .done)))]} Tryz.func92 (hvc:=?_)),
 (λq1 q0 q2=>Zf Zn (Zb q1 (Zb q0 (Zb q2 Zi))) mixed {loops:=[(0,[.reg 6 (.dat Iq),.cell 1000 0 (.sl (.int .u8)),.cell 1000 1 Iq,.cell 1000 2 Iq,.cello 1005 0 (.ol (nat_lit 2) (.flat (Ty.int IntKind.i64))),.cello 1005 1 (.ol (nat_lit 2) (.flat (Ty.int IntKind.i64))),.cello 1005 2 (.ol (nat_lit 2) (.flat (Ty.int IntKind.i64))),.cello 1005 3 (.ol (nat_lit 2) (.flat (Ty.int IntKind.i64)))]),(2,[.reg 8 (.dat Iq),.cell 1000 0 (.sl (.int .u8)),.cell 1000 1 Iq,.cell 1000 2 Iq,.ent 10 (nat_lit 2) (.flat (Ty.int IntKind.i64))])],draws:=[(6,[],.o [0,1,3,4,8,11,15,18,22] (.l [9,16,23] (.a [2,5,6,7,10,12,13,14,17,19,20,21] (.op 24 (.d 25))))),(10,[],.op 0 (.u 2 5 (.ld 1 (.alt 7 (.op 8 (.d 9)) .done))))]} Tryz.func145 (hvc:=?_)),
 (λq1 q2 q3 q0=>Zf Zn (Zb q1 (Zb q2 (Zb q3 (Zb q0 Zi)))) mixed {draws:=[(4,[],.u 0 15 (.d 15)),(14,[],.u 0 9 (.o [10,11] (.alt 9 (.o [12,13,14] (.d 15)) .done))),(15,[],.u 0 8 (.alt 8 (.op 9 (.d 10)) .done))]} Tryz.func174 (hvc:=?_)),
 (λq0 q1=>Zf Zn (Zb q0 (Zb q1 Zi)) mixed {} Tryz.func187 (hvc:=?_)),
 (λq0 q1=>Zf Zn (Zb q0 (Zb q1 Zi)) mixed {draws:=[(3,[],.u 0 7 (.u 9 6 (.op 18 (.alt 7 (.op 8 (.a [15,16] (.o [17,19,20] .done))) (.a [15,7] (.op 8 (.alt 16 (.o [17,19,20] .done) .done))))))),(7,[],.u 0 7 (.u 10 6 (.o [17,18,22,24] (.alt 7 (.o [8,9,16] (.a [19,20] (.o [21,23,25,26] .done))) (.a [19,7] (.o [8,9,16] (.alt 20 (.o [21,23,25,26] .done) .done)))))))]} Tryz.func95 (hvc:=?_)),
 (λq0 q1=>Zf Zb7 (Zb q0 (Zb q1 Zi)) mixed {draws:=[(4,[],.o [0,3] (.ld 1 (.alt 2 (.alt 4 (.u 5 4 (.d 9)) .done) (.a [4,2] (.u 5 4 (.d 9)))))),(7,[],.o [0,3] (.ld 1 (.alt 2 (.alt 4 (.u 5 4 (.d 9)) .done) (.a [4,2] (.u 5 4 (.d 9)))))),(10,[],.u 0 12 (.d 12)),(15,[],.u 0 6 (.a [6,7] (.op 8 (.d 9)))),(20,[],.u 0 6 (.a [6,7] (.op 8 (.d 9)))),(23,[],.op 0 (.alt 1 (.a [2,3] .done) (.a [2,1,3] .done)))]} Tryz.func60 (hvc:=?_)),
 (λq0=>Zf Zb7 (Zb q0 Zi) mixed {loops:=[(0,[.reg 3 (.own (.ol 69 (ZF3))),.reg 4 (.dat Iq)])]} Tryz.func238 (hvc:=?_)),
 (λq0=>Zf Zn (Zb q0 Zi) mixed {loops:=[(0,[.reg 3 (.own (.ol 2 (.flat Iq))),.reg 4 (.dat Iq)])]} Tryz.func237 (hvc:=?_))⟩
 all_goals
  intro a;repeat rcases a with ⟨_,a⟩
  rintro K ⟨r,h,hK⟩;repeat'
    conv=>whnf
    first
    | with_reducible refine Zsx ?_
    | with_reducible refine Zf3 (by assumption) (by assumption) (by assumption) ?_
    | with_reducible refine Zjl (by assumption) ?_
    | with_reducible refine Zgc (by assumption) ?_
    | (with_reducible refine shD ?_);first | refine Zph h (λh=>?_) (λh=>?_) | refine Ztl h (λh=>?_) (λh=>?_)
    | (with_reducible refine Ztb ?_);first | refine Zuv ?_ | refine Zpi ?_
    | (with_reducible refine Zwe ?_);first | refine ZqR h (λh=>?_) (λh=>?_) | refine Ztk h (λh=>?_) (λh=>?_)
    | (with_reducible refine Zta ?_);(refine ⟨λhd=>?_,?_⟩)<;>try subst hd
    | (with_reducible refine Zwg ?_);first | with_reducible refine Zfy h (λx hb h=>?_) | refine Zgc (by assumption) ?_ | with_reducible refine pG h (λhp h=>?_) | with_reducible refine pA h (λx ha hb hx h=>?_) | with_reducible refine pB h (λx hb h=>?_) | refine Zfy h (λx hb h=>?_)
    | (with_reducible refine Zwd ?_);first | with_reducible refine vAt h (λx ha hb hx h=>?_) | refine Zf3 (by assumption) (by assumption) (by assumption) ?_ | with_reducible refine pG h (λhp h=>?_) | with_reducible refine pA h (λx ha hb hx h=>?_) | with_reducible refine pB h (λx hb h=>?_) | refine vAt h (λx ha hb hx h=>?_)
    | (with_reducible refine Zs9 ?_);first | with_reducible refine ZoE h (λx hb h=>?_) | refine Zjl (by assumption) ?_ | with_reducible refine pG h (λhp h=>?_) | with_reducible refine pA h (λx ha hb hx h=>?_) | with_reducible refine pB h (λx hb h=>?_) | refine ZoE h (λx hb h=>?_)
    | with_reducible refine Zwf ?_
    | (with_reducible refine Zp6 ?_);refine Zqd h hK ?_;clear h hK;intro I μ v r h hK;(repeat rcases v with ⟨_,v⟩);(try dsimp only at h)
    | with_reducible refine ⟨by assumption,?_⟩
    | with_reducible refine orL ?_
    | with_reducible refine .inr ?_
    | (with_reducible refine Ztc ?_);first | refine ⟨?_,True.intro⟩ | refine ⟨?_,?_⟩
    | refine ⟨by kernel_rfl,?_⟩
    | refine ⟨by decide,?_⟩
    | with_reducible refine Ztm h (λhp h=>?_)
    | intro fp
    | exact trivial
    | with_reducible exact Zsw h
    | (refine pS h (λe=>?_));subst e;(repeat (first | exact hK | exact ⟨⟨rfl,rfl⟩,hK.1 _ rfl⟩ | (refine pR hK (λe hK=>?_));subst e));done
    | refine Ztm h (λhp h=>?_)
    | refine ⟨by assumption,?_⟩
    | with_reducible refine pG h (λhp h=>?_) | with_reducible refine pA h (λx ha hb hx h=>?_) | with_reducible refine pB h (λx hb h=>?_)
    | refine pG h (λhp h=>?_)
    | fail
theorem ZMv (q0:Sq 304 c210) (q2:Sq 211 ZwY) (q1:Sq 305 Zxl) (q3:Sq 306 c212):Sq 256 c213:=by
 refine Zf Zb7 (Zb q0 (Zb q2 (Zb q1 (Zb q3 Zi)))) mixed {loops:=[(0,[.reg 11 (.dat Iq),.cello 1003 0 (.ol 281 (Zqk))]),(2,[.reg 30 (.dat Iq),.splt 7 296 Zup])],draws:=[(5,[],.o [0,1,3,4] (.alt 2 (.op 6 (.a [5,7] (.op 8 (.d 9)))) .done)),(10,[],.u 0 4 (.o [5,6,7,9,10] (.alt 4 (.a [8,11] (.o [12,13] (.alt 14 (.o [15,16] (.d 17)) .done))) (.alt 8 (.alt 4 (.alt 11 (.o [12,13] (.alt 14 (.o [15,16] (.d 17)) .done)) .done) (.alt 11 (.o [12,13] (.alt 4 (.alt 14 (.o [15,16] (.d 17)) .done) (.a [14,4] (.o [15,16] (.d 17))))) .done)) .done))))]} (fn:=Tryz.f256) Tryz.func256 (by kernel_rfl) (by kernel_rfl) ?_;rintro ⟨l0,⟨⟩⟩ K ⟨r,h,hK⟩
 change ZBB l0=some r at h
 unfold ZBB at h
 conv=>whnf
 refine ZxP h ?_;rintro I0 μ0 ⟨v0,c0,⟨⟩⟩ zs0 h hI0 hR0
 change ZAU l0 v0 c0=some zs0 at h
 unfold ZAU at h
 conv=>whnf
 intro fp1
 conv=>whnf
 refine Zph h (λh=>?_) (λh=>?_)
 conv=>whnf
 refine vAt h (λx0 he2a he2b he2x h=>?_)
 conv=>whnf
 refine ⟨by kernel_rfl,?_⟩
 conv=>whnf
 refine Zfy h (λPin0 hb3 h=>?_)
 conv=>whnf
 refine Zfy h (λint64_0 hb4 h=>?_)
 conv=>whnf
 refine ⟨trivial,?_⟩
 conv=>whnf
 refine Zfy h (λArc0 hb5 h=>?_)
 conv=>whnf
 refine ZxP h ?_;rintro I6 μ6 ⟨v1,l1,⟨⟩⟩ zs6 h hI6 hR6
 change ZBc v0 c0 x0 Pin0 int64_0 Arc0 v1 l1=some zs6 at h
 unfold ZBc at h
 conv=>whnf
 intro fp7
 conv=>whnf
 refine Zph h (λh=>?_) (λh=>?_)
 focus
  conv=>whnf
  refine vAt h (λx1 he8a he8b he8x h=>?_)
  conv=>whnf
  refine Ztm h (λhp9 h=>?_)
  conv=>whnf
  refine ⟨he8a,he8b,Zjl he8x ?_⟩
  conv=>whnf
  refine ⟨by kernel_rfl,?_⟩
  conv=>whnf
  obtain ⟨cloneTables0,hb10,h⟩:=Option.bind_eq_some_iff.1 h;obtain ⟨cloneTables1,hb12,h⟩:=Option.bind_eq_some_iff.1 h;obtain ⟨hp14,h⟩:=guardE h;obtain ⟨x2,he15a,he15b,he15x,h⟩:=atE h;refine ⟨?_,?_⟩;rotate_left
  focus
   conv=>whnf
   refine ⟨_,hb10,?_⟩
   conv=>whnf
   intro fp16
   conv=>whnf
   refine ⟨?_,?_⟩;rotate_left
   focus
    conv=>whnf
    refine ⟨_,hb12,?_⟩
    conv=>whnf
    intro fp17
    conv=>whnf
    refine ⟨he8a,he8b,Zjl he8x ?_⟩
    conv=>whnf
    refine ⟨?_,?_⟩;rotate_left
    focus
     conv=>whnf
     refine ⟨hp14,?_⟩
     conv=>whnf
     refine ⟨he15a,he15b,Zjl he15x ?_⟩
     conv=>whnf
     refine ⟨he8a,he8b,Zjl he8x ?_⟩
     conv=>whnf
     refine ⟨hp14,?_⟩
     conv=>whnf
     refine ⟨trivial,?_⟩
    rotate_right
    focus
     conv=>whnf
     refine ⟨hp14,?_⟩
     conv=>whnf
     refine ⟨he15a,he15b,Zjl he15x ?_⟩
     conv=>whnf
     refine ⟨he8a,he8b,Zjl he8x ?_⟩
     conv=>whnf
     refine ⟨hp14,?_⟩
     conv=>whnf
     refine ⟨trivial,?_⟩
   rotate_right
   focus
    conv=>whnf
    refine ⟨_,hb12,?_⟩
    conv=>whnf
    intro fp17
    conv=>whnf
    refine ⟨he8a,he8b,Zjl he8x ?_⟩
    conv=>whnf
    refine ⟨hp14,?_⟩
    conv=>whnf
    refine ⟨he15a,he15b,Zjl he15x ?_⟩
    conv=>whnf
    refine ⟨he8a,he8b,Zjl he8x ?_⟩
    conv=>whnf
    refine ⟨hp14,?_⟩
    conv=>whnf
    refine ⟨trivial,?_⟩
  rotate_right
  focus
   conv=>whnf
   refine ⟨_,hb10,?_⟩
   conv=>whnf
   intro fp16
   conv=>whnf
   refine ⟨_,hb12,?_⟩
   conv=>whnf
   intro fp17
   conv=>whnf
   refine ⟨he8a,he8b,Zjl he8x ?_⟩
   conv=>whnf
   refine ⟨hp14,?_⟩
   conv=>whnf
   refine ⟨he15a,he15b,Zjl he15x ?_⟩
   conv=>whnf
   refine ⟨he8a,he8b,Zjl he8x ?_⟩
   conv=>whnf
   refine ⟨hp14,?_⟩
   conv=>whnf
   refine ⟨trivial,?_⟩
  all_goals
   conv=>whnf
   cases h;exact ⟨⟨rfl,rfl⟩,hI6 _ rfl⟩
 conv=>whnf
 refine Ztm h (λhp18 h=>?_)
 conv=>whnf
 intro fp19
 conv=>whnf
 refine Ztm h (λhp20 h=>?_)
 conv=>whnf
 intro fp21
 conv=>whnf
 cases h;obtain rfl:=hR6 _ rfl;exact ⟨⟨rfl,rfl⟩,hI0 _ rfl⟩
 conv=>whnf
 cases h;obtain rfl:=hR0 _ rfl;exact hK
theorem ZmK (rec0:(List Zc)->Int->Option Zct) (hrec:Sq 280 (Zb8 rec0)):Sq 280 (Zb8 (VU rec0)):=by
 refine Zf Zn (Zb hrec Zi) mixed {} (fn:=Tryz.f280) Tryz.func280 (by kernel_rfl) (by kernel_rfl) ?_;rintro ⟨list0,k0,⟨⟩⟩ K ⟨r,h,hK⟩
 change VU rec0 list0 k0=some r at h
 unfold VU at h
 conv=>whnf
 refine vAt h (λx0 he0a he0b he0x h=>?_)
 conv=>whnf
 refine Zph h (λh=>?_) (λh=>?_)
 conv=>whnf
 cases h;exact hK
 conv=>whnf
 refine Zfy h (λr0 hb1 h=>?_)
 conv=>whnf
 refine Zph h (λh=>?_) (λh=>?_)
 conv=>whnf
 refine ⟨by decide,?_⟩
 conv=>whnf
 refine ZqR h (λh=>?_) (λh=>?_)
 conv=>whnf
 cases h;exact hK
 conv=>whnf
 cases h;exact hK
 conv=>whnf
 refine ZqR h (λh=>?_) (λh=>?_)
 conv=>whnf
 cases h;exact hK
 conv=>whnf
 cases h;exact hK
theorem ZMu:Sq 280 Zw4:=by
 have hn:∀ n,Sq 280 (Zb8 (VI n)):=by
  intro n;induction n with
  | zero =>
  refine Zf Zn Zi mixed {} (fn:=Tryz.f280) Tryz.func280 (by kernel_rfl) (by kernel_rfl) ?_;rintro ⟨list0,k0,⟨⟩⟩ K ⟨r,h,hK⟩;cases h
  | succ n ih=>exact ZmK _ ih
 refine ⟨(hn 0).1,?_⟩;rintro w S vs ⟨list0,k0,⟨⟩⟩ fp K h1 h0 h2 h3 h4 ⟨r,h,hK⟩;obtain ⟨n,hr⟩:=ZlX h;exact (hn n).2 w S vs _ fp K h1 h0 h2 h3 h4 ⟨r,hr,hK⟩
theorem Zj4 (rec0:Int->Option (List UInt8)) (hrec:Sq 144 (JU rec0)):Sq 144 (JU (YB rec0)):=by
 refine Zf Zn (Zb hrec Zi) mixed {draws:=[(5,[],.o [0,1,3,4,5] (.alt 2 (.a [6,7,8] (.o [9,10] .done)) (.alt 6 (.alt 2 (.a [7,8] (.o [9,10] .done)) (.alt 7 (.alt 2 (.alt 8 (.o [9,10] .done) .done) (.a [8,2] (.o [9,10] .done))) .done)) .done)))]} (fn:=Tryz.f144) Tryz.func144 (by kernel_rfl) (by kernel_rfl) ?_;rintro ⟨n0,⟨⟩⟩ K ⟨r,h,hK⟩
 change YB rec0 n0=some r at h
 unfold YB at h
 conv=>whnf
 refine Zph h (λh=>?_) (λh=>?_)
 conv=>whnf
 refine Zfy h (λr0 hb0 h=>?_)
 conv=>whnf
 refine Ztm h (λhp1 h=>?_)
 conv=>whnf
 cases h;exact hK
 conv=>whnf
 refine Zph h (λh=>?_) (λh=>?_)
 conv=>whnf
 cases h;exact hK
 focus
  conv=>whnf
  refine ⟨by kernel_rfl,?_⟩
  conv=>whnf
  refine ⟨by decide,?_⟩
  conv=>whnf
  refine ⟨by decide,?_⟩
  conv=>whnf
  obtain ⟨r0,hb2,h⟩:=Option.bind_eq_some_iff.1 h;obtain ⟨hp3,h⟩:=guardE h;refine ⟨?_,?_⟩;rotate_left
  focus
   conv=>whnf
   refine ⟨?_,?_⟩;rotate_left
   focus
    conv=>whnf
    refine ⟨?_,?_⟩;rotate_left
    focus
     conv=>whnf
     refine ⟨_,hb2,?_⟩
     conv=>whnf
     refine ⟨hp3,?_⟩
     conv=>whnf
     refine ⟨trivial,?_⟩
    rotate_right
    focus
     conv=>whnf
     refine ⟨_,hb2,?_⟩
     conv=>whnf
     refine ⟨hp3,?_⟩
     conv=>whnf
     refine ⟨trivial,?_⟩
   rotate_right
   focus
    conv=>whnf
    refine ⟨_,hb2,?_⟩
    conv=>whnf
    refine ⟨hp3,?_⟩
    conv=>whnf
    refine ⟨trivial,?_⟩
  rotate_right
  focus
   conv=>whnf
   refine ⟨_,hb2,?_⟩
   conv=>whnf
   refine ⟨hp3,?_⟩
   conv=>whnf
   refine ⟨trivial,?_⟩
  all_goals
   conv=>whnf
   cases h;exact hK
theorem w11:Sq 144 c11:=by
 have hn:∀ n,Sq 144 (JU (Y1 n)):=by
  intro n;induction n with
  | zero =>
  refine Zf Zn Zi mixed {draws:=[(5,[],.o [0,1,3,4,5] (.alt 2 (.a [6,7,8] (.o [9,10] .done)) (.alt 6 (.alt 2 (.a [7,8] (.o [9,10] .done)) (.alt 7 (.alt 2 (.alt 8 (.o [9,10] .done) .done) (.a [8,2] (.o [9,10] .done))) .done)) .done)))]} (fn:=Tryz.f144) Tryz.func144 (by kernel_rfl) (by kernel_rfl) ?_;rintro ⟨n0,⟨⟩⟩ K ⟨r,h,hK⟩;cases h
  | succ n ih=>exact Zj4 _ ih
 refine ⟨(hn 0).1,?_⟩;rintro w S vs ⟨n0,⟨⟩⟩ fp K h1 h0 h2 h3 h4 ⟨r,h,hK⟩;obtain ⟨n,hr⟩:=ZlX h;exact (hn n).2 w S vs _ fp K h1 h0 h2 h3 h4 ⟨r,hr,hK⟩
end Go.Proofs.YtepbknolmhmipaaGreatDoor
