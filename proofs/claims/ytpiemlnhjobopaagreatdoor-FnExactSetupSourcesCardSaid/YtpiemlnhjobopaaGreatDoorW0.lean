/-
  The functions keep their contracts, if what they call does. Printed by program.
-/
import Derived.Test.YtpiemlnhjobopaaGreatDoorM
import Derived.KernelRfl
namespace Go.Proofs.YtpiemlnhjobopaaGreatDoor
open Go Go.Sx
set_option maxRecDepth 100000
set_option maxHeartbeats 3200000
set_option linter.unusedVariables false
set_option linter.unusedSimpArgs false
structure Ws0:Prop where
 w148:Sq 262 c145→Sq 193 c139→Sq 263 c146→Sq 264 Zxi→Sq 197 c148
 w119:Sq 358 ZwZ→Sq 359 Zw0→Sq 341 c119
 w116:Sq 360 c116
 w112:Sq 384 ZwW→Sq 372 ZwX
 w130:Sq 310 Zw8→Sq 242 c89→Sq 257 c130
 w126:Sq 307 Zw5→Sq 267 c94→Sq 254 Zw6
 w177:Sq 118 Zxg→Sq 119 Zxl→Sq 120 Zxv→Sq 52 Zxw
 w163:Sq 245 c162→Sq 177 Zwv
 w106:Sq 382 ZwS→Sq 383 c105→Sq 381 ZwT
 w155:Sq 242 c89→Sq 312 Zxm→Sq 124 c154→Sq 266 Zxn
 w152:Sq 199 c152
 w181:Sq 209 Zxz→Sq 122 ZxA
 w179:Sq 210 Zxy
 w168:Sq 161 c157→Sq 170 Zt7→Sq 270 c167→Sq 171 Zwt→Sq 207 c168
 w176:Sq 199 c152→Sq 200 c156→Sq 201 Zxo→Sq 204 Zxq→Sq 205 c171→Sq 208 c175→Sq 120 Zxv
 w159:Sq 203 Zwu→Sq 202 c159
 w195:Sq 214 c194→Sq 129 ZxI
 w212:Sq 137 c212
 w208:Sq 128 Zww→Sq 135 c208
 w186:Sq 54 ZxB→Sq 12 ZxC
 w190:Sq 28 Zt8→Sq 363 ZxF
 w219:Sq 284 c218→Sq 218 ZxU
 w225:Sq 139 c222→Sq 140 ZxX→Sq 141 ZxY→Sq 63 ZxZ
 w233:Sq 17 c233
 w226:Sq 30 Zt9→Sq 64 c226
 w20:Sq 100 c19→Sq 39 c20
 w22:Sq 181 c2→Sq 101 c22
 w23:Sq 101 c22→Sq 41 c23
 w21:Sq 40 c21
 w0:Sq 302 c0
 w1:Sq 302 c0→Sq 246 c1
 w33:Sq 306 c32→Sq 253 c33
 w53:Sq 23 c53
 w37:Sq 24 c29→Sq 190 c37
 w38:Sq 190 c37→Sq 111 c38
 w28:Sq 305 c27→Sq 252 c28
 w145:Sq 262 c145
 w117:Sq 360 c116→Sq 374 c117
 w99:Sq 241 c98→Sq 244 c99
 w73:Sq 182 c69→Sq 149 c71→Sq 183 c72→Sq 102 c73
 w65:Sq 336 c58→Sq 219 c56→Sq 186 c57→Sq 337 c63→Sq 338 c64→Sq 304 c65
 w78:Sq 186 c57→Sq 219 c56→Sq 143 c78
 w85:Sq 102 c73→Sq 103 c77→Sq 104 c79→Sq 105 c70→Sq 106 c82→Sq 107 c84→Sq 43 c85
 w88:Sq 43 c85→Sq 44 c87→Sq 8 c88
 w58:Sq 219 c56→Sq 186 c57→Sq 336 c58
 w75:Sq 186 c57→Sq 185 c75
 w87:Sq 108 c76→Sq 109 c86→Sq 44 c87
set_option maxHeartbeats 100000000 in
theorem ws0:Ws0:=by
 refine ⟨(fun q0 q1 q2 q3=>Ze Zp (Zc q0 (Zc q1 (Zc q2 (Zc q3 Zg)))) mixed {loops:=[(0,[.reg 27 (.dat Iq),.ent 2 (nat_lit 2) (.flat (Ty.int IntKind.i64))]),(2,[.reg 10 (.dat Iq),.ent 2 (nat_lit 2) (.flat (Ty.int IntKind.i64))])],draws:=[(7,[0,0,2,0,14,30,63,127,0,256,0,1024,0,0,12288,28672,65280,131071,262143,524287],.op 0 (.op 1 (.op 2 (.op 3 (.op 4 (.op 5 (.op 6 (.op 7 (.op 8 (.op 9 (.op 10 (.op 11 (.op 12 (.op 13 (.op 14 (.op 15 (.alt 16 (.op 17 (.op 18 (.alt 19 (.done) (.done)))) (.done)))))))))))))))))),(12,[0,0,2,0,14,30,63,127,0,0,768,1792,4095,8191,16383],.op 0 (.op 1 (.op 2 (.op 3 (.op 4 (.op 5 (.op 6 (.op 7 (.op 8 (.op 9 (.op 10 (.op 11 (.op 12 (.op 13 (.alt 14 (.done) (.done))))))))))))))))]} Tryz.func197 (hvc:=?_)),
 (fun q1 q0=>Ze Zp (Zc q1 (Zc q0 Zg)) mixed {loops:=[(0,[.reg 8 (.dat Iq)])]} Tryz.func341 (hvc:=?_)),
 (Ze Zp Zg mixed {} Tryz.func360 (hvc:=?_)),
 (fun q0=>Ze Zp (Zc q0 Zg) mixed {} Tryz.func372 (hvc:=?_)),
 (fun q0 q1=>Ze Zp (Zc q0 (Zc q1 Zg)) mixed {} Tryz.func257 (hvc:=?_)),
 (fun q1 q0=>Ze Zp (Zc q1 (Zc q0 Zg)) mixed {loops:=[(0,[.reg 3 (.own (.ol 9 (.flat (.str)))),.reg 9 (.dat Iq)])]} Tryz.func254 (hvc:=?_)),
 (fun q1 q2 q0=>Ze Zp (Zc q1 (Zc q2 (Zc q0 Zg))) mixed {draws:=[(1,[0,1,3,7,15,7,63,127,255],.op 0 (.alt 1 (.op 2 (.op 3 (.op 5 (.alt 4 (.alt 6 (.op 7 (.op 8 (.done))) (.done)) (.done))))) (.done)))]} Tryz.func52 (hvc:=?_)),
 (fun q0=>Ze Zp (Zc q0 Zg) mixed {} Tryz.func177 (hvc:=?_)),
 (fun q1 q0=>Ze Zp (Zc q1 (Zc q0 Zg)) mixed {} Tryz.func381 (hvc:=?_)),
 (fun q1 q0 q2=>Ze Zp (Zc q1 (Zc q0 (Zc q2 Zg))) mixed {} Tryz.func266 (hvc:=?_)),
 (Ze Zp Zg mixed {} Tryz.func199 (hvc:=?_)),
 (fun q0=>Ze Zp (Zc q0 Zg) mixed {} Tryz.func122 (hvc:=?_)),
 (Ze Zp Zg mixed {} Tryz.func210 (hvc:=?_)),
 (fun q0 q2 q3 q1=>Ze Zp (Zc q0 (Zc q2 (Zc q3 (Zc q1 Zg)))) mixed {loops:=[(0,[.reg 15 (.dat Iq)])]} Tryz.func207 (hvc:=?_)),
 (fun q2 q5 q1 q3 q0 q4=>Ze Zp (Zc q2 (Zc q5 (Zc q1 (Zc q3 (Zc q0 (Zc q4 Zg)))))) mixed {} Tryz.func120 (hvc:=?_)),
 (fun q0=>Ze Zp (Zc q0 Zg) mixed {} Tryz.func202 (hvc:=?_)),
 (fun q0=>Ze Zp (Zc q0 Zg) mixed {loops:=[(0,[.reg 5 (.dat Iq)])],draws:=[(6,[0,0,3,7,0,0,48,112,255,511],.op 0 (.op 1 (.op 2 (.op 3 (.op 4 (.op 5 (.op 6 (.op 7 (.alt 8 (.op 9 (.done)) (.done))))))))))]} Tryz.func129 (hvc:=?_)),
 (Ze Zp Zg mixed {} Tryz.func137 (hvc:=?_)),
 (fun q0=>Ze Zp (Zc q0 Zg) mixed {} Tryz.func135 (hvc:=?_)),
 (fun q0=>Ze Zp (Zc q0 Zg) mixed {loops:=[(0,[.reg 5 (.dat Iq)])],draws:=[(6,[0,0,3,7,0,0,48,112,255,511],.op 0 (.op 1 (.op 2 (.op 3 (.op 4 (.op 5 (.op 6 (.op 7 (.alt 8 (.op 9 (.done)) (.done))))))))))]} Tryz.func12 (hvc:=?_)),
 (fun q0=>Ze Zp (Zc q0 Zg) mixed {} Tryz.func363 (hvc:=?_)),
 (fun q0=>Ze Xj (Zc q0 Zg) mixed {loops:=[(0,[.reg 1 (.dat Iq),.reg 5 (.dat Iq),.ent 0 (nat_lit 246) (Dp.pair (Dp.flat (Ty.int IntKind.i64)) (Dp.pair (Dp.flat (Ty.int IntKind.i64)) (Dp.pair (Dp.flat (Ty.int IntKind.i64)) (Dp.pair (Dp.flat (Ty.int IntKind.i64)) (Dp.pair (Dp.ol (379:Go.TypeId) ZgE) (Dp.pair (Dp.ol (379:Go.TypeId) ZgE) (Dp.flat Ty.unit)))))))])]} Tryz.func218 (hvc:=?_)),
 (fun q0 q1 q2=>Ze Xj (Zc q0 (Zc q1 (Zc q2 Zg))) mixed {} Tryz.func63 (hvc:=?_)),
 (Ze Xj Zg mixed {loops:=[(0,[.reg 1 (.dat Iq),.reg 5 (.dat Iq),.ent 0 (nat_lit 118) (.flat Y5)])]} Tryz.func17 (hvc:=?_)),
 (fun q0=>Ze Xj (Zc q0 Zg) mixed {loops:=[(0,[.reg 1 (.dat Iq),.reg 5 (.dat Iq),.ent 0 (nat_lit 201) (Dp.pair (Dp.ol (2:Go.TypeId) (Dp.flat (Ty.int IntKind.i64))) (Dp.pair (Dp.ol (2:Go.TypeId) (Dp.flat (Ty.int IntKind.i64))) (Dp.pair (Dp.ol (2:Go.TypeId) (Dp.flat (Ty.int IntKind.i64))) (Dp.pair (Dp.ol (2:Go.TypeId) (Dp.flat (Ty.int IntKind.i64))) (Dp.flat Ty.unit)))))])]} Tryz.func64 (hvc:=?_)),
 (fun q0=>Ze Zp (Zc q0 Zg) mixed {loops:=[(0,[.reg 1 (.dat Iq),.reg 5 (.dat Iq)])]} Tryz.func39 (hvc:=?_)),
 (fun q0=>Ze Zp (Zc q0 Zg) mixed {} Tryz.func101 (hvc:=?_)),
 (fun q0=>Ze Zp (Zc q0 Zg) mixed {loops:=[(0,[.reg 1 (.dat Iq),.reg 5 (.dat Iq)])]} Tryz.func41 (hvc:=?_)),
 (Ze Zp Zg mixed {} Tryz.func40 (hvc:=?_)),
 (Ze Zp Zg mixed {} Tryz.func302 (hvc:=?_)),
 (fun q0=>Ze Zp (Zc q0 Zg) mixed {loops:=[(0,[.reg 1 (.dat Iq),.reg 5 (.dat Iq)])]} Tryz.func246 (hvc:=?_)),
 (fun q0=>Ze Xj (Zc q0 Zg) mixed {loops:=[(0,[.reg 4 (.dat Iq),.ent 0 (nat_lit 246) ZsZ])]} Tryz.func253 (hvc:=?_)),
 (Ze Zp Zg mixed {} Tryz.func23 (hvc:=?_)),
 (fun q0=>Ze Zp (Zc q0 Zg) mixed {} Tryz.func190 (hvc:=?_)),
 (fun q0=>Ze Xj (Zc q0 Zg) mixed {loops:=[(0,[.reg 4 (.dat Iq),.ent 0 (nat_lit 243) ZbO])]} Tryz.func111 (hvc:=?_)),
 (fun q0=>Ze Zp (Zc q0 Zg) mixed {loops:=[(0,[.reg 4 (.dat Iq),.ent 0 (nat_lit 373) (.flat ZtJ.ety)])]} Tryz.func252 (hvc:=?_)),
 (Ze Zp Zg mixed {} Tryz.func262 (hvc:=?_)),
 (fun q0=>Ze Zp (Zc q0 Zg) mixed {loops:=[(0,[.reg 8 (.dat Iq)])]} Tryz.func374 (hvc:=?_)),
 (fun q0=>Ze Zp (Zc q0 Zg) mixed {loops:=[(0,[.reg 8 (.dat Iq)])]} Tryz.func244 (hvc:=?_)),
 (fun q0 q1 q2=>Ze Zp (Zc q0 (Zc q1 (Zc q2 Zg))) mixed {loops:=[(0,[.reg 3 (.dat Iq)])],draws:=[(6,[0,1,0,7,15,0,32,0,224,480,1023,2047],.op 0 (.op 1 (.op 2 (.op 3 (.op 4 (.op 5 (.op 6 (.op 7 (.alt 8 (.op 9 (.alt 10 (.op 11 (.done)) (.done))) (.done))))))))))]} Tryz.func102 (hvc:=?_)),
 (fun q1 q2 q4 q3 q0=>Ze Zp (Zc q1 (Zc q2 (Zc q4 (Zc q3 (Zc q0 Zg))))) mixed {loops:=[(0,[.reg 5 (.dat Iq)]),(2,[.reg 7 (.dat Iq)]),(5,[.reg 9 (.dat Iq)])],draws:=[(13,[0,1,0,7,15,31,0,64,255,511,1023,2047,1023,8191,16383,32767,1023,66559,262143,524287,1048575,2097151,4194303,2097151,16777215,33554431,67108863,2097151,136314879,536870911,1073741823],.op 0 (.op 1 (.op 2 (.op 3 (.op 4 (.op 5 (.op 6 (.op 7 (.op 8 (.op 9 (.op 10 (.op 11 (.op 12 (.op 13 (.op 14 (.op 15 (.op 16 (.op 17 (.op 18 (.op 19 (.op 20 (.op 21 (.op 22 (.op 23 (.op 24 (.op 25 (.op 26 (.op 27 (.op 28 (.op 29 (.op 30 (.done)))))))))))))))))))))))))))))))),(25,[0,1,3,7,15,31,63,127,255,511,1023,2047,4095,511,8703,25087,57855,131071,262143,524287,1048575,2097151,4194303,8388607,16777215,33554431],.op 0 (.op 1 (.op 2 (.op 3 (.op 4 (.op 5 (.op 6 (.op 7 (.op 8 (.op 9 (.op 10 (.op 11 (.op 12 (.op 13 (.op 14 (.op 15 (.op 16 (.op 17 (.op 18 (.op 19 (.op 20 (.op 21 (.op 22 (.op 23 (.op 24 (.op 25 (.done)))))))))))))))))))))))))))]} Tryz.func304 (hvc:=?_)),
 (fun q1 q0=>Ze Zp (Zc q1 (Zc q0 Zg)) mixed {loops:=[(0,[.reg 4 (.dat Iq)])]} Tryz.func143 (hvc:=?_)),
 (fun q5 q4 q2 q3 q1 q0=>Ze Zp (Zc q5 (Zc q4 (Zc q2 (Zc q3 (Zc q1 (Zc q0 Zg)))))) mixed {loops:=[(0,[.reg 5 (.dat Iq)]),(2,[.reg 6 (.dat Iq)])],draws:=[(6,[0,1,0,7,15,31,0,64,192,448,1023],.op 0 (.op 1 (.op 2 (.op 3 (.op 4 (.op 5 (.op 6 (.op 7 (.alt 8 (.op 9 (.op 10 (.done))) (.done)))))))))),(11,[0,0,2,0,14,30,63,127],.op 0 (.op 1 (.op 2 (.op 3 (.op 4 (.op 5 (.alt 6 (.op 7 (.done)) (.done))))))))]} Tryz.func43 (hvc:=?_)),
 (fun q1 q0=>Ze Zp (Zc q1 (Zc q0 Zg)) mixed {} Tryz.func8 (hvc:=?_)),
 (fun q0 q1=>Ze Zp (Zc q0 (Zc q1 Zg)) mixed {loops:=[(0,[.reg 5 (.dat Iq),.reg 6 (.dat Iq)]),(2,[.reg 8 (.dat Iq)])],draws:=[(12,[0,1,0,7,15,31,0,64,255],.op 0 (.op 1 (.op 2 (.op 3 (.op 4 (.op 5 (.op 6 (.op 7 (.op 8 (.done))))))))))]} Tryz.func336 (hvc:=?_)),
 (fun q0=>Ze Zp (Zc q0 Zg) mixed {} Tryz.func185 (hvc:=?_)),
 (fun q1 q0=>Ze Zp (Zc q1 (Zc q0 Zg)) mixed {loops:=[(0,[.reg 3 (.dat (.sl (Y5))),.reg 4 (.dat Iq)]),(2,[.reg 3 (.dat (.sl (Y5))),.reg 9 (.dat Iq)])]} Tryz.func44 (hvc:=?_))⟩
 all_goals
  intro a
  repeat rcases a with ⟨_,a⟩
  rintro K ⟨r,h,hK⟩
  repeat'
    conv=>whnf
    first
    | with_reducible refine ZrU ?_
    | with_reducible refine Ze8 (by assumption) (by assumption) (by assumption) ?_
    | with_reducible refine Zhy (by assumption) ?_
    | with_reducible refine Zfa (by assumption) ?_
    | (with_reducible refine shD ?_);first | refine Zn5 h (fun h=>?_) (fun h=>?_) | refine Zrm h (fun h=>?_) (fun h=>?_)
    | (with_reducible refine ZsE ?_);first | refine Zs1 ?_ | refine ZlG ?_
    | (with_reducible refine ZvZ ?_);first | refine ZpC h (fun h=>?_) (fun h=>?_) | refine ZsR h (fun h=>?_) (fun h=>?_)
    | (with_reducible refine ZsD ?_);(refine ⟨fun hd=>?_,?_⟩)<;>try subst hd
    | (with_reducible refine Zv1 ?_);first | with_reducible refine Zdx h (fun x hb h=>?_) | refine Zfa (by assumption) ?_ | with_reducible refine pG h (fun hp h=>?_) | with_reducible refine pA h (fun x ha hb hx h=>?_) | with_reducible refine pB h (fun x hb h=>?_) | refine Zdx h (fun x hb h=>?_)
    | (with_reducible refine ZvY ?_);first | with_reducible refine vAt h (fun x ha hb hx h=>?_) | refine Ze8 (by assumption) (by assumption) (by assumption) ?_ | with_reducible refine pG h (fun hp h=>?_) | with_reducible refine pA h (fun x ha hb hx h=>?_) | with_reducible refine pB h (fun x hb h=>?_) | refine vAt h (fun x ha hb hx h=>?_)
    | (with_reducible refine ZsC ?_);first | with_reducible refine ZnG h (fun x hb h=>?_) | refine Zhy (by assumption) ?_ | with_reducible refine pG h (fun hp h=>?_) | with_reducible refine pA h (fun x ha hb hx h=>?_) | with_reducible refine pB h (fun x hb h=>?_) | refine ZnG h (fun x hb h=>?_)
    | with_reducible refine Zv0 ?_
    | (with_reducible refine Zpm ?_);refine ZpA h hK ?_;clear h hK;intro I μ v r h hK;(repeat rcases v with ⟨_,v⟩);(try dsimp only at h)
    | with_reducible refine ⟨by assumption,?_⟩
    | with_reducible refine orL ?_
    | with_reducible refine .inr ?_
    | (with_reducible refine ZsF ?_);first | refine ⟨?_,True.intro⟩ | refine ⟨?_,?_⟩
    | refine ⟨by kernel_rfl,?_⟩
    | refine ⟨by decide,?_⟩
    | with_reducible refine Zs2 h (fun hp h=>?_)
    | intro fp
    | exact trivial
    | with_reducible exact ZrP h
    | (refine pS h (fun e=>?_));subst e;(repeat (first | exact hK | exact ⟨⟨rfl,rfl⟩,hK.1 _ rfl⟩ | (refine pR hK (fun e hK=>?_));subst e));done
    | refine Zs2 h (fun hp h=>?_)
    | refine ⟨by assumption,?_⟩
    | with_reducible refine pG h (fun hp h=>?_) | with_reducible refine pA h (fun x ha hb hx h=>?_) | with_reducible refine pB h (fun x hb h=>?_)
    | refine pG h (fun hp h=>?_)
    | fail
end Go.Proofs.YtpiemlnhjobopaaGreatDoor
