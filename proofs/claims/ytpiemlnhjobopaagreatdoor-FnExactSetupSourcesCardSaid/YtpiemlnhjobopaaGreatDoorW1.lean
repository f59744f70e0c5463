/-
  The functions keep their contracts, if what they call does. Printed by program.
-/
import Derived.Test.YtpiemlnhjobopaaGreatDoorM
import Derived.KernelRfl
namespace Go.Proofs.YtpiemlnhjobopaaGreatDoor
open Go Go.Sx
set_option maxRecDepth 100000
set_option maxHeartbeats 3200000
set_option linter.unusedVariables false
set_option linter.unusedSimpArgs false
structure Ws1:Prop where
 w144:Sq 261 c143→Sq 195 Zxh
 w110:Sq 385 ZwV
 w123:Sq 359 Zw3→Sq 362 Zw4
 w115:Sq 370 c96→Sq 371 c109→Sq 372 ZwX→Sq 373 ZwY→Sq 361 ZvB→Sq 242 c89→Sq 358 ZwZ
 w153:Sq 242 c89→Sq 312 Zxm
 w147:Sq 264 Zxi
 w127:Sq 267 c94→Sq 255 c127
 w173:Sq 224 c90→Sq 225 Zxt→Sq 155 c173
 w138:Sq 254 Zw6→Sq 255 c127→Sq 256 Zxb→Sq 257 c130→Sq 258 Zxe→Sq 192 c138
 w183:Sq 52 Zxw→Sq 53 c182→Sq 11 c183
 w140:Sq 242 c89→Sq 260 Zxf
 w172:Sq 225 Zxt
 w94:Sq 224 c90→Sq 313 c93→Sq 267 c94
 w95:Sq 242 c89→Sq 357 c91→Sq 267 c94→Sq 340 c95
 w96:Sq 370 c96
 w90:Sq 242 c89→Sq 292 Zh8→Sq 293 Zd7→Sq 224 c90
 w157:Sq 161 c157
 w89:Sq 242 c89
 w193:Sq 320 ZxH→Sq 283 c193
 w205:Sq 55 c196→Sq 56 ZxM→Sq 57 ZxN→Sq 13 ZxO
 w210:Sq 28 Zt8→Sq 136 c210
 w187:Sq 319 ZxD
 w200:Sq 216 ZxL
 w201:Sq 216 ZxL→Sq 132 c201
 w214:Sq 58 ZxP→Sq 59 ZxQ→Sq 60 ZxR→Sq 61 c213→Sq 14 ZxS
 w203:Sq 28 Zt8→Sq 133 c203
 w228:Sq 142 Zs6→Sq 65 c228
 w230:Sq 30 Zt9→Sq 67 Zx0
 w222:Sq 142 Zs6→Sq 30 Zt9→Sq 139 c222
 w224:Sq 142 Zs6→Sq 141 ZxY
 w18:Sq 36 c9→Sq 37 c15→Sq 38 c17→Sq 6 c18
 w9:Sq 95 c8→Sq 36 c9
 w3:Sq 181 c2→Sq 354 c3
 w17:Sq 99 c16→Sq 38 c17
 w46:Sq 115 c46
 w49:Sq 154 c48→Sq 116 c49
 w39:Sq 112 c39
 w31:Sq 356 c30→Sq 339 c31
 w43:Sq 24 c29→Sq 114 c43
 w133:Sq 244 Zw9→Sq 175 Zxa
 w121:Sq 375 Zw1→Sq 374 Zw2
 w160:Sq 202 c159→Sq 268 c160
 w180:Sq 210 Zxy→Sq 209 Zxz
 w61:Sq 379 c60→Sq 369 c61
 w63:Sq 186 c57→Sq 355 c62→Sq 337 c63
 w80:Sq 105 c70→Sq 251 c80
 w79:Sq 143 c78→Sq 104 c79
set_option maxHeartbeats 100000000 in
theorem ws1:Ws1:=by
 refine ⟨(fun q0=>Ze Zp (Zc q0 Zg) mixed {loops:=[(0,[.reg 7 (.own (.ol 254 (.flat (Zm5)))),.reg 21 (.dat Iq)]),(2,[.reg 7 (.own (.ol 254 (.flat (Zm5)))),.reg 29 (.dat Iq)])]} Tryz.func195 (hvc:=?_)),
 (Ze Zp Zg mixed {} Tryz.func385 (hvc:=?_)),
 (fun q0=>Ze Zp (Zc q0 Zg) mixed {} Tryz.func362 (hvc:=?_)),
 (fun q4 q3 q2 q0 q1 q5=>Ze Zp (Zc q4 (Zc q3 (Zc q2 (Zc q0 (Zc q1 (Zc q5 Zg)))))) mixed {draws:=[(2,[0,1,3,7,15,31,63,127,255,511,1023,2047,4095,8191,16383,32767,65535,32767,163839,524287,1048575,2097151,4194303,8388607,16777215,33554431,67108863,134217727,134217727,402653183,1073741823,2147483647,4294967295,8589934591,17179869183,8589934591,42949672959,137438953471,274877906943,549755813887],.op 0 (.op 1 (.op 2 (.op 3 (.op 4 (.op 5 (.op 6 (.op 7 (.op 8 (.op 9 (.op 10 (.op 11 (.alt 12 (.op 13 (.op 14 (.op 15 (.op 16 (.op 17 (.alt 18 (.op 19 (.op 20 (.op 21 (.op 22 (.op 23 (.op 24 (.op 25 (.op 26 (.op 27 (.op 28 (.op 29 (.alt 30 (.op 31 (.op 32 (.op 33 (.op 34 (.op 35 (.op 36 (.op 37 (.op 38 (.op 39 (.done)))))))))) (.done))))))))))))) (.done))))))) (.done)))))))))))))),(3,[0,1,3,7,15,31,63,127,255,511,1023,2047,4095,2047,10239,32767,65535,131071,262143,262143,786431,2097151,4194303,8388607],.op 0 (.op 1 (.alt 2 (.op 3 (.op 4 (.op 5 (.op 6 (.alt 7 (.op 8 (.op 9 (.op 10 (.op 11 (.op 12 (.op 13 (.alt 14 (.op 15 (.op 16 (.op 17 (.op 18 (.op 19 (.op 20 (.alt 21 (.op 22 (.op 23 (.done))) (.done)))))))) (.done)))))))) (.done)))))) (.done))))]} Tryz.func358 (hvc:=?_)),
 (fun q0=>Ze Zp (Zc q0 Zg) mixed {} Tryz.func312 (hvc:=?_)),
 (Ze Zp Zg mixed {draws:=[(3,[0,1,0,4,0,16,60,124,252,511,1023,2047,0,4096,16383,32767,65535,131071],.op 0 (.op 1 (.op 2 (.op 3 (.op 4 (.op 5 (.op 6 (.op 7 (.op 8 (.op 9 (.op 10 (.op 11 (.op 12 (.op 13 (.op 14 (.op 15 (.op 16 (.op 17 (.done)))))))))))))))))))]} Tryz.func264 (hvc:=?_)),
 (fun q0=>Ze Zp (Zc q0 Zg) mixed {loops:=[(0,[.reg 3 (.own (.ol 9 (.flat (.str)))),.reg 12 (.dat Iq)]),(2,[.reg 4 (.own (.ol 9 (.flat (.str)))),.reg 25 (.dat Iq)])]} Tryz.func255 (hvc:=?_)),
 (fun q1 q0=>Ze Zp (Zc q1 (Zc q0 Zg)) mixed {} Tryz.func155 (hvc:=?_)),
 (fun q4 q2 q1 q3 q0=>Ze Zp (Zc q4 (Zc q2 (Zc q1 (Zc q3 (Zc q0 Zg))))) mixed {loops:=[(0,[.reg 25 (.dat Iq),.ent 2 (nat_lit 3) (.flat ZsN.ety)]),(2,[.reg 51 (.dat Iq),.ent 2 (nat_lit 3) (.flat ZsN.ety)])]} Tryz.func192 (hvc:=?_)),
 (fun q1 q0=>Ze Zp (Zc q1 (Zc q0 Zg)) mixed {} Tryz.func11 (hvc:=?_)),
 (fun q0=>Ze Zp (Zc q0 Zg) mixed {loops:=[(0,[.reg 8 (.dat Iq)])]} Tryz.func260 (hvc:=?_)),
 (Ze Zp Zg mixed {} Tryz.func225 (hvc:=?_)),
 (fun q1 q0=>Ze Zp (Zc q1 (Zc q0 Zg)) mixed {loops:=[(0,[.reg 7 (.dat Iq)])]} Tryz.func267 (hvc:=?_)),
 (fun q2 q0 q1=>Ze Zp (Zc q2 (Zc q0 (Zc q1 Zg))) mixed {loops:=[(0,[.reg 3 (.own (.ol 9 (.flat (.str)))),.reg 8 (.dat Iq)])]} Tryz.func340 (hvc:=?_)),
 (Ze Zp Zg mixed {} Tryz.func370 (hvc:=?_)),
 (fun q2 q1 q0=>Ze Zp (Zc q2 (Zc q1 (Zc q0 Zg))) mixed {} Tryz.func224 (hvc:=?_)),
 (Ze Zp Zg mixed {} Tryz.func161 (hvc:=?_)),
 (Ze Zp Zg mixed {} Tryz.func242 (hvc:=?_)),
 (fun q0=>Ze Zp (Zc q0 Zg) mixed {loops:=[(0,[.reg 5 (.dat Iq)])],draws:=[(6,[0,0,3,7,0,0,48,112,255,511],.op 0 (.op 1 (.op 2 (.op 3 (.op 4 (.op 5 (.op 6 (.op 7 (.alt 8 (.op 9 (.done)) (.done))))))))))]} Tryz.func283 (hvc:=?_)),
 (fun q0 q1 q2=>Ze Zp (Zc q0 (Zc q1 (Zc q2 Zg))) mixed {} Tryz.func13 (hvc:=?_)),
 (fun q0=>Ze Zp (Zc q0 Zg) mixed {} Tryz.func136 (hvc:=?_)),
 (Ze Zp Zg mixed {} Tryz.func319 (hvc:=?_)),
 (Ze Zp Zg mixed {} Tryz.func216 (hvc:=?_)),
 (fun q0=>Ze Zp (Zc q0 Zg) mixed {loops:=[(0,[.reg 5 (.dat Iq)])],draws:=[(6,[0,0,3,7,0,0,48,112,255,511],.op 0 (.op 1 (.op 2 (.op 3 (.op 4 (.op 5 (.op 6 (.op 7 (.alt 8 (.op 9 (.done)) (.done))))))))))]} Tryz.func132 (hvc:=?_)),
 (fun q3 q1 q0 q2=>Ze Zp (Zc q3 (Zc q1 (Zc q0 (Zc q2 Zg)))) mixed {} Tryz.func14 (hvc:=?_)),
 (fun q0=>Ze Zp (Zc q0 Zg) mixed {} Tryz.func133 (hvc:=?_)),
 (fun q0=>Ze Xj (Zc q0 Zg) mixed {loops:=[(0,[.reg 1 (.dat Iq),.reg 5 (.dat Iq),.ent 0 (nat_lit 185) (.flat YA)])]} Tryz.func65 (hvc:=?_)),
 (fun q0=>Ze Xj (Zc q0 Zg) mixed {loops:=[(0,[.reg 1 (.dat Iq),.reg 5 (.dat Iq),.ent 0 (nat_lit 189) (Dp.pair (Dp.flat (Ty.int IntKind.i64)) (Dp.pair (Dp.flat (Ty.int IntKind.i64)) (Dp.pair (Dp.ol (2:Go.TypeId) (Dp.flat (Ty.int IntKind.i64))) (Dp.pair (Dp.ol (2:Go.TypeId) (Dp.flat (Ty.int IntKind.i64))) (Dp.pair (Dp.ol (2:Go.TypeId) (Dp.flat (Ty.int IntKind.i64))) (Dp.flat Ty.unit))))))])]} Tryz.func67 (hvc:=?_)),
 (fun q1 q0=>Ze Xj (Zc q1 (Zc q0 Zg)) mixed {loops:=[(0,[.reg 1 (.dat Iq),.reg 5 (.dat Iq),.ent 0 (nat_lit 243) (Dp.pair (Dp.flat Ty.str) (Dp.pair (Dp.flat (Ty.int IntKind.i64)) (Dp.pair (Dp.ol (2:Go.TypeId) (Dp.flat (Ty.int IntKind.i64))) (Dp.flat Ty.unit))))])]} Tryz.func139 (hvc:=?_)),
 (fun q0=>Ze Xj (Zc q0 Zg) mixed {loops:=[(0,[.reg 1 (.dat Iq),.reg 5 (.dat Iq),.ent 0 (nat_lit 297) (.flat VH)])]} Tryz.func141 (hvc:=?_)),
 (fun q0 q1 q2=>Ze Zp (Zc q0 (Zc q1 (Zc q2 Zg))) mixed {} Tryz.func6 (hvc:=?_)),
 (fun q0=>Ze Zp (Zc q0 Zg) mixed {} Tryz.func36 (hvc:=?_)),
 (fun q0=>Ze Zp (Zc q0 Zg) mixed {} Tryz.func354 (hvc:=?_)),
 (fun q0=>Ze Zp (Zc q0 Zg) mixed {loops:=[(0,[.reg 1 (.dat Iq),.reg 5 (.dat Iq)])]} Tryz.func38 (hvc:=?_)),
 (Ze Zp Zg mixed {} Tryz.func115 (hvc:=?_)),
 (fun q0=>Ze Zp (Zc q0 Zg) mixed {} Tryz.func116 (hvc:=?_)),
 (Ze Zp Zg mixed {loops:=[(0,[.reg 4 (.dat Iq),.ent 0 (nat_lit 9) (.flat ZwG.ety)])]} Tryz.func112 (hvc:=?_)),
 (fun q0=>Ze Xj (Zc q0 Zg) mixed {loops:=[(0,[.reg 4 (.dat Iq),.ent 0 (nat_lit 379) ZgE])]} Tryz.func339 (hvc:=?_)),
 (fun q0=>Ze Zp (Zc q0 Zg) mixed {} Tryz.func114 (hvc:=?_)),
 (fun q0=>Ze Zp (Zc q0 Zg) mixed {} Tryz.func175 (hvc:=?_)),
 (fun q0=>Ze Zp (Zc q0 Zg) mixed {loops:=[(0,[.reg 8 (.dat Iq)])]} Tryz.func374 (hvc:=?_)),
 (fun q0=>Ze Zp (Zc q0 Zg) mixed {loops:=[(0,[.reg 8 (.dat Iq)])]} Tryz.func268 (hvc:=?_)),
 (fun q0=>Ze Zp (Zc q0 Zg) mixed {loops:=[(0,[.reg 8 (.dat Iq)])]} Tryz.func209 (hvc:=?_)),
 (fun q0=>Ze Zp (Zc q0 Zg) mixed {loops:=[(0,[.reg 5 (.dat Iq),.cell 1004 0 Iq,.cell 1004 1 Iq])],draws:=[(3,[0,1,3,7,0,16,48,112,255,0,1023],.op 0 (.op 1 (.op 2 (.op 3 (.op 4 (.op 5 (.op 6 (.op 7 (.op 8 (.alt 9 (.alt 10 (.done) (.done)) (.done))))))))))),(7,[0,1,0,4,0,28,60,127,255,511],.op 0 (.op 1 (.op 2 (.op 3 (.op 4 (.op 5 (.op 6 (.op 7 (.op 8 (.alt 9 (.done) (.done))))))))))),(8,[0,1,0,4,0,28,60,127,255,511],.op 0 (.op 1 (.op 2 (.op 3 (.op 4 (.op 5 (.op 6 (.op 7 (.op 8 (.alt 9 (.done) (.done)))))))))))]} Tryz.func369 (hvc:=?_)),
 (fun q1 q0=>Ze Zp (Zc q1 (Zc q0 Zg)) mixed {} Tryz.func337 (hvc:=?_)),
 (fun q0=>Ze Zp (Zc q0 Zg) mixed {} Tryz.func251 (hvc:=?_)),
 (fun q0=>Ze Zp (Zc q0 Zg) mixed {loops:=[(0,[.reg 3 (.dat Iq)]),(2,[.reg 4 (.dat Iq)])],draws:=[(9,[0,0,3,7,15,0,0,96,224,480,1023],.op 0 (.op 1 (.op 2 (.op 3 (.op 4 (.op 5 (.op 6 (.op 7 (.op 8 (.op 9 (.op 10 (.done))))))))))))]} Tryz.func104 (hvc:=?_))⟩
 all_goals
  intro a
  repeat rcases a with ⟨_,a⟩
  rintro K ⟨r,h,hK⟩
  repeat'
    conv=>whnf
    first
    | with_reducible refine ZrU ?_
    | with_reducible refine Ze8 (by assumption) (by assumption) (by assumption) ?_
    | with_reducible refine Zhy (by assumption) ?_
    | with_reducible refine Zfa (by assumption) ?_
    | (with_reducible refine shD ?_);first | refine Zn5 h (fun h=>?_) (fun h=>?_) | refine Zrm h (fun h=>?_) (fun h=>?_)
    | (with_reducible refine ZsE ?_);first | refine Zs1 ?_ | refine ZlG ?_
    | (with_reducible refine ZvZ ?_);first | refine ZpC h (fun h=>?_) (fun h=>?_) | refine ZsR h (fun h=>?_) (fun h=>?_)
    | (with_reducible refine ZsD ?_);(refine ⟨fun hd=>?_,?_⟩)<;>try subst hd
    | (with_reducible refine Zv1 ?_);first | with_reducible refine Zdx h (fun x hb h=>?_) | refine Zfa (by assumption) ?_ | with_reducible refine pG h (fun hp h=>?_) | with_reducible refine pA h (fun x ha hb hx h=>?_) | with_reducible refine pB h (fun x hb h=>?_) | refine Zdx h (fun x hb h=>?_)
    | (with_reducible refine ZvY ?_);first | with_reducible refine vAt h (fun x ha hb hx h=>?_) | refine Ze8 (by assumption) (by assumption) (by assumption) ?_ | with_reducible refine pG h (fun hp h=>?_) | with_reducible refine pA h (fun x ha hb hx h=>?_) | with_reducible refine pB h (fun x hb h=>?_) | refine vAt h (fun x ha hb hx h=>?_)
    | (with_reducible refine ZsC ?_);first | with_reducible refine ZnG h (fun x hb h=>?_) | refine Zhy (by assumption) ?_ | with_reducible refine pG h (fun hp h=>?_) | with_reducible refine pA h (fun x ha hb hx h=>?_) | with_reducible refine pB h (fun x hb h=>?_) | refine ZnG h (fun x hb h=>?_)
    | with_reducible refine Zv0 ?_
    | (with_reducible refine Zpm ?_);refine ZpA h hK ?_;clear h hK;intro I μ v r h hK;(repeat rcases v with ⟨_,v⟩);(try dsimp only at h)
    | with_reducible refine ⟨by assumption,?_⟩
    | with_reducible refine orL ?_
    | with_reducible refine .inr ?_
    | (with_reducible refine ZsF ?_);first | refine ⟨?_,True.intro⟩ | refine ⟨?_,?_⟩
    | refine ⟨by kernel_rfl,?_⟩
    | refine ⟨by decide,?_⟩
    | with_reducible refine Zs2 h (fun hp h=>?_)
    | intro fp
    | exact trivial
    | with_reducible exact ZrP h
    | (refine pS h (fun e=>?_));subst e;(repeat (first | exact hK | exact ⟨⟨rfl,rfl⟩,hK.1 _ rfl⟩ | (refine pR hK (fun e hK=>?_));subst e));done
    | refine Zs2 h (fun hp h=>?_)
    | refine ⟨by assumption,?_⟩
    | with_reducible refine pG h (fun hp h=>?_) | with_reducible refine pA h (fun x ha hb hx h=>?_) | with_reducible refine pB h (fun x hb h=>?_)
    | refine pG h (fun hp h=>?_)
    | fail
end Go.Proofs.YtpiemlnhjobopaaGreatDoor
