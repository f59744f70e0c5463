/-
  The functions keep their contracts, if what they call does. Printed by program.
-/
import Derived.Test.YtclfgjepbamnlaaGreatDoorM
import Derived.KernelRfl
namespace Go.Proofs.YtclfgjepbamnlaaGreatDoor
open Go Go.Sx
set_option maxRecDepth 100000
set_option maxHeartbeats 3200000
set_option linter.unusedVariables false
set_option linter.unusedSimpArgs false
structure Ws0:Prop where
 w138:Sq 374 Zy0→Sq 375 Zy3→Sq 347 c138
 w134:Sq 387 ZyR→Sq 388 ZyX→Sq 389 c131→Sq 390 ZyZ→Sq 377 Zxk→Sq 217 Zqk→Sq 374 Zy0
 w133:Sq 377 Zxk→Sq 217 Zqk→Sq 390 ZyZ
 w143:Sq 377 Zxk→Sq 135 ZvG→Sq 378 Zy5→Sq 348 c143
 w146:Sq 303 Zxj→Sq 255 c146
 w199:Sq 204 c198→Sq 118 Zzx
 w219:Sq 121 ZzH
 w162:Sq 188 c162
 w188:Sq 199 Zzp→Sq 198 Zzq
 w202:Sq 198 c201→Sq 119 Zzz
 w121:Sq 136 Zye
 w147:Sq 304 Zy7
 w176:Sq 194 Zzi
 w195:Sq 203 Zzv
 w216:Sq 316 ZzE→Sq 270 c210→Sq 273 ZzF
 w244:Sq 60 ZzW
 w229:Sq 274 ZzL→Sq 275 c228→Sq 17 c222→Sq 209 c229
 w231:Sq 122 ZzN→Sq 56 ZzO
 w224:Sq 317 ZzK→Sq 274 ZzL
 w234:Sq 124 c234
 w225:Sq 17 c222→Sq 383 ZzM
 w257:Sq 128 Zz4→Sq 129 Zz5→Sq 130 Zz6→Sq 63 Zz7
 w254:Sq 212 ZvH→Sq 22 ZvI→Sq 128 Zz4
 w256:Sq 212 ZvH→Sq 130 Zz6
 w255:Sq 212 ZvH→Sq 129 Zz5
 w247:Sq 212 ZvH
 w258:Sq 22 ZvI→Sq 64 Zz8
 w5:Sq 340 c4→Sq 294 c5
 w10:Sq 143 c2→Sq 172 c10
 w13:Sq 173 c13
 w20:Sq 8 c20
 w47:Sq 51 c47
 w34:Sq 13 c26→Sq 183 c34
 w33:Sq 103 c32→Sq 47 c33
 w48:Sq 107 c44→Sq 52 c48
 w49:Sq 51 c47→Sq 52 c48→Sq 15 c49
 w152:Sq 219 Zy9→Sq 140 c152
 w196:Sq 203 Zzv→Sq 202 c196
 w155:Sq 259 c154→Sq 306 Zzb
 w189:Sq 200 Zzr
 w107:Sq 40 c86→Sq 41 c77→Sq 42 c82→Sq 43 c69→Sq 44 ZyM→Sq 46 c105→Sq 45 ZyN→Sq 10 c107
 w58:Sq 343 c58
 w76:Sq 100 c64→Sq 96 c76
 w62:Sq 177 c50→Sq 244 c62
 w61:Sq 176 c51→Sq 243 c61
 w64:Sq 100 c64
 w99:Sq 299 c99
 w79:Sq 90 c67→Sq 41 c77→Sq 131 c78→Sq 179 c79
 w81:Sq 99 c81
 w78:Sq 176 c51→Sq 131 c78
 w103:Sq 102 ZyL
 w80:Sq 43 c69→Sq 176 c51→Sq 134 c70→Sq 178 c71→Sq 145 c80
set_option maxHeartbeats 100000000 in
theorem ws0:Ws0:=by
 refine ⟨(fun q1 q0=>Ze Zl (Zb q1 (Zb q0 Zf)) mixed {loops:=[(0,[.reg 8 (.dat Iq)])]} Tryz.func347 (hvc:=?_)),
 (fun q4 q3 q2 q0 q1 q5=>Ze Zl (Zb q4 (Zb q3 (Zb q2 (Zb q0 (Zb q1 (Zb q5 Zf)))))) mixed {draws:=[(2,[0,1,3,7,15,31,63,127,255,511,1023,2047,4095,8191,16383,32767,65535,32767,163839,524287,1048575,2097151,4194303,8388607,16777215,33554431,67108863,134217727,134217727,402653183,1073741823,2147483647,4294967295,8589934591,17179869183,8589934591,42949672959,137438953471,274877906943,549755813887],.op 0 (.op 1 (.op 2 (.op 3 (.op 4 (.op 5 (.op 6 (.op 7 (.op 8 (.op 9 (.op 10 (.op 11 (.alt 12 (.op 13 (.op 14 (.op 15 (.op 16 (.op 17 (.alt 18 (.op 19 (.op 20 (.op 21 (.op 22 (.op 23 (.op 24 (.op 25 (.op 26 (.op 27 (.op 28 (.op 29 (.alt 30 (.op 31 (.op 32 (.op 33 (.op 34 (.op 35 (.op 36 (.op 37 (.op 38 (.op 39 (.done)))))))))) (.done))))))))))))) (.done))))))) (.done)))))))))))))),(3,[0,1,3,7,15,31,63,127,255,511,1023,2047,4095,2047,10239,32767,65535,131071,262143,262143,786431,2097151,4194303,8388607],.op 0 (.op 1 (.alt 2 (.op 3 (.op 4 (.op 5 (.op 6 (.alt 7 (.op 8 (.op 9 (.op 10 (.op 11 (.op 12 (.op 13 (.alt 14 (.op 15 (.op 16 (.op 17 (.op 18 (.op 19 (.op 20 (.alt 21 (.op 22 (.op 23 (.done))) (.done)))))))) (.done)))))))) (.done)))))) (.done))))]} Tryz.func374 (hvc:=?_)),
 (fun q0 q1=>Ze Zl (Zb q0 (Zb q1 Zf)) mixed {} Tryz.func390 (hvc:=?_)),
 (fun q0 q1 q2=>Ze Zl (Zb q0 (Zb q1 (Zb q2 Zf))) mixed {loops:=[(0,[.reg 3 (.dat Iq),.reg 9 (.dat Iq)])],draws:=[(10,[0,1,3,7,15,31,7,71,199,511,1023,2047,4095,8191,16383,32767,65535],.op 0 (.op 1 (.op 2 (.op 3 (.op 4 (.op 5 (.op 6 (.alt 7 (.op 8 (.op 9 (.op 10 (.op 11 (.op 12 (.op 13 (.alt 14 (.op 15 (.op 16 (.done))) (.done)))))))) (.done))))))))),(12,[0,1,3,7,15,31,63,127,255,511,1023,2047,4095,8191,16383,32767,16383,131071,262143,524287,1048575],.op 0 (.op 1 (.op 2 (.op 3 (.op 4 (.op 5 (.op 6 (.op 7 (.op 8 (.op 9 (.alt 10 (.op 11 (.op 12 (.op 13 (.op 14 (.op 16 (.alt 15 (.alt 17 (.op 18 (.op 19 (.op 20 (.done)))) (.done)) (.done))))))) (.done))))))))))))]} Tryz.func348 (hvc:=?_)),
 (fun q0=>Ze Zl (Zb q0 Zf) mixed {loops:=[(0,[.reg 3 (.own (.ol 9 (.flat (.str)))),.reg 12 (.dat Iq)]),(2,[.reg 4 (.own (.ol 9 (.flat (.str)))),.reg 25 (.dat Iq)])]} Tryz.func255 (hvc:=?_)),
 (fun q0=>Ze Zl (Zb q0 Zf) mixed {draws:=[(2,[0,0,0,0,0,1,33,107,235,491,1023,2047,4095],.op 0 (.op 1 (.op 2 (.op 5 (.alt 3 (.alt 4 (.alt 6 (.op 7 (.op 8 (.alt 9 (.op 10 (.op 11 (.alt 12 (.done) (.done)))) (.done)))) (.done)) (.alt 6 (.op 7 (.op 8 (.alt 4 (.alt 9 (.op 10 (.op 11 (.alt 12 (.done) (.done)))) (.done)) (.alt 9 (.alt 4 (.op 10 (.op 11 (.alt 12 (.done) (.done)))) (.done)) (.done))))) (.done))) (.alt 4 (.alt 3 (.alt 6 (.op 7 (.op 8 (.alt 9 (.op 10 (.op 11 (.alt 12 (.done) (.done)))) (.done)))) (.done)) (.alt 6 (.alt 3 (.op 7 (.op 8 (.alt 9 (.op 10 (.op 11 (.alt 12 (.done) (.done)))) (.done)))) (.done)) (.done))) (.alt 6 (.alt 3 (.op 7 (.op 8 (.alt 4 (.alt 9 (.op 10 (.op 11 (.alt 12 (.done) (.done)))) (.done)) (.alt 9 (.alt 4 (.op 10 (.op 11 (.alt 12 (.done) (.done)))) (.done)) (.done))))) (.alt 4 (.alt 3 (.op 7 (.op 8 (.alt 9 (.op 10 (.op 11 (.alt 12 (.done) (.done)))) (.done)))) (.done)) (.done))) (.done)))))))),(3,[0,0,0,4,12,28,0,124,0,256,768,1792,0,8188,16381,32765,65533,131071,262143,524287],.op 0 (.op 1 (.op 2 (.op 3 (.op 4 (.op 5 (.op 6 (.op 8 (.op 9 (.op 10 (.op 11 (.op 12 (.alt 7 (.alt 13 (.op 14 (.op 15 (.alt 16 (.op 17 (.op 18 (.alt 19 (.done) (.done)))) (.done)))) (.done)) (.done))))))))))))))]} Tryz.func118 (hvc:=?_)),
 (Ze Zl Zf mixed {} Tryz.func121 (hvc:=?_)),
 (Ze Zl Zf mixed {} Tryz.func188 (hvc:=?_)),
 (fun q0=>Ze Zl (Zb q0 Zf) mixed {loops:=[(0,[.reg 5 (.own (.ol 2 (.flat Iq))),.reg 16 (.dat Iq)])]} Tryz.func198 (hvc:=?_)),
 (fun q0=>Ze Zl (Zb q0 Zf) mixed {} Tryz.func119 (hvc:=?_)),
 (Ze Zl Zf mixed {loops:=[(0,[.reg 3 (.dat Iq)])],draws:=[(4,[0,0,2,7,15,0,0,96,224,511],.op 0 (.op 1 (.op 2 (.op 3 (.op 4 (.op 5 (.op 6 (.op 7 (.op 8 (.op 9 (.done)))))))))))]} Tryz.func136 (hvc:=?_)),
 (Ze Zl Zf mixed {} Tryz.func304 (hvc:=?_)),
 (Ze Zl Zf mixed {} Tryz.func194 (hvc:=?_)),
 (Ze Zl Zf mixed {} Tryz.func203 (hvc:=?_)),
 (fun q1 q0=>Ze Zl (Zb q1 (Zb q0 Zf)) mixed {} Tryz.func273 (hvc:=?_)),
 (Ze Zl Zf mixed {loops:=[(0,[.reg 5 (.dat Iq)])],draws:=[(6,[0,0,3,7,0,0,48,112,255],.op 0 (.op 1 (.op 2 (.op 3 (.op 4 (.op 5 (.op 6 (.op 7 (.op 8 (.done))))))))))]} Tryz.func60 (hvc:=?_)),
 (fun q1 q2 q0=>Ze Zl (Zb q1 (Zb q2 (Zb q0 Zf))) mixed {} Tryz.func209 (hvc:=?_)),
 (fun q0=>Ze Zl (Zb q0 Zf) mixed {} Tryz.func56 (hvc:=?_)),
 (fun q0=>Ze Zl (Zb q0 Zf) mixed {loops:=[(0,[.reg 5 (.dat Iq)])],draws:=[(6,[0,0,3,7,0,0,48,112,255,511],.op 0 (.op 1 (.op 2 (.op 3 (.op 4 (.op 5 (.op 6 (.op 7 (.alt 8 (.op 9 (.done)) (.done))))))))))]} Tryz.func274 (hvc:=?_)),
 (Ze Zl Zf mixed {loops:=[(0,[.reg 5 (.dat Iq)])],draws:=[(6,[0,0,3,7,0,0,48,112,255],.op 0 (.op 1 (.op 2 (.op 3 (.op 4 (.op 5 (.op 6 (.op 7 (.op 8 (.done))))))))))]} Tryz.func124 (hvc:=?_)),
 (fun q0=>Ze Zl (Zb q0 Zf) mixed {} Tryz.func383 (hvc:=?_)),
 (fun q0 q1 q2=>Ze XK (Zb q0 (Zb q1 (Zb q2 Zf))) mixed {} Tryz.func63 (hvc:=?_)),
 (fun q1 q0=>Ze XK (Zb q1 (Zb q0 Zf)) mixed {loops:=[(0,[.reg 1 (.dat Iq),.reg 5 (.dat Iq),.ent 0 (nat_lit 170) (Dp.pair (Dp.flat Ty.str) (Dp.pair (Dp.flat (Ty.int IntKind.i64)) (Dp.pair (Dp.ol (2:Go.TypeId) (Dp.flat (Ty.int IntKind.i64))) (Dp.flat Ty.unit))))])]} Tryz.func128 (hvc:=?_)),
 (fun q0=>Ze XK (Zb q0 Zf) mixed {loops:=[(0,[.reg 1 (.dat Iq),.reg 5 (.dat Iq),.ent 0 (nat_lit 266) (.flat V6)])]} Tryz.func130 (hvc:=?_)),
 (fun q0=>Ze XK (Zb q0 Zf) mixed {loops:=[(0,[.reg 1 (.dat Iq),.reg 5 (.dat Iq),.ent 0 (nat_lit 9) (.flat Ty.str)])]} Tryz.func129 (hvc:=?_)),
 (Ze Zl Zf mixed {loops:=[(0,[.reg 0 (.dat Iq),.reg 3 (.dat (.str))])]} Tryz.func212 (hvc:=?_)),
 (fun q0=>Ze XK (Zb q0 Zf) mixed {loops:=[(0,[.reg 1 (.dat Iq),.reg 5 (.dat Iq),.ent 0 (nat_lit 85) (Dp.pair (Dp.ol (2:Go.TypeId) (Dp.flat (Ty.int IntKind.i64))) (Dp.pair (Dp.ol (2:Go.TypeId) (Dp.flat (Ty.int IntKind.i64))) (Dp.pair (Dp.ol (2:Go.TypeId) (Dp.flat (Ty.int IntKind.i64))) (Dp.pair (Dp.ol (2:Go.TypeId) (Dp.flat (Ty.int IntKind.i64))) (Dp.flat Ty.unit)))))])]} Tryz.func64 (hvc:=?_)),
 (fun q0=>Ze Zl (Zb q0 Zf) mixed {} Tryz.func294 (hvc:=?_)),
 (fun q0=>Ze Zl (Zb q0 Zf) mixed {} Tryz.func172 (hvc:=?_)),
 (Ze Zl Zf mixed {} Tryz.func173 (hvc:=?_)),
 (Ze Zl Zf mixed {} Tryz.func8 (hvc:=?_)),
 (Ze Zl Zf mixed {loops:=[(0,[.reg 4 (.dat Iq),.ent 0 (nat_lit 4) (.flat Zvy.ety)])]} Tryz.func51 (hvc:=?_)),
 (fun q0=>Ze Zl (Zb q0 Zf) mixed {} Tryz.func183 (hvc:=?_)),
 (fun q0=>Ze XK (Zb q0 Zf) mixed {} Tryz.func47 (hvc:=?_)),
 (fun q0=>Ze Zl (Zb q0 Zf) mixed {loops:=[(0,[.reg 4 (.dat Iq),.ent 0 (nat_lit 103) (.flat ZyB.ety)])]} Tryz.func52 (hvc:=?_)),
 (fun q0 q1=>Ze Zl (Zb q0 (Zb q1 Zf)) mixed {} Tryz.func15 (hvc:=?_)),
 (fun q0=>Ze Zl (Zb q0 Zf) mixed {} Tryz.func140 (hvc:=?_)),
 (fun q0=>Ze Zl (Zb q0 Zf) mixed {loops:=[(0,[.reg 8 (.dat Iq)])]} Tryz.func202 (hvc:=?_)),
 (fun q0=>Ze Zl (Zb q0 Zf) mixed {loops:=[(0,[.reg 8 (.dat Iq)])]} Tryz.func306 (hvc:=?_)),
 (Ze Zl Zf mixed {loops:=[(0,[.reg 8 (.dat Iq)])]} Tryz.func200 (hvc:=?_)),
 (fun q2 q0 q3 q1 q4 q5 q6=>Ze Zl (Zb q2 (Zb q0 (Zb q3 (Zb q1 (Zb q4 (Zb q5 (Zb q6 Zf))))))) mixed {loops:=[(0,[.reg 15 (.own (.ol 2 (.flat Iq))),.reg 16 (.dat Iq)])],draws:=[(11,[0,1,0,0,0,31],.op 0 (.op 2 (.op 3 (.op 4 (.alt 1 (.alt 5 (.done) (.done)) (.done))))))]} Tryz.func10 (hvc:=?_)),
 (Ze Zl Zf mixed {loops:=[(0,[.reg 4 (.dat Iq),.ent 1 (nat_lit 2) (.flat Zum.ety)])]} Tryz.func343 (hvc:=?_)),
 (fun q0=>Ze Zl (Zb q0 Zf) mixed {loops:=[(0,[.reg 6 (.dat Iq)])]} Tryz.func96 (hvc:=?_)),
 (fun q0=>Ze Zl (Zb q0 Zf) mixed {loops:=[(0,[.reg 3 (.dat Iq)]),(2,[.reg 4 (.dat Iq)])],draws:=[(9,[0,0,3,7,0,0,48,112,255],.op 0 (.op 1 (.op 2 (.op 3 (.op 4 (.op 5 (.op 6 (.op 7 (.op 8 (.done))))))))))]} Tryz.func244 (hvc:=?_)),
 (fun q0=>Ze Zl (Zb q0 Zf) mixed {loops:=[(0,[.reg 6 (.dat Iq)]),(2,[.reg 8 (.dat Iq)]),(4,[.reg 9 (.dat Iq)])],draws:=[(6,[0,1,0,4,12,28,63,127,255,511,1023,2047,511,4607,511,16895,61951,127487,258559,520703,1048575,2097151],.op 0 (.op 1 (.op 2 (.op 3 (.op 4 (.op 5 (.alt 6 (.op 7 (.op 8 (.op 9 (.op 10 (.op 11 (.op 12 (.op 13 (.op 14 (.op 15 (.op 16 (.op 17 (.op 18 (.op 19 (.op 20 (.op 21 (.done)))))))))))))))) (.done))))))))]} Tryz.func243 (hvc:=?_)),
 (Ze Zl Zf mixed {loops:=[(0,[.reg 3 (.own (.ol 232 (.flat (ZeQ)))),.reg 4 (.dat Iq)]),(2,[.reg 3 (.own (.ol 232 (.flat (ZeQ)))),.reg 6 (.dat Iq)]),(4,[.reg 3 (.own (.ol 232 (.flat (ZeQ)))),.reg 7 (.dat Iq)])],draws:=[(13,[0,0,0,4,0,28,60,124,0,256,0,1792,3840,7936,16128,32766,65534,131071,262143],.op 0 (.op 1 (.op 2 (.op 3 (.op 4 (.op 5 (.op 6 (.op 7 (.op 8 (.op 9 (.op 10 (.op 11 (.op 12 (.op 13 (.op 14 (.op 15 (.alt 16 (.alt 17 (.op 18 (.done)) (.done)) (.done))))))))))))))))))]} Tryz.func100 (hvc:=?_)),
 (Ze Zl Zf mixed {loops:=[(0,[.reg 5 (.dat Iq),.reg 6 (.dat Iq)])]} Tryz.func299 (hvc:=?_)),
 (fun q2 q1 q0=>Ze Zl (Zb q2 (Zb q1 (Zb q0 Zf))) mixed {} Tryz.func179 (hvc:=?_)),
 (Ze Zl Zf mixed {loops:=[(0,[.reg 5 (.dat Iq)])]} Tryz.func99 (hvc:=?_)),
 (fun q0=>Ze Zl (Zb q0 Zf) mixed {loops:=[(0,[.reg 5 (.dat Iq)])],draws:=[(4,[0,0,3,7,0,16,63,127,255,511,1023,2047,4095,4095,12287,32767,65535,4095,4095,397311,921599,2097151,4194303,8388607],.op 0 (.op 1 (.op 2 (.op 3 (.op 4 (.op 5 (.alt 6 (.op 7 (.op 8 (.op 9 (.op 10 (.op 11 (.op 12 (.op 13 (.op 14 (.op 15 (.op 16 (.op 17 (.op 18 (.op 19 (.op 20 (.op 21 (.op 22 (.op 23 (.done)))))))))))))))))) (.done))))))))]} Tryz.func131 (hvc:=?_)),
 (Ze Zl Zf mixed {} Tryz.func102 (hvc:=?_)),
 (fun q0 q3 q2 q1=>Ze Zl (Zb q0 (Zb q3 (Zb q2 (Zb q1 Zf)))) mixed {loops:=[(0,[.reg 6 (.dat Iq)])],draws:=[(5,[0,0,3,7,15,0,32,127,255,511,1023,2047,4095,8191,8191,24575,65535,131071,262143,8191,8191,1581055,3678207,7872511,16777215,33554431,67108863,134217727,268435455,268435455,1073741823,2147483647,4294967295,8589934591,17179869183,34359738367,68719476735,137438953471,137438953471,549755813887,1099511627775,2199023255551,4398046511103,8796093022207,17592186044415],.op 0 (.op 1 (.op 2 (.op 3 (.op 4 (.op 5 (.op 6 (.alt 7 (.op 8 (.op 9 (.op 10 (.op 11 (.op 12 (.op 13 (.op 14 (.op 15 (.op 16 (.op 17 (.op 18 (.op 19 (.op 20 (.op 21 (.op 22 (.op 23 (.op 24 (.op 25 (.op 26 (.op 27 (.op 28 (.op 29 (.op 30 (.op 31 (.op 32 (.alt 33 (.op 34 (.op 35 (.op 36 (.op 37 (.op 38 (.op 39 (.op 40 (.op 41 (.alt 42 (.op 43 (.op 44 (.done))) (.done)))))))))) (.done))))))))))))))))))))))))))) (.done)))))))))]} Tryz.func145 (hvc:=?_))⟩
 all_goals
  intro a
  repeat rcases a with ⟨_,a⟩
  rintro K ⟨r,h,hK⟩
  repeat'
    conv=>whnf
    first
    | with_reducible refine Ztc ?_
    | with_reducible refine Zfq (by assumption) (by assumption) (by assumption) ?_
    | with_reducible refine ZhT (by assumption) ?_
    | with_reducible refine Zfr (by assumption) ?_
    | (with_reducible refine shD ?_);first | refine Zpf h (fun h=>?_) (fun h=>?_) | refine ZsB h (fun h=>?_) (fun h=>?_)
    | (with_reducible refine ZtW ?_);first | refine Zun ?_ | refine Zkg ?_
    | (with_reducible refine ZxM ?_);first | refine ZrY h (fun h=>?_) (fun h=>?_) | refine Zub h (fun h=>?_) (fun h=>?_)
    | (with_reducible refine ZtV ?_);(refine ⟨fun hd=>?_,?_⟩)<;>try subst hd
    | (with_reducible refine ZxO ?_);first | with_reducible refine Zbe h (fun x hb h=>?_) | refine Zfr (by assumption) ?_ | with_reducible refine pG h (fun hp h=>?_) | with_reducible refine pA h (fun x ha hb hx h=>?_) | with_reducible refine pB h (fun x hb h=>?_) | refine Zbe h (fun x hb h=>?_)
    | (with_reducible refine ZxL ?_);first | with_reducible refine vAt h (fun x ha hb hx h=>?_) | refine Zfq (by assumption) (by assumption) (by assumption) ?_ | with_reducible refine pG h (fun hp h=>?_) | with_reducible refine pA h (fun x ha hb hx h=>?_) | with_reducible refine pB h (fun x hb h=>?_) | refine vAt h (fun x ha hb hx h=>?_)
    | (with_reducible refine ZtU ?_);first | with_reducible refine ZnZ h (fun x hb h=>?_) | refine ZhT (by assumption) ?_ | with_reducible refine pG h (fun hp h=>?_) | with_reducible refine pA h (fun x ha hb hx h=>?_) | with_reducible refine pB h (fun x hb h=>?_) | refine ZnZ h (fun x hb h=>?_)
    | with_reducible refine ZxN ?_
    | (with_reducible refine Zp0 ?_);refine Zqi h hK ?_;clear h hK;intro I μ v r h hK;(repeat rcases v with ⟨_,v⟩);(try dsimp only at h)
    | with_reducible refine ⟨by assumption,?_⟩
    | with_reducible refine orL ?_
    | with_reducible refine .inr ?_
    | (with_reducible refine ZtX ?_);first | refine ⟨?_,True.intro⟩ | refine ⟨?_,?_⟩
    | refine ⟨by kernel_rfl,?_⟩
    | refine ⟨by decide,?_⟩
    | with_reducible refine Zuo h (fun hp h=>?_)
    | intro fp
    | exact trivial
    | with_reducible exact Zs5 h
    | (refine pS h (fun e=>?_));subst e;(repeat (first | exact hK | exact ⟨⟨rfl,rfl⟩,hK.1 _ rfl⟩ | (refine pR hK (fun e hK=>?_));subst e));done
    | refine Zuo h (fun hp h=>?_)
    | refine ⟨by assumption,?_⟩
    | with_reducible refine pG h (fun hp h=>?_) | with_reducible refine pA h (fun x ha hb hx h=>?_) | with_reducible refine pB h (fun x hb h=>?_)
    | refine pG h (fun hp h=>?_)
    | fail
theorem w_laws_FnExactWrongNodes (q17:Sq 6 c18) (q10:Sq 7 c19) (q6:Sq 8 c20) (q11:Sq 9 c23) (q18:Sq 11 c42) (q12:Sq 12 c43) (q13:Sq 13 c26) (q7:Sq 14 c46) (q14:Sq 15 c49) (q1:Sq 10 c107) (q2:Sq 16 ZzJ) (q15:Sq 17 c222) (q19:Sq 18 ZzT) (q8:Sq 19 ZzV) (q16:Sq 20 ZzY) (q9:Sq 21 Zz9) (q3:Sq 22 ZvI) (q0:Sq 23 ZAa) (q4:Sq 24 ZAd) (q5:Sq 25 ZAe):Sq 3 ZbP:=by
 refine Ze Zl (Zb q17 (Zb q10 (Zb q6 (Zb q11 (Zb q18 (Zb q12 (Zb q13 (Zb q7 (Zb q14 (Zb q1 (Zb q2 (Zb q15 (Zb q19 (Zb q8 (Zb q16 (Zb q9 (Zb q3 (Zb q0 (Zb q4 (Zb q5 Zf)))))))))))))))))))) mixed {draws:=[(16,[0,1,0,7,0,31,0,127,0,511,1023,2047,4095,4095,8191,32767],.op 0 (.op 2 (.op 4 (.op 6 (.op 8 (.alt 1 (.alt 3 (.alt 5 (.alt 7 (.alt 9 (.alt 10 (.op 11 (.op 12 (.op 13 (.op 14 (.op 15 (.done)))))) (.done)) (.done)) (.done)) (.done)) (.done)) (.done))))))),(21,[0,0,2,0,0,0,63,127,255,255,511,2047],.op 0 (.op 1 (.op 3 (.op 4 (.op 5 (.alt 2 (.alt 6 (.op 7 (.op 8 (.op 9 (.op 10 (.op 11 (.done)))))) (.done)) (.done))))))),(24,[0,0,2,7,15],.op 0 (.op 1 (.alt 2 (.alt 3 (.op 4 (.done)) (.done)) (.done)))),(30,[0,0,2,7,15],.op 0 (.op 1 (.alt 2 (.alt 3 (.op 4 (.done)) (.done)) (.done)))),(47,[0,1,0,7,0,31,0,127,0,511,1023,2047,4095,4095,8191,32767],.op 0 (.op 2 (.op 4 (.op 6 (.op 8 (.alt 1 (.alt 3 (.alt 5 (.alt 7 (.alt 9 (.alt 10 (.op 11 (.op 12 (.op 13 (.op 14 (.op 15 (.done)))))) (.done)) (.done)) (.done)) (.done)) (.done)) (.done)))))))]} (fn:=Tryz.f3) Tryz.func3 (by kernel_rfl) (by kernel_rfl) ?_
 rintro ⟨a0,a1,a2,a3,a4,⟨⟩⟩ K ⟨r,h,hK⟩
 change Qc a0 a1 a2 a3 a4=some r at h
 unfold Qc at h
 conv=>whnf
 refine Zpf h (fun h=>?_) (fun h=>?_)
 conv=>whnf
 cases h
 exact hK
 conv=>whnf
 refine Zbe h (fun szBlock0 hb0 h=>?_)
 conv=>whnf
 refine Zpf h (fun h=>?_) (fun h=>?_)
 conv=>whnf
 cases h
 exact hK
 conv=>whnf
 refine Zbe h (fun szCorner0 hb1 h=>?_)
 conv=>whnf
 refine Zpf h (fun h=>?_) (fun h=>?_)
 conv=>whnf
 cases h
 exact hK
 conv=>whnf
 refine Zbe h (fun szSourceS0 hb2 h=>?_)
 conv=>whnf
 refine Zpf h (fun h=>?_) (fun h=>?_)
 conv=>whnf
 cases h
 exact hK
 conv=>whnf
 refine Zbe h (fun szTiming0 hb3 h=>?_)
 conv=>whnf
 refine Zpf h (fun h=>?_) (fun h=>?_)
 conv=>whnf
 cases h
 exact hK
 conv=>whnf
 refine ⟨by kernel_rfl,?_⟩
 conv=>whnf
 refine Zbe h (fun toBlock0 hb4 h=>?_)
 conv=>whnf
 intro fp5
 conv=>whnf
 intro fp6
 conv=>whnf
 intro fp7
 conv=>whnf
 refine Zbe h (fun toCorner0 hb8 h=>?_)
 conv=>whnf
 refine Zbe h (fun toInt64S0 hb9 h=>?_)
 conv=>whnf
 refine Zbe h (fun toSourceS0 hb10 h=>?_)
 conv=>whnf
 refine Zbe h (fun toTiming0 hb11 h=>?_)
 conv=>whnf
 refine Zbe h (fun WrongNodes0 hb12 h=>?_)
 conv=>whnf
 refine ⟨trivial,?_⟩
 conv=>whnf
 refine ⟨_,hb4,?_⟩
 conv=>whnf
 intro fp13
 conv=>whnf
 intro fp14
 conv=>whnf
 intro fp15
 conv=>whnf
 refine ⟨_,hb9,?_⟩
 conv=>whnf
 refine ⟨_,hb10,?_⟩
 conv=>whnf
 refine ⟨_,hb11,?_⟩
 conv=>whnf
 refine ⟨by kernel_rfl,?_⟩
 conv=>whnf
 refine ⟨_,hb8,?_⟩
 conv=>whnf
 refine Zbe h (fun WrongNodes1 hb16 h=>?_)
 conv=>whnf
 refine ⟨trivial,?_⟩
 conv=>whnf
 refine Zbe h (fun eqInt64S0 hb17 h=>?_)
 conv=>whnf
 refine Zun ?_
 refine ZrY h (fun h=>?_) (fun h=>?_)
 conv=>whnf
 refine Zkg ?_
 refine Zpf h (fun h=>?_) (fun h=>?_)
 conv=>whnf
 refine ⟨by kernel_rfl,?_⟩
 conv=>whnf
 refine ⟨_,hb4,?_⟩
 conv=>whnf
 intro fp18
 conv=>whnf
 intro fp19
 conv=>whnf
 intro fp20
 conv=>whnf
 refine Zbe h (fun eqBlock0 hb21 h=>?_)
 conv=>whnf
 refine ⟨trivial,?_⟩
 conv=>whnf
 refine Zkg ?_
 refine ZrY h (fun h=>?_) (fun h=>?_)
 conv=>whnf
 refine ⟨_,hb9,?_⟩
 conv=>whnf
 refine Zbe h (fun eqInt64S1 hb22 h=>?_)
 conv=>whnf
 refine Zkg ?_
 refine ZrY h (fun h=>?_) (fun h=>?_)
 conv=>whnf
 refine ⟨_,hb10,?_⟩
 conv=>whnf
 refine Zbe h (fun eqSourceS0 hb23 h=>?_)
 conv=>whnf
 refine Zkg ?_
 refine ZrY h (fun h=>?_) (fun h=>?_)
 conv=>whnf
 refine ⟨by kernel_rfl,?_⟩
 conv=>whnf
 refine ⟨_,hb11,?_⟩
 conv=>whnf
 refine Zbe h (fun eqTiming0 hb24 h=>?_)
 conv=>whnf
 refine ⟨trivial,?_⟩
 conv=>whnf
 refine Zkg ?_
 refine ZrY h (fun h=>?_) (fun h=>?_)
 conv=>whnf
 refine Zbe h (fun markBlock0 hb25 h=>?_)
 conv=>whnf
 intro fp26
 conv=>whnf
 intro fp27
 conv=>whnf
 intro fp28
 conv=>whnf
 refine Zbe h (fun markInt64S0 hb29 h=>?_)
 conv=>whnf
 refine Zbe h (fun markSourceS0 hb30 h=>?_)
 conv=>whnf
 refine Zbe h (fun markTiming0 hb31 h=>?_)
 conv=>whnf
 refine ZsB h (fun h=>?_) (fun h=>?_)
 conv=>whnf
 cases h
 exact hK
 conv=>whnf
 refine ⟨_,hb17,?_⟩
 conv=>whnf
 refine Zun ?_
 refine ZrY h (fun h=>?_) (fun h=>?_)
 conv=>whnf
 refine Zkg ?_
 refine Zpf h (fun h=>?_) (fun h=>?_)
 conv=>whnf
 refine Zbe h (fun markInt64S1 hb32 h=>?_)
 conv=>whnf
 refine Zbe h (fun heldInt64S0 hb33 h=>?_)
 conv=>whnf
 refine Zpf h (fun h=>?_) (fun h=>?_)
 conv=>whnf
 cases h
 exact hK
 conv=>whnf
 refine Zkg ?_
 refine Zpf h (fun h=>?_) (fun h=>?_)
 conv=>whnf
 refine ⟨by kernel_rfl,?_⟩
 conv=>whnf
 refine ⟨_,hb4,?_⟩
 conv=>whnf
 intro fp34
 conv=>whnf
 intro fp35
 conv=>whnf
 intro fp36
 conv=>whnf
 refine ⟨_,hb8,?_⟩
 conv=>whnf
 refine ⟨_,hb9,?_⟩
 conv=>whnf
 refine ⟨_,hb10,?_⟩
 conv=>whnf
 refine ⟨_,hb11,?_⟩
 conv=>whnf
 refine ⟨_,hb16,?_⟩
 conv=>whnf
 refine ⟨trivial,?_⟩
 conv=>whnf
 refine ⟨_,hb17,?_⟩
 conv=>whnf
 refine Zun ?_
 refine ZrY h (fun h=>?_) (fun h=>?_)
 conv=>whnf
 refine Zkg ?_
 refine Zpf h (fun h=>?_) (fun h=>?_)
 conv=>whnf
 refine ⟨_,hb33,?_⟩
 conv=>whnf
 refine Zpf h (fun h=>?_) (fun h=>?_)
 conv=>whnf
 cases h
 exact hK
 conv=>whnf
 refine Zkg ?_
 refine Zpf h (fun h=>?_) (fun h=>?_)
 conv=>whnf
 cases h
 exact hK
 conv=>whnf
 cases h
 exact hK
 conv=>whnf
 cases h
 exact hK
 conv=>whnf
 cases h
 exact hK
 conv=>whnf
 cases h
 exact hK
 conv=>whnf
 cases h
 exact hK
 conv=>whnf
 cases h
 exact hK
 conv=>whnf
 cases h
 exact hK
 conv=>whnf
 cases h
 exact hK
 conv=>whnf
 cases h
 exact hK
 conv=>whnf
 cases h
 exact hK
 conv=>whnf
 cases h
 exact hK
 conv=>whnf
 cases h
 exact hK
end Go.Proofs.YtclfgjepbamnlaaGreatDoor
