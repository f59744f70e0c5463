/-
  The functions keep their contracts, if what they call does. Printed by program.
-/
import Derived.Test.YthkhedimjmkifaaGreatDoorM
import Derived.KernelRfl
namespace Go.Proofs.YthkhedimjmkifaaGreatDoor
open Go Go.Sx
set_option maxRecDepth 100000
set_option maxHeartbeats 3200000
set_option linter.unusedVariables false
set_option linter.unusedSimpArgs false
structure Ws1:Prop where
 w129:Zc Tryz.prog 343 ZEe→Zc Tryz.prog 344 ZAv→Zc Tryz.prog 324 ZBK
 w124:Zc Tryz.prog 346 ZDN→Zc Tryz.prog 245 c99→Zc Tryz.prog 360 c124
 w123:Zc Tryz.prog 342 ZC2→Zc Tryz.prog 346 ZDN
 w163:Zc Tryz.prog 245 c99→Zc Tryz.prog 293 ZEH
 w157:Zc Tryz.prog 249 c157
 w166:Zc Tryz.prog 251 ZCV→Zc Tryz.prog 252 ZDX→Zc Tryz.prog 184 ZCb
 w148:Zc Tryz.prog 239 ZEN→Zc Tryz.prog 240 ZE4→Zc Tryz.prog 241 ZDE→Zc Tryz.prog 242 ZCx→Zc Tryz.prog 243 ZDx→Zc Tryz.prog 177 c148
 w145:Zc Tryz.prog 244 c145
 w100:Zc Tryz.prog 245 c99→Zc Tryz.prog 302 Zkp→Zc Tryz.prog 303 ZfL→Zc Tryz.prog 267 ZDO
 w107:Zc Tryz.prog 180 c107
 w168:Zc Tryz.prog 254 c167→Zc Tryz.prog 245 c99→Zc Tryz.prog 187 c168
 w208:Zc Tryz.prog 338 ZE8→Zc Tryz.prog 313 c208
 w221:Zc Tryz.prog 61 c212→Zc Tryz.prog 62 c218→Zc Tryz.prog 63 ZDf→Zc Tryz.prog 19 ZEA
 w227:Zc Tryz.prog 166 ZEC→Zc Tryz.prog 135 c227
 w226:Zc Tryz.prog 134 ZDj→Zc Tryz.prog 65 c226
 w214:Zc Tryz.prog 213 c213→Zc Tryz.prog 130 ZCR
 w224:Zc Tryz.prog 215 ZCw
 w258:Zc Tryz.prog 314 ZEB→Zc Tryz.prog 282 ZET
 w259:Zc Tryz.prog 142 ZCD→Zc Tryz.prog 281 ZCA→Zc Tryz.prog 282 ZET→Zc Tryz.prog 150 ZCT→Zc Tryz.prog 218 ZEa
 w267:Zc Tryz.prog 142 ZCD→Zc Tryz.prog 146 ZDQ
 w239:Zc Tryz.prog 280 ZD7→Zc Tryz.prog 217 ZEg
 w245:Zc Tryz.prog 138 ZDR→Zc Tryz.prog 139 ZEs→Zc Tryz.prog 140 ZCX→Zc Tryz.prog 69 ZDZ
 w242:Zc Tryz.prog 142 ZCD→Zc Tryz.prog 141 ZCF→Zc Tryz.prog 138 ZDR
 w254:Zc Tryz.prog 21 ZEj→Zc Tryz.prog 22 ZBb→Zc Tryz.prog 75 ZCQ→Zc Tryz.prog 23 ZDT
 w246:Zc Tryz.prog 141 ZCF→Zc Tryz.prog 70 ZDq
 w20:Zc Tryz.prog 106 c19→Zc Tryz.prog 45 c20
 w24:Zc Tryz.prog 108 c24
 w15:Zc Tryz.prog 103 c11→Zc Tryz.prog 104 c12→Zc Tryz.prog 105 c14→Zc Tryz.prog 43 c15
 w22:Zc Tryz.prog 156 c2→Zc Tryz.prog 107 c22
 w9:Zc Tryz.prog 102 c8→Zc Tryz.prog 42 c9
 w4:Zc Tryz.prog 353 c3→Zc Tryz.prog 336 c4
 w37:Zc Tryz.prog 157 c29→Zc Tryz.prog 203 c37
 w38:Zc Tryz.prog 203 c37→Zc Tryz.prog 115 c38
 w41:Zc Tryz.prog 204 c40→Zc Tryz.prog 117 c41
 w189:Zc Tryz.prog 207 ZEx
 w118:Zc Tryz.prog 377 c117→Zc Tryz.prog 367 ZBv
 w110:Zc Tryz.prog 326 c109→Zc Tryz.prog 289 ZEI
 w121:Zc Tryz.prog 372 ZEO→Zc Tryz.prog 371 ZCu
 w73:Zc Tryz.prog 167 c69→Zc Tryz.prog 169 c71→Zc Tryz.prog 168 c72→Zc Tryz.prog 91 c73
 w65:Zc Tryz.prog 320 c58→Zc Tryz.prog 237 c56→Zc Tryz.prog 172 c57→Zc Tryz.prog 321 c63→Zc Tryz.prog 322 c64→Zc Tryz.prog 287 c65
 w66:Zc Tryz.prog 287 c65→Zc Tryz.prog 234 c66
 w90:Zc Tryz.prog 201 c90
 w56:Zc Tryz.prog 237 c56
 w67:Zc Tryz.prog 172 c57→Zc Tryz.prog 235 c67
 w70:Zc Tryz.prog 94 c70
 w86:Zc Tryz.prog 94 c70→Zc Tryz.prog 50 c86
set_option maxHeartbeats 100000000 in
theorem ws1:Ws1:=by
 refine ⟨(fun q1 q0=>Zf Zq (Zd q1 (Zd q0 Zk)) mixed {loops:=[(0,[.reg 8 (.dat (.int .i64))])]} (fn:=Tryz.f324) Tryz.func324 (by kernel_rfl) (by kernel_rfl) ?_),
 (fun q0 q1=>Zf Zq (Zd q0 (Zd q1 Zk)) mixed {} (fn:=Tryz.f360) Tryz.func360 (by kernel_rfl) (by kernel_rfl) ?_),
 (fun q0=>Zf Zq (Zd q0 Zk) mixed {} (fn:=Tryz.f346) Tryz.func346 (by kernel_rfl) (by kernel_rfl) ?_),
 (fun q0=>Zf Zq (Zd q0 Zk) mixed {} (fn:=Tryz.f293) Tryz.func293 (by kernel_rfl) (by kernel_rfl) ?_),
 (Zf Zq Zk mixed {draws:=[(3,[0,1,0,4,0,16,60,124,252,511,1023,2047,0,4096,16383,32767,65535,131071],.op 0 (.op 1 (.op 2 (.op 3 (.op 4 (.op 5 (.op 6 (.op 7 (.op 8 (.op 9 (.op 10 (.op 11 (.op 12 (.op 13 (.op 14 (.op 15 (.op 16 (.op 17 (.done)))))))))))))))))))]} (fn:=Tryz.f249) Tryz.func249 (by kernel_rfl) (by kernel_rfl) ?_),
 (fun q1 q0=>Zf Zq (Zd q1 (Zd q0 Zk)) mixed {loops:=[(0,[.reg 3 (.own (.ol 9 (.flat (.str)))),.reg 11 (.dat (.int .i64))])]} (fn:=Tryz.f184) Tryz.func184 (by kernel_rfl) (by kernel_rfl) ?_),
 (fun q4 q2 q1 q3 q0=>Zf Zq (Zd q4 (Zd q2 (Zd q1 (Zd q3 (Zd q0 Zk))))) mixed {loops:=[(0,[.reg 25 (.dat (.int .i64)),.ent 2 (nat_lit 3) (.flat ZtB.ety)]),(2,[.reg 51 (.dat (.int .i64)),.ent 2 (nat_lit 3) (.flat ZtB.ety)])]} (fn:=Tryz.f177) Tryz.func177 (by kernel_rfl) (by kernel_rfl) ?_),
 (Zf Zq Zk mixed {} (fn:=Tryz.f244) Tryz.func244 (by kernel_rfl) (by kernel_rfl) ?_),
 (fun q2 q1 q0=>Zf Zq (Zd q2 (Zd q1 (Zd q0 Zk))) mixed {} (fn:=Tryz.f267) Tryz.func267 (by kernel_rfl) (by kernel_rfl) ?_),
 (Zf Zq Zk mixed {} (fn:=Tryz.f180) Tryz.func180 (by kernel_rfl) (by kernel_rfl) ?_),
 (fun q0 q1=>Zf Zq (Zd q0 (Zd q1 Zk)) mixed {} (fn:=Tryz.f187) Tryz.func187 (by kernel_rfl) (by kernel_rfl) ?_),
 (fun q0=>Zf Zq (Zd q0 Zk) mixed {} (fn:=Tryz.f313) Tryz.func313 (by kernel_rfl) (by kernel_rfl) ?_),
 (fun q0 q1 q2=>Zf Zq (Zd q0 (Zd q1 (Zd q2 Zk))) mixed {} (fn:=Tryz.f19) Tryz.func19 (by kernel_rfl) (by kernel_rfl) ?_),
 (fun q0=>Zf Zq (Zd q0 Zk) mixed {} (fn:=Tryz.f135) Tryz.func135 (by kernel_rfl) (by kernel_rfl) ?_),
 (fun q0=>Zf Zq (Zd q0 Zk) mixed {loops:=[(0,[.reg 5 (.dat (.int .i64))])],draws:=[(6,[0,0,3,7,0,0,48,112,255,511],.op 0 (.op 1 (.op 2 (.op 3 (.op 4 (.op 5 (.op 6 (.op 7 (.alt 8 (.op 9 (.done)) (.done))))))))))]} (fn:=Tryz.f65) Tryz.func65 (by kernel_rfl) (by kernel_rfl) ?_),
 (fun q0=>Zf Zq (Zd q0 Zk) mixed {loops:=[(0,[.reg 5 (.dat (.int .i64))])],draws:=[(6,[0,0,3,7,0,0,48,112,255,511],.op 0 (.op 1 (.op 2 (.op 3 (.op 4 (.op 5 (.op 6 (.op 7 (.alt 8 (.op 9 (.done)) (.done))))))))))]} (fn:=Tryz.f130) Tryz.func130 (by kernel_rfl) (by kernel_rfl) ?_),
 (Zf Zq Zk mixed {} (fn:=Tryz.f215) Tryz.func215 (by kernel_rfl) (by kernel_rfl) ?_),
 (fun q0=>Zf Zq (Zd q0 Zk) mixed {loops:=[(0,[.reg 1 (.dat (.int .i64)),.reg 5 (.dat (.int .i64))])]} (fn:=Tryz.f282) Tryz.func282 (by kernel_rfl) (by kernel_rfl) ?_),
 (fun q1 q2 q3 q0=>Zf Zq (Zd q1 (Zd q2 (Zd q3 (Zd q0 Zk)))) mixed {loops:=[(0,[.reg 1 (.dat (.int .i64)),.reg 5 (.dat (.int .i64))])],draws:=[(4,[0,0,3,7,15,0,32,127],.op 0 (.op 1 (.op 2 (.op 3 (.op 4 (.op 5 (.alt 6 (.op 7 (.done)) (.done))))))))]} (fn:=Tryz.f218) Tryz.func218 (by kernel_rfl) (by kernel_rfl) ?_),
 (fun q0=>Zf Zq (Zd q0 Zk) mixed {loops:=[(0,[.reg 1 (.dat (.int .i64)),.reg 5 (.dat (.int .i64))])],draws:=[(4,[0,0,3,7,15,0,32,127],.op 0 (.op 1 (.op 2 (.op 3 (.op 4 (.op 5 (.alt 6 (.op 7 (.done)) (.done))))))))]} (fn:=Tryz.f146) Tryz.func146 (by kernel_rfl) (by kernel_rfl) ?_),
 (fun q0=>Zf Xa (Zd q0 Zk) mixed {loops:=[(0,[.reg 1 (.dat (.int .i64)),.reg 5 (.dat (.int .i64)),.ent 0 (nat_lit 289) (Dp.pair (Dp.flat (Ty.int IntKind.i64)) (Dp.pair (Dp.flat (Ty.int IntKind.i64)) (Dp.pair (Dp.flat (Ty.int IntKind.i64)) (Dp.pair (Dp.flat (Ty.int IntKind.i64)) (Dp.pair (Dp.ol (341:Go.TypeId) Zgw) (Dp.pair (Dp.ol (341:Go.TypeId) Zgw) (Dp.flat Ty.unit)))))))])]} (fn:=Tryz.f217) Tryz.func217 (by kernel_rfl) (by kernel_rfl) ?_),
 (fun q0 q1 q2=>Zf Xa (Zd q0 (Zd q1 (Zd q2 Zk))) mixed {} (fn:=Tryz.f69) Tryz.func69 (by kernel_rfl) (by kernel_rfl) ?_),
 (fun q1 q0=>Zf Xa (Zd q1 (Zd q0 Zk)) mixed {loops:=[(0,[.reg 1 (.dat (.int .i64)),.reg 5 (.dat (.int .i64)),.ent 0 (nat_lit 219) (Dp.pair (Dp.flat Ty.str) (Dp.pair (Dp.flat (Ty.int IntKind.i64)) (Dp.pair (Dp.ol (2:Go.TypeId) (Dp.flat (Ty.int IntKind.i64))) (Dp.flat Ty.unit))))])]} (fn:=Tryz.f138) Tryz.func138 (by kernel_rfl) (by kernel_rfl) ?_),
 (fun q0 q1 q2=>Zf Xa (Zd q0 (Zd q1 (Zd q2 Zk))) mixed {} (fn:=Tryz.f23) Tryz.func23 (by kernel_rfl) (by kernel_rfl) ?_),
 (fun q0=>Zf Xa (Zd q0 Zk) mixed {loops:=[(0,[.reg 1 (.dat (.int .i64)),.reg 5 (.dat (.int .i64)),.ent 0 (nat_lit 86) (Dp.pair (Dp.ol (2:Go.TypeId) (Dp.flat (Ty.int IntKind.i64))) (Dp.pair (Dp.ol (2:Go.TypeId) (Dp.flat (Ty.int IntKind.i64))) (Dp.pair (Dp.ol (2:Go.TypeId) (Dp.flat (Ty.int IntKind.i64))) (Dp.pair (Dp.ol (2:Go.TypeId) (Dp.flat (Ty.int IntKind.i64))) (Dp.flat Ty.unit)))))])]} (fn:=Tryz.f70) Tryz.func70 (by kernel_rfl) (by kernel_rfl) ?_),
 (fun q0=>Zf Zq (Zd q0 Zk) mixed {loops:=[(0,[.reg 1 (.dat (.int .i64)),.reg 5 (.dat (.int .i64))])]} (fn:=Tryz.f45) Tryz.func45 (by kernel_rfl) (by kernel_rfl) ?_),
 (Zf Zq Zk mixed {} (fn:=Tryz.f108) Tryz.func108 (by kernel_rfl) (by kernel_rfl) ?_),
 (fun q0 q1 q2=>Zf Zq (Zd q0 (Zd q1 (Zd q2 Zk))) mixed {} (fn:=Tryz.f43) Tryz.func43 (by kernel_rfl) (by kernel_rfl) ?_),
 (fun q0=>Zf Zq (Zd q0 Zk) mixed {} (fn:=Tryz.f107) Tryz.func107 (by kernel_rfl) (by kernel_rfl) ?_),
 (fun q0=>Zf Zq (Zd q0 Zk) mixed {} (fn:=Tryz.f42) Tryz.func42 (by kernel_rfl) (by kernel_rfl) ?_),
 (fun q0=>Zf Zq (Zd q0 Zk) mixed {loops:=[(0,[.reg 1 (.dat (.int .i64)),.reg 5 (.dat (.int .i64))])]} (fn:=Tryz.f336) Tryz.func336 (by kernel_rfl) (by kernel_rfl) ?_),
 (fun q0=>Zf Zq (Zd q0 Zk) mixed {} (fn:=Tryz.f203) Tryz.func203 (by kernel_rfl) (by kernel_rfl) ?_),
 (fun q0=>Zf Xa (Zd q0 Zk) mixed {loops:=[(0,[.reg 4 (.dat (.int .i64)),.ent 0 (nat_lit 219) Zb9])]} (fn:=Tryz.f115) Tryz.func115 (by kernel_rfl) (by kernel_rfl) ?_),
 (fun q0=>Zf Zq (Zd q0 Zk) mixed {loops:=[(0,[.reg 4 (.dat (.int .i64)),.ent 0 (nat_lit 246) (.flat ZAK.ety)])]} (fn:=Tryz.f117) Tryz.func117 (by kernel_rfl) (by kernel_rfl) ?_),
 (Zf Zq Zk mixed {} (fn:=Tryz.f207) Tryz.func207 (by kernel_rfl) (by kernel_rfl) ?_),
 (fun q0=>Zf Zq (Zd q0 Zk) mixed {} (fn:=Tryz.f367) Tryz.func367 (by kernel_rfl) (by kernel_rfl) ?_),
 (fun q0=>Zf Zq (Zd q0 Zk) mixed {} (fn:=Tryz.f289) Tryz.func289 (by kernel_rfl) (by kernel_rfl) ?_),
 (fun q0=>Zf Zq (Zd q0 Zk) mixed {loops:=[(0,[.reg 8 (.dat (.int .i64))])]} (fn:=Tryz.f371) Tryz.func371 (by kernel_rfl) (by kernel_rfl) ?_),
 (fun q0 q1 q2=>Zf Zq (Zd q0 (Zd q1 (Zd q2 Zk))) mixed {loops:=[(0,[.reg 3 (.dat (.int .i64))])],draws:=[(6,[0,1,0,7,15,0,32,0,224,480,1023,2047],.op 0 (.op 1 (.op 2 (.op 3 (.op 4 (.op 5 (.op 6 (.op 7 (.alt 8 (.op 9 (.alt 10 (.op 11 (.done)) (.done))) (.done))))))))))]} (fn:=Tryz.f91) Tryz.func91 (by kernel_rfl) (by kernel_rfl) ?_),
 (fun q1 q2 q4 q3 q0=>Zf Zq (Zd q1 (Zd q2 (Zd q4 (Zd q3 (Zd q0 Zk))))) mixed {loops:=[(0,[.reg 5 (.dat (.int .i64))]),(2,[.reg 7 (.dat (.int .i64))]),(5,[.reg 9 (.dat (.int .i64))])],draws:=[(13,[0,1,0,7,15,31,0,64,255,511,1023,2047,1023,8191,16383,32767,1023,66559,262143,524287,1048575,2097151,4194303,2097151,16777215,33554431,67108863,2097151,136314879,536870911,1073741823],.op 0 (.op 1 (.op 2 (.op 3 (.op 4 (.op 5 (.op 6 (.op 7 (.op 8 (.op 9 (.op 10 (.op 11 (.op 12 (.op 13 (.op 14 (.op 15 (.op 16 (.op 17 (.op 18 (.op 19 (.op 20 (.op 21 (.op 22 (.op 23 (.op 24 (.op 25 (.op 26 (.op 27 (.op 28 (.op 29 (.op 30 (.done)))))))))))))))))))))))))))))))),(25,[0,1,3,7,15,31,63,127,255,511,1023,2047,4095,511,8703,25087,57855,131071,262143,524287,1048575,2097151,4194303,8388607,16777215,33554431],.op 0 (.op 1 (.op 2 (.op 3 (.op 4 (.op 5 (.op 6 (.op 7 (.op 8 (.op 9 (.op 10 (.op 11 (.op 12 (.op 13 (.op 14 (.op 15 (.op 16 (.op 17 (.op 18 (.op 19 (.op 20 (.op 21 (.op 22 (.op 23 (.op 24 (.op 25 (.done)))))))))))))))))))))))))))]} (fn:=Tryz.f287) Tryz.func287 (by kernel_rfl) (by kernel_rfl) ?_),
 (fun q0=>Zf Zq (Zd q0 Zk) mixed {loops:=[(0,[.reg 3 (.dat (.int .i64))]),(2,[.reg 4 (.dat (.int .i64))])],draws:=[(9,[0,1,0,7,15,31,0,64,0,448,960,1984,4095],.op 0 (.op 1 (.op 2 (.op 3 (.op 4 (.op 5 (.op 6 (.op 7 (.op 8 (.op 9 (.op 10 (.op 11 (.op 12 (.done))))))))))))))]} (fn:=Tryz.f234) Tryz.func234 (by kernel_rfl) (by kernel_rfl) ?_),
 (Zf Zq Zk mixed {} (fn:=Tryz.f201) Tryz.func201 (by kernel_rfl) (by kernel_rfl) ?_),
 (Zf Zq Zk mixed {loops:=[(0,[.reg 3 (.dat (.int .i64))])]} (fn:=Tryz.f237) Tryz.func237 (by kernel_rfl) (by kernel_rfl) ?_),
 (fun q0=>Zf Zq (Zd q0 Zk) mixed {loops:=[(0,[.reg 6 (.dat (.int .i64))]),(2,[.reg 8 (.dat (.int .i64))]),(4,[.reg 9 (.dat (.int .i64))])],draws:=[(6,[0,1,0,4,12,28,63,127,255,511,1023,2047,511,4607,511,16895,61951,127487,258559,520703,1048575,2097151],.op 0 (.op 1 (.op 2 (.op 3 (.op 4 (.op 5 (.alt 6 (.op 7 (.op 8 (.op 9 (.op 10 (.op 11 (.op 12 (.op 13 (.op 14 (.op 15 (.op 16 (.op 17 (.op 18 (.op 19 (.op 20 (.op 21 (.done)))))))))))))))) (.done))))))))]} (fn:=Tryz.f235) Tryz.func235 (by kernel_rfl) (by kernel_rfl) ?_),
 (Zf Zq Zk mixed {loops:=[(0,[.reg 3 (.own (.ol 244 (.flat (ZfE)))),.reg 4 (.dat (.int .i64))]),(2,[.reg 3 (.own (.ol 244 (.flat (ZfE)))),.reg 6 (.dat (.int .i64))]),(4,[.reg 3 (.own (.ol 244 (.flat (ZfE)))),.reg 7 (.dat (.int .i64))])],draws:=[(13,[0,0,0,4,0,28,60,124,0,256,0,1792,3840,7936,16128,32766,65534,131071,262143],.op 0 (.op 1 (.op 2 (.op 3 (.op 4 (.op 5 (.op 6 (.op 7 (.op 8 (.op 9 (.op 10 (.op 11 (.op 12 (.op 13 (.op 14 (.op 15 (.alt 16 (.alt 17 (.op 18 (.done)) (.done)) (.done))))))))))))))))))]} (fn:=Tryz.f94) Tryz.func94 (by kernel_rfl) (by kernel_rfl) ?_),
 (fun q0=>Zf Zq (Zd q0 Zk) mixed {loops:=[(0,[.reg 3 (.own (.ol 2 (.flat (.int .i64)))),.reg 4 (.dat (.int .i64))])]} (fn:=Tryz.f50) Tryz.func50 (by kernel_rfl) (by kernel_rfl) ?_)⟩
 all_goals
  intro a
  repeat rcases a with ⟨_,a⟩
  rintro K ⟨r,h,hK⟩
  repeat'
    conv=>whnf
    first
    | with_reducible refine ZvK ?_
    | with_reducible refine ZeS (by assumption) (by assumption) (by assumption) ?_
    | with_reducible refine QO (by assumption) ?_
    | with_reducible refine ZeX (by assumption) ?_
    | (with_reducible refine shD ?_);first | refine ZsV h (fun h=>?_) (fun h=>?_) | refine Zvc h (fun h=>?_) (fun h=>?_)
    | (with_reducible refine Zvw ?_);first | refine Zzx ?_ | refine Zs3 ?_
    | (with_reducible refine ZAC ?_);first | refine ZuI h (fun h=>?_) (fun h=>?_) | refine Zvv h (fun h=>?_) (fun h=>?_)
    | (with_reducible refine Zva ?_);(refine ⟨fun hd=>?_,?_⟩)<;>try subst hd
    | (with_reducible refine ZAt ?_);first | with_reducible refine Zc5 h (fun x hb h=>?_) | refine ZeX (by assumption) ?_ | with_reducible refine pG h (fun hp h=>?_) | with_reducible refine pA h (fun x ha hb hx h=>?_) | with_reducible refine pB h (fun x hb h=>?_) | refine Zc5 h (fun x hb h=>?_)
    | (with_reducible refine ZAA ?_);first | with_reducible refine vAt h (fun x ha hb hx h=>?_) | refine ZeS (by assumption) (by assumption) (by assumption) ?_ | with_reducible refine pG h (fun hp h=>?_) | with_reducible refine pA h (fun x ha hb hx h=>?_) | with_reducible refine pB h (fun x hb h=>?_) | refine vAt h (fun x ha hb hx h=>?_)
    | (with_reducible refine ZvL ?_);first | with_reducible refine Zok h (fun x hb h=>?_) | refine QO (by assumption) ?_ | with_reducible refine pG h (fun hp h=>?_) | with_reducible refine pA h (fun x ha hb hx h=>?_) | with_reducible refine pB h (fun x hb h=>?_) | refine Zok h (fun x hb h=>?_)
    | with_reducible refine ZAF ?_
    | (with_reducible refine ZqE ?_);refine ZqA h hK ?_;clear h hK;intro I μ v r h hK;(repeat rcases v with ⟨_,v⟩);(try dsimp only at h)
    | with_reducible refine ⟨by assumption,?_⟩
    | with_reducible refine orL ?_
    | with_reducible refine .inr ?_
    | (with_reducible refine ZvB ?_);first | refine ⟨?_,True.intro⟩ | refine ⟨?_,?_⟩
    | refine ⟨by kernel_rfl,?_⟩
    | refine ⟨by decide,?_⟩
    | with_reducible refine ZpS h (fun hp h=>?_)
    | intro fp
    | exact trivial
    | with_reducible exact Zvu h
    | (refine pS h (fun e=>?_));subst e;(repeat (first | exact hK | exact ⟨⟨rfl,rfl⟩,hK.1 _ rfl⟩ | (refine pR hK (fun e hK=>?_));subst e));done
    | refine ZpS h (fun hp h=>?_)
    | refine ⟨by assumption,?_⟩
    | with_reducible refine pG h (fun hp h=>?_) | with_reducible refine pA h (fun x ha hb hx h=>?_) | with_reducible refine pB h (fun x hb h=>?_)
    | refine pG h (fun hp h=>?_)
    | fail
end Go.Proofs.YthkhedimjmkifaaGreatDoor
