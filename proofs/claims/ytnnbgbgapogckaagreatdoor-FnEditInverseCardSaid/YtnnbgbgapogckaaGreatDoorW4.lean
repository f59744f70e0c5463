/-
  The functions keep their contracts, if what they call does. Printed by program.
-/
import Derived.Test.YtnnbgbgapogckaaGreatDoorM
import Derived.KernelRfl
namespace Go.Proofs.YtnnbgbgapogckaaGreatDoor
open Go Go.Sx
set_option maxRecDepth 100000
set_option maxHeartbeats 6400000
set_option linter.unusedVariables false
set_option linter.unusedSimpArgs false
structure Ws4:Prop where
 w154:Sq 83 Zy7→Sq 121 c154
 w94:Sq 292 c75→Sq 293 c88→Sq 294 c91→Sq 295 c93→Sq 278 c92→Sq 159 c68→Sq 275 c94
 w92:Sq 274 c70→Sq 278 c92
 w106:Sq 188 c73→Sq 154 ZAY
 w113:Sq 209 c107→Sq 159 c68→Sq 189 ZA1→Sq 155 ZA2
 w134:Sq 247 ZBc→Sq 213 ZBd
 w121:Sq 82 c117→Sq 83 Zy7→Sq 84 ZAK→Sq 31 ZAL
 w114:Sq 157 ZA3
 w143:Sq 134 c141→Sq 234 c143
 w131:Sq 211 c131
 w107:Sq 209 c107
 w147:Sq 237 ZBk
 w146:Sq 236 c146
 w87:Sq 323 c86→Sq 305 c87
 w112:Sq 231 ZA0→Sq 189 ZA1
 w116:Sq 218 ZA4→Sq 156 c116
 w161:Sq 204 c160→Sq 203 ZBn
 w111:Sq 217 ZAZ→Sq 231 ZA0
 w84:Sq 308 c84
 w65:Sq 77 c35→Sq 91 c56→Sq 39 c63→Sq 36 c65
 w29:Sq 260 c22→Sq 147 c20→Sq 114 c21→Sq 261 c27→Sq 262 c28→Sq 223 c29
 w45:Sq 205 c44→Sq 149 c45
 w1:Sq 42 c1
 w23:Sq 114 c21→Sq 327 c23
 w27:Sq 114 c21→Sq 285 c26→Sq 261 c27
 w10:Sq 238 c8→Sq 239 c9→Sq 197 c10
 w9:Sq 44 c2→Sq 264 c7→Sq 239 c9
 w51:Sq 280 c50→Sq 253 c51
 w54:Sq 161 c16→Sq 167 c54
 w13:Sq 96 c13
 w18:Sq 197 c10→Sq 198 c12→Sq 139 c14→Sq 164 c17→Sq 125 c18
 w55:Sq 161 c16→Sq 168 c55
 w39:Sq 78 c39
 w37:Sq 96 c13→Sq 44 c2→Sq 162 c37
set_option maxHeartbeats 100000000 in
theorem ws4:Ws4:=by
 refine ⟨(fun q0=>Zm VX (Zg q0 Zu) mixed {loops:=[(0,[.reg 13 (.dat Iq),.ent 4 (nat_lit 58) (Dp.pair (Dp.ol (2:Go.TypeId) (Dp.flat (Ty.int IntKind.i64))) (Dp.pair (Dp.ol (2:Go.TypeId) (Dp.flat (Ty.int IntKind.i64))) (Dp.pair (Dp.ol (2:Go.TypeId) (Dp.flat (Ty.int IntKind.i64))) (Dp.pair (Dp.ol (2:Go.TypeId) (Dp.flat (Ty.int IntKind.i64))) (Dp.flat Ty.unit)))))]),(2,[.reg 30 (.dat Iq),.ent 4 (nat_lit 58) (Dp.pair (Dp.ol (2:Go.TypeId) (Dp.flat (Ty.int IntKind.i64))) (Dp.pair (Dp.ol (2:Go.TypeId) (Dp.flat (Ty.int IntKind.i64))) (Dp.pair (Dp.ol (2:Go.TypeId) (Dp.flat (Ty.int IntKind.i64))) (Dp.pair (Dp.ol (2:Go.TypeId) (Dp.flat (Ty.int IntKind.i64))) (Dp.flat Ty.unit)))))])],draws:=[(9,[0,1,3,7,0,16,63,127],.op 0 (.op 1 (.op 2 (.op 3 (.op 4 (.op 5 (.op 6 (.op 7 (.done))))))))),(10,[0,0,2,6,14,0,0,64,0,256,960,2016,4064,8190,16383,32767,65535],.op 0 (.op 1 (.op 2 (.op 3 (.op 5 (.op 6 (.op 7 (.op 8 (.op 9 (.op 10 (.alt 4 (.alt 11 (.alt 12 (.alt 13 (.op 14 (.op 15 (.alt 16 (.done) (.done)))) (.done)) (.done)) (.done)) (.alt 11 (.alt 4 (.alt 12 (.alt 13 (.op 14 (.op 15 (.alt 16 (.done) (.done)))) (.done)) (.done)) (.alt 12 (.alt 4 (.alt 13 (.op 14 (.op 15 (.alt 16 (.done) (.done)))) (.done)) (.done)) (.done))) (.done)))))))))))))]} Tryz.func121 (hvc:=?_)),
 (fun q4 q3 q2 q0 q1 q5=>Zm ZL (Zg q4 (Zg q3 (Zg q2 (Zg q0 (Zg q1 (Zg q5 Zu)))))) mixed {draws:=[(2,[0,1,3,7,15,31,63,127,255,511,1023,2047,4095,8191,16383,32767,65535,32767,163839,524287,1048575,2097151,4194303,8388607,16777215,33554431,67108863,134217727,134217727,402653183,1073741823,2147483647,4294967295,8589934591,17179869183,8589934591,42949672959,137438953471,274877906943,549755813887],.op 0 (.op 1 (.op 2 (.op 3 (.op 4 (.op 5 (.op 6 (.op 7 (.op 8 (.op 9 (.op 10 (.op 11 (.alt 12 (.op 13 (.op 14 (.op 15 (.op 16 (.op 17 (.alt 18 (.op 19 (.op 20 (.op 21 (.op 22 (.op 23 (.op 24 (.op 25 (.op 26 (.op 27 (.op 28 (.op 29 (.alt 30 (.op 31 (.op 32 (.op 33 (.op 34 (.op 35 (.op 36 (.op 37 (.op 38 (.op 39 (.done)))))))))) (.done))))))))))))) (.done))))))) (.done)))))))))))))),(3,[0,1,3,7,15,31,63,127,255,511,1023,2047,4095,2047,10239,32767,65535,131071,262143,262143,786431,2097151,4194303,8388607],.op 0 (.op 1 (.alt 2 (.op 3 (.op 4 (.op 5 (.op 6 (.alt 7 (.op 8 (.op 9 (.op 10 (.op 11 (.op 12 (.op 13 (.alt 14 (.op 15 (.op 16 (.op 17 (.op 18 (.op 19 (.op 20 (.alt 21 (.op 22 (.op 23 (.done))) (.done)))))))) (.done)))))))) (.done)))))) (.done))))]} Tryz.func275 (hvc:=?_)),
 (fun q0=>Zm ZL (Zg q0 Zu) mixed {} Tryz.func278 (hvc:=?_)),
 (fun q0=>Zm ZL (Zg q0 Zu) mixed {loops:=[(0,[.reg 3 (.own (.ol 9 (.flat (.str)))),.reg 12 (.dat Iq)]),(2,[.reg 4 (.own (.ol 9 (.flat (.str)))),.reg 25 (.dat Iq)])]} Tryz.func154 (hvc:=?_)),
 (fun q1 q2 q0=>Zm ZL (Zg q1 (Zg q2 (Zg q0 Zu))) mixed {draws:=[(1,[0,1,0,4,12,28,63,127,255,511,1023,255,2303,255,8447,30975,63743,129279,260351,524287,1048575,2097151,4194303,8388607,4194303,33554431,67108863,134217727,268435455],.op 0 (.op 1 (.op 2 (.op 3 (.alt 4 (.op 5 (.alt 6 (.op 7 (.op 8 (.op 9 (.op 10 (.op 11 (.op 12 (.op 13 (.op 14 (.op 15 (.op 16 (.op 17 (.op 18 (.op 19 (.op 20 (.op 21 (.op 22 (.op 23 (.op 24 (.alt 25 (.op 26 (.op 27 (.op 28 (.done)))) (.done)))))))))))))))))))) (.done))) (.done))))))]} Tryz.func155 (hvc:=?_)),
 (fun q0=>Zm ZL (Zg q0 Zu) mixed {} Tryz.func213 (hvc:=?_)),
 (fun q1 q0 q2=>Zm ZL (Zg q1 (Zg q0 (Zg q2 Zu))) mixed {loops:=[(0,[.reg 32 (.dat Iq),.ent 1 (nat_lit 2) (.flat Znz.ety)]),(2,[.reg 50 (.dat Iq)])],draws:=[(13,[0,0,0,6,14,31,63],.op 0 (.op 1 (.op 2 (.op 3 (.op 4 (.alt 5 (.op 6 (.done)) (.done)))))))]} Tryz.func31 (hvc:=?_)),
 (Zm ZL Zu mixed {} Tryz.func157 (hvc:=?_)),
 (fun q0=>Zm VX (Zg q0 Zu) mixed {loops:=[(0,[.reg 3 (.own (.ol 322 (ZeG))),.reg 8 (.dat Iq)])],draws:=[(5,[0,0,2,6,0,16,62,0,128,510,1022,2046,4095,8191],.op 0 (.op 1 (.op 2 (.op 4 (.op 5 (.op 7 (.op 8 (.alt 3 (.alt 6 (.alt 9 (.op 10 (.alt 11 (.alt 12 (.op 13 (.done)) (.done)) (.done))) (.done)) (.done)) (.done)))))))))]} Tryz.func234 (hvc:=?_)),
 (Zm ZL Zu mixed {} Tryz.func211 (hvc:=?_)),
 (Zm ZL Zu mixed {} Tryz.func209 (hvc:=?_)),
 (Zm ZL Zu mixed {} Tryz.func237 (hvc:=?_)),
 (Zm ZL Zu mixed {} Tryz.func236 (hvc:=?_)),
 (fun q0=>Zm ZL (Zg q0 Zu) mixed {} Tryz.func305 (hvc:=?_)),
 (fun q0=>Zm ZL (Zg q0 Zu) mixed {} Tryz.func189 (hvc:=?_)),
 (fun q0=>Zm ZL (Zg q0 Zu) mixed {} Tryz.func156 (hvc:=?_)),
 (fun q0=>Zm ZL (Zg q0 Zu) mixed {loops:=[(0,[.reg 8 (.dat Iq)])]} Tryz.func203 (hvc:=?_)),
 (fun q0=>Zm ZL (Zg q0 Zu) mixed {loops:=[(0,[.reg 8 (.dat Iq)])]} Tryz.func231 (hvc:=?_)),
 (Zm ZL Zu mixed {loops:=[(0,[.reg 3 (.dat Iq),.reg 4 (.dat Iq)])]} Tryz.func308 (hvc:=?_)),
 (fun q1 q2 q0=>Zm VX (Zg q1 (Zg q2 (Zg q0 Zu))) mixed {loops:=[(0,[.reg 8 (.dat Iq),.cello 1004 0 (.ol 216 (ZiT)),.cello 1004 1 (.ol 193 (Zbr)),.cello 1004 2 (.ol 9 (.flat (.str))),.cello 1004 3 (.ol 237 (.flat (ZkZ))),.cello 1004 4 (.ol 58 (ZgI)),.cello 1007 0 (.ol (nat_lit 216) (Dp.pair (Dp.flat Ty.str) (Dp.pair (Dp.flat (Ty.int IntKind.i64)) (Dp.pair (Dp.ol (255:Go.TypeId) (Dp.flat Zl9)) (Dp.pair (Dp.ol (219:Go.TypeId) ZmF) (Dp.pair (Dp.ol (2:Go.TypeId) (Dp.flat (Ty.int IntKind.i64))) (Dp.pair (Dp.flat (Ty.int IntKind.i64)) (Dp.pair (Dp.flat (Ty.int IntKind.i64)) (Dp.flat Ty.unit))))))))),.cello 1007 1 (.ol (nat_lit 193) (Dp.pair (Dp.flat Ty.str) (Dp.pair (Dp.flat (Ty.int IntKind.i64)) (Dp.pair (Dp.ol (2:Go.TypeId) (Dp.flat (Ty.int IntKind.i64))) (Dp.flat Ty.unit))))),.cello 1007 2 (.ol (nat_lit 9) (.flat Ty.str)),.cello 1007 3 (.ol (nat_lit 237) (.flat ZkZ)),.cello 1007 4 (.ol (nat_lit 58) (Dp.pair (Dp.ol (2:Go.TypeId) (Dp.flat (Ty.int IntKind.i64))) (Dp.pair (Dp.ol (2:Go.TypeId) (Dp.flat (Ty.int IntKind.i64))) (Dp.pair (Dp.ol (2:Go.TypeId) (Dp.flat (Ty.int IntKind.i64))) (Dp.pair (Dp.ol (2:Go.TypeId) (Dp.flat (Ty.int IntKind.i64))) (Dp.flat Ty.unit))))))])],draws:=[(9,[0,0,0,6,14,31,63,127,127,0,767,2047],.op 0 (.op 1 (.op 2 (.op 3 (.op 4 (.alt 5 (.op 6 (.op 7 (.op 8 (.alt 9 (.alt 10 (.op 11 (.done)) (.done)) (.done))))) (.alt 9 (.alt 5 (.op 6 (.op 7 (.op 8 (.alt 10 (.op 11 (.done)) (.done))))) (.done)) (.done))))))))]} Tryz.func36 (hvc:=?_)),
 (fun q1 q2 q4 q3 q0=>Zm ZL (Zg q1 (Zg q2 (Zg q4 (Zg q3 (Zg q0 Zu))))) mixed {loops:=[(0,[.reg 5 (.dat Iq)]),(2,[.reg 7 (.dat Iq)]),(5,[.reg 9 (.dat Iq)])],draws:=[(13,[0,1,0,7,15,31,0,64,255,511,1023,2047,1023,8191,16383,32767,1023,66559,262143,524287,1048575,2097151,4194303,2097151,16777215,33554431,67108863,2097151,136314879,536870911,1073741823],.op 0 (.op 1 (.op 2 (.op 3 (.op 4 (.op 5 (.op 6 (.op 7 (.op 8 (.op 9 (.op 10 (.op 11 (.op 12 (.op 13 (.op 14 (.op 15 (.op 16 (.op 17 (.op 18 (.op 19 (.op 20 (.op 21 (.op 22 (.op 23 (.op 24 (.op 25 (.op 26 (.op 27 (.op 28 (.op 29 (.op 30 (.done)))))))))))))))))))))))))))))))),(25,[0,1,3,7,15,31,63,127,255,511,1023,2047,4095,511,8703,25087,57855,131071,262143,524287,1048575,2097151,4194303,8388607,16777215,33554431],.op 0 (.op 1 (.op 2 (.op 3 (.op 4 (.op 5 (.op 6 (.op 7 (.op 8 (.op 9 (.op 10 (.op 11 (.op 12 (.op 13 (.op 14 (.op 15 (.op 16 (.op 17 (.op 18 (.op 19 (.op 20 (.op 21 (.op 22 (.op 23 (.op 24 (.op 25 (.done)))))))))))))))))))))))))))]} Tryz.func223 (hvc:=?_)),
 (fun q0=>Zm ZL (Zg q0 Zu) mixed {} Tryz.func149 (hvc:=?_)),
 (Zm ZL Zu mixed {loops:=[(0,[.reg 4 (.dat Iq),.cell 1007 2 Iq])],draws:=[(5,[0,0,2,6,14,30,0,0,192,448,960,2046,4094,8191,16383,32767],.op 0 (.op 1 (.op 2 (.op 3 (.op 4 (.op 5 (.op 6 (.op 7 (.op 8 (.op 9 (.alt 10 (.op 11 (.op 12 (.op 13 (.op 14 (.alt 15 (.done) (.done)))))) (.done))))))))))))]} Tryz.func42 (hvc:=?_)),
 (fun q0=>Zm ZL (Zg q0 Zu) mixed {loops:=[(0,[.reg 3 (.dat Iq)])],draws:=[(4,[0,0,3,7,15,31,63,127,255,511,1023,1023,3071,8191,16383,1023,1023,99327,230399,524287,1048575,2097151],.op 0 (.op 1 (.op 2 (.op 3 (.alt 4 (.op 5 (.op 6 (.op 7 (.op 8 (.op 9 (.op 10 (.op 11 (.op 12 (.op 13 (.op 14 (.op 15 (.op 16 (.op 17 (.op 18 (.op 19 (.op 20 (.op 21 (.done)))))))))))))))))) (.done))))))]} Tryz.func327 (hvc:=?_)),
 (fun q1 q0=>Zm ZL (Zg q1 (Zg q0 Zu)) mixed {} Tryz.func261 (hvc:=?_)),
 (fun q1 q0=>Zm VX (Zg q1 (Zg q0 Zu)) mixed {} Tryz.func197 (hvc:=?_)),
 (fun q1 q0=>Zm VX (Zg q1 (Zg q0 Zu)) mixed {} Tryz.func239 (hvc:=?_)),
 (fun q0=>Zm VX (Zg q0 Zu) mixed {loops:=[(0,[.reg 3 (.own (.ol 322 (ZeG))),.reg 4 (.dat Iq)])]} Tryz.func253 (hvc:=?_)),
 (fun q0=>Zm VX (Zg q0 Zu) mixed {loops:=[(0,[.reg 4 (.dat Iq),.cello 1003 0 (.ol 193 (Zbr))])],draws:=[(1,[0,0,2,7,0,0,32,127,255,0,1023],.op 1 (.op 2 (.op 5 (.ld 6 (.alt 0 (.alt 3 (.alt 4 (.alt 7 (.op 8 (.alt 9 (.alt 10 (.done) (.done)) (.done))) (.alt 9 (.alt 7 (.op 8 (.alt 10 (.done) (.done))) (.done)) (.done))) (.alt 9 (.alt 4 (.alt 7 (.op 8 (.alt 10 (.done) (.done))) (.done)) (.done)) (.done))) (.alt 4 (.alt 3 (.alt 7 (.op 8 (.alt 9 (.alt 10 (.done) (.done)) (.done))) (.alt 9 (.alt 7 (.op 8 (.alt 10 (.done) (.done))) (.done)) (.done))) (.alt 9 (.alt 3 (.alt 7 (.op 8 (.alt 10 (.done) (.done))) (.done)) (.done)) (.done))) (.alt 9 (.alt 3 (.alt 4 (.alt 7 (.op 8 (.alt 10 (.done) (.done))) (.done)) (.done)) (.alt 4 (.alt 3 (.alt 7 (.op 8 (.alt 10 (.done) (.done))) (.done)) (.done)) (.done))) (.done)))) (.alt 4 (.alt 0 (.alt 3 (.alt 7 (.op 8 (.alt 9 (.alt 10 (.done) (.done)) (.done))) (.alt 9 (.alt 7 (.op 8 (.alt 10 (.done) (.done))) (.done)) (.done))) (.alt 9 (.alt 3 (.alt 7 (.op 8 (.alt 10 (.done) (.done))) (.done)) (.done)) (.done))) (.alt 9 (.alt 0 (.alt 3 (.alt 7 (.op 8 (.alt 10 (.done) (.done))) (.done)) (.done)) (.done)) (.done))) (.alt 9 (.alt 0 (.alt 3 (.alt 4 (.alt 7 (.op 8 (.alt 10 (.done) (.done))) (.done)) (.done)) (.alt 4 (.alt 3 (.alt 7 (.op 8 (.alt 10 (.done) (.done))) (.done)) (.done)) (.done))) (.alt 4 (.alt 0 (.alt 3 (.alt 7 (.op 8 (.alt 10 (.done) (.done))) (.done)) (.done)) (.done)) (.done))) (.done))))))))]} Tryz.func167 (hvc:=?_)),
 (Zm ZL Zu mixed {loops:=[(0,[.reg 3 (.own (.ol 227 (.flat (JJ)))),.reg 4 (.dat Iq)]),(2,[.reg 3 (.own (.ol 227 (.flat (JJ)))),.reg 6 (.dat Iq)]),(4,[.reg 3 (.own (.ol 227 (.flat (JJ)))),.reg 7 (.dat Iq)])],draws:=[(13,[0,0,0,4,0,28,60,124,0,256,0,1792,3840,7936,16128,32766,65534,131071,262143],.op 0 (.op 1 (.op 2 (.op 3 (.op 4 (.op 5 (.op 6 (.op 7 (.op 8 (.op 9 (.op 10 (.op 11 (.op 12 (.op 13 (.op 14 (.op 15 (.alt 16 (.alt 17 (.op 18 (.done)) (.done)) (.done))))))))))))))))))]} Tryz.func96 (hvc:=?_)),
 (fun q2 q3 q1 q0=>Zm VX (Zg q2 (Zg q3 (Zg q1 (Zg q0 Zu)))) mixed {loops:=[(0,[.reg 9 (.own (.ol 58 (ZgI))),.reg 10 (.dat Iq),.cell 0 0 (.sl (.int .u8)),.cell 0 1 Iq,.cell 0 2 Iq])]} Tryz.func125 (hvc:=?_)),
 (fun q0=>Zm ZL (Zg q0 Zu) mixed {draws:=[(1,[0,1,3,0,8,31,0,64,255,0,512,2047,4095,8191],.op 0 (.op 1 (.op 3 (.op 4 (.op 6 (.op 7 (.op 9 (.op 10 (.alt 2 (.alt 5 (.alt 8 (.alt 11 (.op 12 (.alt 13 (.done) (.done))) (.done)) (.done)) (.done)) (.done))))))))))]} Tryz.func168 (hvc:=?_)),
 (Zm ZL Zu mixed {} Tryz.func78 (hvc:=?_)),
 (fun q0 q1=>Zm ZL (Zg q0 (Zg q1 Zu)) mixed {loops:=[(0,[.reg 6 (.dat Iq),.reg 7 (.dat Iq)])]} Tryz.func162 (hvc:=?_))⟩
 all_goals
  intro a
  repeat rcases a with ⟨_,a⟩
  rintro K ⟨r,h,hK⟩
  repeat'
    conv=>whnf
    first
    | with_reducible refine ZoK ?_
    | with_reducible refine ZnK (by assumption) (by assumption) (by assumption) ?_
    | with_reducible refine Zh (by assumption) ?_
    | with_reducible refine ZnS (by assumption) ?_
    | (with_reducible refine shD ?_);first | refine ZG h (fun h=>?_) (fun h=>?_) | refine ZcV h (fun h=>?_) (fun h=>?_)
    | (with_reducible refine ZoO ?_);first | refine Zj4 ?_ | refine Yc ?_
    | (with_reducible refine Zo6 ?_);first | refine Qn h (fun h=>?_) (fun h=>?_) | refine Zmk h (fun h=>?_) (fun h=>?_)
    | (with_reducible refine ZoN ?_);(refine ⟨fun hd=>?_,?_⟩)<;>try subst hd
    | (with_reducible refine Zo8 ?_);first | with_reducible refine Ze h (fun x hb h=>?_) | refine ZnS (by assumption) ?_ | with_reducible refine pG h (fun hp h=>?_) | with_reducible refine pA h (fun x ha hb hx h=>?_) | with_reducible refine pB h (fun x hb h=>?_) | refine Ze h (fun x hb h=>?_)
    | (with_reducible refine Zo5 ?_);first | with_reducible refine vAt h (fun x ha hb hx h=>?_) | refine ZnK (by assumption) (by assumption) (by assumption) ?_ | with_reducible refine pG h (fun hp h=>?_) | with_reducible refine pA h (fun x ha hb hx h=>?_) | with_reducible refine pB h (fun x hb h=>?_) | refine vAt h (fun x ha hb hx h=>?_)
    | (with_reducible refine ZoM ?_);first | with_reducible refine ZoU h (fun x hb h=>?_) | refine Zh (by assumption) ?_ | with_reducible refine pG h (fun hp h=>?_) | with_reducible refine pA h (fun x ha hb hx h=>?_) | with_reducible refine pB h (fun x hb h=>?_) | refine ZoU h (fun x hb h=>?_)
    | with_reducible refine Zo7 ?_
    | (with_reducible refine Zot ?_);refine ZoC h hK ?_;clear h hK;intro I μ v r h hK;(repeat rcases v with ⟨_,v⟩);(try dsimp only at h)
    | with_reducible refine ⟨by assumption,?_⟩
    | with_reducible refine orL ?_
    | with_reducible refine .inr ?_
    | (with_reducible refine ZoP ?_);first | refine ⟨?_,True.intro⟩ | refine ⟨?_,?_⟩
    | refine ⟨by kernel_rfl,?_⟩
    | refine ⟨by decide,?_⟩
    | with_reducible refine Yk h (fun hp h=>?_)
    | intro fp
    | exact trivial
    | with_reducible exact ZoJ h
    | (refine pS h (fun e=>?_));subst e;(repeat (first | exact hK | exact ⟨⟨rfl,rfl⟩,hK.1 _ rfl⟩ | (refine pR hK (fun e hK=>?_));subst e));done
    | refine Yk h (fun hp h=>?_)
    | refine ⟨by assumption,?_⟩
    | with_reducible refine pG h (fun hp h=>?_) | with_reducible refine pA h (fun x ha hb hx h=>?_) | with_reducible refine pB h (fun x hb h=>?_)
    | refine pG h (fun hp h=>?_)
    | fail
theorem ZCv (q0:Sq 232 ZBh) (q2:Sq 134 c141) (q1:Sq 233 ZBi) (q3:Sq 234 c143):Sq 195 ZBj:=by
 refine Zm VX (Zg q0 (Zg q2 (Zg q1 (Zg q3 Zu)))) mixed {loops:=[(0,[.reg 11 (.dat Iq),.cello 1003 0 (.ol 216 (ZiT))]),(2,[.reg 30 (.dat Iq),.splt 7 219 ZmF])],draws:=[(5,[0,1,3,0,8,31,31,127,255,511],.op 0 (.op 1 (.op 3 (.op 4 (.alt 2 (.op 6 (.alt 5 (.alt 7 (.op 8 (.alt 9 (.done) (.done))) (.done)) (.done))) (.done)))))),(10,[0,1,0,0,8,0,0,64,192,0,512,1984,4039,8135,16327,32767,65535,131071],.op 0 (.op 1 (.op 2 (.op 3 (.op 5 (.op 6 (.op 7 (.op 9 (.op 10 (.alt 4 (.alt 8 (.alt 11 (.op 12 (.op 13 (.alt 14 (.op 15 (.op 16 (.alt 17 (.done) (.done)))) (.done)))) (.done)) (.done)) (.alt 8 (.alt 4 (.alt 11 (.op 12 (.op 13 (.alt 14 (.op 15 (.op 16 (.alt 17 (.done) (.done)))) (.done)))) (.done)) (.alt 11 (.op 12 (.op 13 (.alt 4 (.alt 14 (.op 15 (.op 16 (.alt 17 (.done) (.done)))) (.done)) (.alt 14 (.alt 4 (.op 15 (.op 16 (.alt 17 (.done) (.done)))) (.done)) (.done))))) (.done))) (.done))))))))))))]} (fn:=Tryz.f195) Tryz.func195 (by kernel_rfl) (by kernel_rfl) ?_
 rintro ⟨l0,⟨⟩⟩ K ⟨r,h,hK⟩
 change ZqN l0=some r at h
 unfold ZqN at h
 conv=>whnf
 refine YH h ?_
 rintro I0 μ0 ⟨v0,c0,⟨⟩⟩ zs0 h hI0 hR0
 change ZpU l0 v0 c0=some zs0 at h
 unfold ZpU at h
 conv=>whnf
 intro fp1
 conv=>whnf
 refine ZG h (fun h=>?_) (fun h=>?_)
 conv=>whnf
 refine vAt h (fun x0 he2a he2b he2x h=>?_)
 conv=>whnf
 refine ⟨by kernel_rfl,?_⟩
 conv=>whnf
 refine Ze h (fun Pin0 hb3 h=>?_)
 conv=>whnf
 refine Ze h (fun int64_0 hb4 h=>?_)
 conv=>whnf
 refine ⟨trivial,?_⟩
 conv=>whnf
 refine Ze h (fun Arc0 hb5 h=>?_)
 conv=>whnf
 refine YH h ?_
 rintro I6 μ6 ⟨v1,l1,⟨⟩⟩ zs6 h hI6 hR6
 change Zqe v0 c0 x0 Pin0 int64_0 Arc0 v1 l1=some zs6 at h
 unfold Zqe at h
 conv=>whnf
 intro fp7
 conv=>whnf
 refine ZG h (fun h=>?_) (fun h=>?_)
 focus
  conv=>whnf
  refine vAt h (fun x1 he8a he8b he8x h=>?_)
  conv=>whnf
  refine Yk h (fun hp9 h=>?_)
  conv=>whnf
  refine ⟨he8a,he8b,Zh he8x ?_⟩
  conv=>whnf
  refine ⟨by kernel_rfl,?_⟩
  conv=>whnf
  obtain ⟨cloneTables0,hb10,h⟩:=Option.bind_eq_some_iff.1 h
  obtain ⟨cloneTables1,hb12,h⟩:=Option.bind_eq_some_iff.1 h
  obtain ⟨hp14,h⟩:=guardE h
  obtain ⟨x2,he15a,he15b,he15x,h⟩:=atE h
  refine ⟨?_,?_⟩
  rotate_left
  focus
   conv=>whnf
   refine ⟨_,hb10,?_⟩
   conv=>whnf
   intro fp16
   conv=>whnf
   refine ⟨?_,?_⟩
   rotate_left
   focus
    conv=>whnf
    refine ⟨_,hb12,?_⟩
    conv=>whnf
    intro fp17
    conv=>whnf
    refine ⟨he8a,he8b,Zh he8x ?_⟩
    conv=>whnf
    refine ⟨?_,?_⟩
    rotate_left
    focus
     conv=>whnf
     refine ⟨hp14,?_⟩
     conv=>whnf
     refine ⟨he15a,he15b,Zh he15x ?_⟩
     conv=>whnf
     refine ⟨he8a,he8b,Zh he8x ?_⟩
     conv=>whnf
     refine ⟨hp14,?_⟩
     conv=>whnf
     refine ⟨trivial,?_⟩
    rotate_right
    focus
     conv=>whnf
     refine ⟨hp14,?_⟩
     conv=>whnf
     refine ⟨he15a,he15b,Zh he15x ?_⟩
     conv=>whnf
     refine ⟨he8a,he8b,Zh he8x ?_⟩
     conv=>whnf
     refine ⟨hp14,?_⟩
     conv=>whnf
     refine ⟨trivial,?_⟩
   rotate_right
   focus
    conv=>whnf
    refine ⟨_,hb12,?_⟩
    conv=>whnf
    intro fp17
    conv=>whnf
    refine ⟨he8a,he8b,Zh he8x ?_⟩
    conv=>whnf
    refine ⟨hp14,?_⟩
    conv=>whnf
    refine ⟨he15a,he15b,Zh he15x ?_⟩
    conv=>whnf
    refine ⟨he8a,he8b,Zh he8x ?_⟩
    conv=>whnf
    refine ⟨hp14,?_⟩
    conv=>whnf
    refine ⟨trivial,?_⟩
  rotate_right
  focus
   conv=>whnf
   refine ⟨_,hb10,?_⟩
   conv=>whnf
   intro fp16
   conv=>whnf
   refine ⟨_,hb12,?_⟩
   conv=>whnf
   intro fp17
   conv=>whnf
   refine ⟨he8a,he8b,Zh he8x ?_⟩
   conv=>whnf
   refine ⟨hp14,?_⟩
   conv=>whnf
   refine ⟨he15a,he15b,Zh he15x ?_⟩
   conv=>whnf
   refine ⟨he8a,he8b,Zh he8x ?_⟩
   conv=>whnf
   refine ⟨hp14,?_⟩
   conv=>whnf
   refine ⟨trivial,?_⟩
  all_goals
   conv=>whnf
   cases h
   exact ⟨⟨rfl,rfl⟩,hI6 _ rfl⟩
 conv=>whnf
 refine Yk h (fun hp18 h=>?_)
 conv=>whnf
 intro fp19
 conv=>whnf
 refine Yk h (fun hp20 h=>?_)
 conv=>whnf
 intro fp21
 conv=>whnf
 cases h
 obtain rfl:=hR6 _ rfl
 exact ⟨⟨rfl,rfl⟩,hI0 _ rfl⟩
 conv=>whnf
 cases h
 obtain rfl:=hR0 _ rfl
 exact hK
end Go.Proofs.YtnnbgbgapogckaaGreatDoor
