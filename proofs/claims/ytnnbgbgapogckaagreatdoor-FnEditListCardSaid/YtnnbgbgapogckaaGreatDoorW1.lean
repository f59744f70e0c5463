/-
  The functions keep their contracts, if what they call does. Printed by program.
-/
import Derived.Test.YtnnbgbgapogckaaGreatDoorM
import Derived.KernelRfl
namespace Go.Proofs.YtnnbgbgapogckaaGreatDoor
open Go Go.Sx
set_option maxRecDepth 100000
set_option maxHeartbeats 6400000
set_option linter.unusedVariables false
set_option linter.unusedSimpArgs false
structure Ws1:Prop where
 w161:Sq 90 c160→Sq 34 ZBn
 w130:Sq 195 c124→Sq 196 ZA9→Sq 122 ZBa→Sq 116 c130
 w150:Sq 120 ZAM
 w100:Sq 276 c99→Sq 279 ZAT
 w97:Sq 297 c97
 w108:Sq 112 c107→Sq 217 ZAv
 w144:Sq 249 c69→Sq 214 ZBj
 w116:Sq 83 c116
 w136:Sq 159 c66→Sq 208 c131→Sq 207 ZBd→Sq 83 c116→Sq 179 ZBe→Sq 209 c105→Sq 112 c107→Sq 158 c74→Sq 151 ZBf
 w146:Sq 83 c116→Sq 210 c139→Sq 211 ZBh→Sq 212 c67→Sq 213 c143→Sq 214 ZBj→Sq 215 c145→Sq 158 c74→Sq 84 Zy7→Sq 152 c146
 w131:Sq 208 c131
 w103:Sq 216 ZAV→Sq 188 c71→Sq 153 ZAW
 w81:Sq 324 c80→Sq 109 c78→Sq 307 c81
 w117:Sq 159 c66→Sq 160 c117
 w139:Sq 243 c138→Sq 210 c139
 w68:Sq 274 c68
 w135:Sq 179 ZBe
 w66:Sq 159 c66
 w127:Sq 237 c127
 w77:Sq 231 c76→Sq 189 c77
 w88:Sq 310 c87→Sq 309 c88
 w154:Sq 204 ZAC→Sq 203 c154
 w69:Sq 249 c69
 w33:Sq 176 c30→Sq 177 c31→Sq 178 c32→Sq 95 c33
 w24:Sq 327 c23→Sq 114 c21→Sq 318 c24
 w34:Sq 114 c21→Sq 144 c34
 w5:Sq 319 c4→Sq 44 c2→Sq 301 c5
 w4:Sq 44 c2→Sq 319 c4
 w10:Sq 238 c8→Sq 239 c9→Sq 197 c10
 w7:Sq 44 c2→Sq 286 c6→Sq 264 c7
 w52:Sq 161 c16→Sq 253 c51→Sq 220 c52
 w44:Sq 205 c44
 w36:Sq 96 c13→Sq 137 c36
 w32:Sq 147 c20→Sq 178 c32
 w14:Sq 96 c13→Sq 139 c14
 w59:Sq 139 c14→Sq 175 c59
 w42:Sq 146 c42
 w58:Sq 174 c58
 w47:Sq 146 c42→Sq 139 c14→Sq 206 c46→Sq 150 c47
 w40:Sq 96 c13→Sq 114 c21→Sq 79 c40
set_option maxHeartbeats 100000000 in
theorem ws1:Ws1:=by
 refine ⟨(fun q0=>Zm VX (Zg q0 Zu) mixed {} Tryz.func34 (hvc:=?_)),
 (fun q0 q1 q2=>Zm VX (Zg q0 (Zg q1 (Zg q2 Zu))) mixed {loops:=[(0,[.reg 16 (.dat Iq),.cello 1003 4 (.ol 58 (ZgI))])],draws:=[(1,[0,1,3,0,8,31,63,0,255],.op 0 (.op 1 (.op 3 (.op 4 (.alt 2 (.alt 5 (.op 6 (.alt 7 (.alt 8 (.done) (.done)) (.done))) (.alt 7 (.alt 5 (.op 6 (.alt 8 (.done) (.done))) (.done)) (.done))) (.alt 7 (.alt 2 (.alt 5 (.op 6 (.alt 8 (.done) (.done))) (.done)) (.done)) (.done))))))),(5,[0,1,0,4,12,31,63,127],.op 0 (.op 1 (.op 2 (.alt 3 (.alt 4 (.alt 5 (.op 6 (.alt 7 (.done) (.done))) (.done)) (.done)) (.done)))))]} Tryz.func116 (hvc:=?_)),
 (Zm VX Zu mixed {draws:=[(2,[0,1,3,7,15,0,32,0,255,511,1023],.op 0 (.op 1 (.op 2 (.op 3 (.op 4 (.op 5 (.op 6 (.op 7 (.op 8 (.op 9 (.alt 10 (.done) (.done)))))))))))),(3,[0,1,3,7,15,0,32,127,255,511,0,1024,0,8191,16383],.op 0 (.op 1 (.op 2 (.op 3 (.op 4 (.op 5 (.op 6 (.op 7 (.op 8 (.op 9 (.op 10 (.op 11 (.op 12 (.op 13 (.alt 14 (.done) (.done))))))))))))))))]} Tryz.func120 (hvc:=?_)),
 (fun q0=>Zm ZL (Zg q0 Zu) mixed {} Tryz.func279 (hvc:=?_)),
 (Zm ZL Zu mixed {} Tryz.func297 (hvc:=?_)),
 (fun q0=>Zm ZL (Zg q0 Zu) mixed {} Tryz.func217 (hvc:=?_)),
 (fun q0=>Zm ZL (Zg q0 Zu) mixed {} Tryz.func214 (hvc:=?_)),
 (Zm ZL Zu mixed {loops:=[(0,[.reg 3 (.own (.ol 147 (.flat (ZjZ)))),.reg 13 (.dat Iq)]),(2,[.reg 3 (.own (.ol 147 (.flat (ZjZ)))),.reg 21 (.dat Iq)]),(4,[.reg 3 (.own (.ol 147 (.flat (ZjZ)))),.reg 44 (.dat Iq)])]} Tryz.func83 (hvc:=?_)),
 (fun q7 q5 q6 q2 q0 q1 q3 q4=>Zm ZL (Zg q7 (Zg q5 (Zg q6 (Zg q2 (Zg q0 (Zg q1 (Zg q3 (Zg q4 Zu)))))))) mixed {draws:=[(1,[0,1,3,7,15,31,31,95,255,511,1023],.op 0 (.op 1 (.alt 2 (.op 3 (.op 4 (.op 5 (.op 6 (.alt 7 (.alt 8 (.op 9 (.op 10 (.done))) (.done)) (.done)))))) (.done)))),(3,[0,1,0,4,12,28,60,127,255],.op 0 (.op 1 (.op 2 (.op 3 (.alt 4 (.alt 5 (.op 6 (.alt 7 (.op 8 (.done)) (.done))) (.done)) (.done)))))),(7,[0,1,3,7,3,19,51,115,243,511,1023,2047],.op 0 (.op 1 (.op 2 (.op 3 (.op 4 (.op 5 (.op 6 (.alt 7 (.op 8 (.alt 9 (.op 10 (.op 11 (.done))) (.done))) (.done))))))))),(9,[0,1,3,7,3,19,63,127,255,511,1023,511,2559,511,8703,31231,63999,129535,260607,522751,1048575,2097151,4194303],.op 0 (.op 1 (.op 2 (.op 3 (.op 4 (.op 5 (.alt 6 (.op 7 (.op 8 (.op 9 (.op 10 (.op 11 (.op 12 (.op 13 (.op 14 (.op 15 (.op 16 (.op 17 (.alt 18 (.op 19 (.alt 20 (.op 21 (.op 22 (.done))) (.done))) (.done))))))))))))) (.done))))))))]} Tryz.func151 (hvc:=?_)),
 (fun q2 q5 q6 q7 q3 q1 q0 q4 q8=>Zm ZL (Zg q2 (Zg q5 (Zg q6 (Zg q7 (Zg q3 (Zg q1 (Zg q0 (Zg q4 (Zg q8 Zu))))))))) mixed {draws:=[(6,[0,1,3,7,15,31,63,127,255,511,1023,255,2303,255,8447,30975,63743,129279,262143,524287,255,1048831,3145983,255,8388863,32506111,66060543,134217727,268435455,536870911],.op 0 (.op 1 (.op 2 (.op 3 (.op 4 (.op 5 (.op 6 (.op 7 (.op 8 (.op 9 (.op 10 (.op 11 (.op 12 (.op 13 (.op 14 (.op 15 (.op 16 (.op 17 (.op 18 (.op 19 (.op 20 (.op 21 (.op 22 (.op 23 (.op 24 (.op 25 (.op 26 (.alt 27 (.op 28 (.op 29 (.done))) (.done))))))))))))))))))))))))))))),(12,[0,0,2,7,15,31,63,127,255,255,767,2047,4095,8191,255,16639,65535,131071,262143],.op 0 (.op 1 (.op 2 (.op 3 (.op 4 (.op 5 (.op 6 (.op 7 (.op 8 (.op 9 (.op 10 (.op 11 (.op 12 (.op 13 (.op 14 (.op 15 (.op 16 (.op 17 (.op 18 (.done)))))))))))))))))))),(13,[0,1,0,4,0,16,60,124,252,508,1023,2047],.op 0 (.op 1 (.op 2 (.op 3 (.op 4 (.op 5 (.op 6 (.op 7 (.op 8 (.alt 9 (.alt 10 (.op 11 (.done)) (.done)) (.done)))))))))))]} Tryz.func152 (hvc:=?_)),
 (Zm ZL Zu mixed {} Tryz.func208 (hvc:=?_)),
 (fun q1 q0=>Zm ZL (Zg q1 (Zg q0 Zu)) mixed {loops:=[(0,[.reg 3 (.own (.ol 9 (.flat (.str)))),.reg 9 (.dat Iq)])]} Tryz.func153 (hvc:=?_)),
 (fun q1 q0=>Zm ZL (Zg q1 (Zg q0 Zu)) mixed {} Tryz.func307 (hvc:=?_)),
 (fun q0=>Zm ZL (Zg q0 Zu) mixed {loops:=[(0,[.reg 8 (.dat Iq)])]} Tryz.func160 (hvc:=?_)),
 (fun q0=>Zm ZL (Zg q0 Zu) mixed {} Tryz.func210 (hvc:=?_)),
 (Zm ZL Zu mixed {} Tryz.func274 (hvc:=?_)),
 (Zm ZL Zu mixed {} Tryz.func179 (hvc:=?_)),
 (Zm ZL Zu mixed {} Tryz.func159 (hvc:=?_)),
 (Zm ZL Zu mixed {} Tryz.func237 (hvc:=?_)),
 (fun q0=>Zm ZL (Zg q0 Zu) mixed {} Tryz.func189 (hvc:=?_)),
 (fun q0=>Zm ZL (Zg q0 Zu) mixed {loops:=[(0,[.reg 8 (.dat Iq)])]} Tryz.func309 (hvc:=?_)),
 (fun q0=>Zm ZL (Zg q0 Zu) mixed {loops:=[(0,[.reg 8 (.dat Iq)])]} Tryz.func203 (hvc:=?_)),
 (Zm ZL Zu mixed {loops:=[(0,[.reg 8 (.dat Iq)])]} Tryz.func249 (hvc:=?_)),
 (fun q0 q1 q2=>Zm ZL (Zg q0 (Zg q1 (Zg q2 Zu))) mixed {loops:=[(0,[.reg 5 (.own (.ol 9 (.flat (.str)))),.reg 6 (.dat Iq)]),(2,[.reg 7 (.own (.ol 9 (.flat (.str)))),.reg 8 (.dat Iq)]),(4,[.reg 10 (.dat Iq),.ent 6 (nat_lit 2) (.flat Znz.ety)]),(6,[.reg 12 (.dat Iq),.ent 6 (nat_lit 2) (.flat Znz.ety)]),(8,[.reg 13 (.dat Iq)])]} Tryz.func95 (hvc:=?_)),
 (fun q0 q1=>Zm ZL (Zg q0 (Zg q1 Zu)) mixed {loops:=[(0,[.reg 3 (.dat Iq)])]} Tryz.func318 (hvc:=?_)),
 (fun q0=>Zm ZL (Zg q0 Zu) mixed {loops:=[(0,[.reg 6 (.dat Iq)]),(2,[.reg 7 (.dat Iq)])]} Tryz.func144 (hvc:=?_)),
 (fun q0 q1=>Zm ZL (Zg q0 (Zg q1 Zu)) mixed {loops:=[(0,[.reg 7 (.own (.ol 2 (.flat Iq))),.reg 9 (.dat Iq),.cell 1000 0 (.sl (.int .u8)),.cell 1000 1 Iq,.cell 1000 2 Iq])],draws:=[(10,[0,0,0,4,14,30,0,64,254,511,1023],.op 0 (.op 1 (.op 2 (.op 3 (.op 4 (.op 6 (.alt 5 (.alt 7 (.op 8 (.op 9 (.op 10 (.done)))) (.done)) (.alt 7 (.alt 5 (.op 8 (.op 9 (.op 10 (.done)))) (.done)) (.done))))))))),(12,[0,0,0,0,12,30,62,0,128,510,1023,2047],.op 0 (.op 1 (.op 2 (.op 3 (.op 4 (.op 5 (.op 7 (.alt 6 (.alt 8 (.op 9 (.op 10 (.op 11 (.done)))) (.done)) (.alt 8 (.alt 6 (.op 9 (.op 10 (.op 11 (.done)))) (.done)) (.done))))))))))]} Tryz.func301 (hvc:=?_)),
 (fun q0=>Zm ZL (Zg q0 Zu) mixed {loops:=[(0,[.reg 5 (.own (.ol 2 (.flat Iq))),.reg 6 (.dat Iq),.reg 7 (.dat Iq),.cell 0 0 (.sl (.int .u8)),.cell 0 1 Iq,.cell 0 2 Iq])]} Tryz.func319 (hvc:=?_)),
 (fun q1 q0=>Zm VX (Zg q1 (Zg q0 Zu)) mixed {} Tryz.func197 (hvc:=?_)),
 (fun q1 q0=>Zm VX (Zg q1 (Zg q0 Zu)) mixed {} Tryz.func264 (hvc:=?_)),
 (fun q1 q0=>Zm VX (Zg q1 (Zg q0 Zu)) mixed {loops:=[(0,[.reg 4 (.dat Iq),.cello 1003 3 (.ol 219 (ZmF))])],draws:=[(1,[0,1,0,4,0,0,32,112,0,256,1008,0,2048,0,8192,32767,0,131071],.op 0 (.op 2 (.op 5 (.op 6 (.op 8 (.op 11 (.op 13 (.ld 1 (.ld 3 (.ld 9 (.ld 12 (.ld 14 (.alt 4 (.alt 7 (.alt 10 (.op 15 (.alt 16 (.alt 17 (.done) (.done)) (.done))) (.alt 16 (.alt 10 (.op 15 (.alt 17 (.done) (.done))) (.done)) (.done))) (.alt 16 (.alt 7 (.alt 10 (.op 15 (.alt 17 (.done) (.done))) (.done)) (.done)) (.done))) (.alt 16 (.alt 4 (.alt 7 (.alt 10 (.op 15 (.alt 17 (.done) (.done))) (.done)) (.done)) (.done)) (.done)))))))))))))))]} Tryz.func220 (hvc:=?_)),
 (Zm ZL Zu mixed {loops:=[(0,[.reg 5 (.dat Iq)])]} Tryz.func205 (hvc:=?_)),
 (fun q0=>Zm ZL (Zg q0 Zu) mixed {loops:=[(0,[.reg 8 (.dat Iq)])]} Tryz.func137 (hvc:=?_)),
 (fun q0=>Zm ZL (Zg q0 Zu) mixed {loops:=[(0,[.reg 3 (.dat Iq)]),(2,[.reg 4 (.dat Iq)])],draws:=[(9,[0,0,3,7,0,0,48,112,255],.op 0 (.op 1 (.op 2 (.op 3 (.op 4 (.op 5 (.op 6 (.op 7 (.op 8 (.done))))))))))]} Tryz.func178 (hvc:=?_)),
 (fun q0=>Zm ZL (Zg q0 Zu) mixed {loops:=[(0,[.reg 5 (.own (.ol 2 (.flat Iq))),.reg 7 (.dat Iq)])]} Tryz.func139 (hvc:=?_)),
 (fun q0=>Zm VX (Zg q0 Zu) mixed {loops:=[(0,[.reg 5 (.dat Iq),.ent 4 (nat_lit 58) (Dp.pair (Dp.ol (2:Go.TypeId) (Dp.flat (Ty.int IntKind.i64))) (Dp.pair (Dp.ol (2:Go.TypeId) (Dp.flat (Ty.int IntKind.i64))) (Dp.pair (Dp.ol (2:Go.TypeId) (Dp.flat (Ty.int IntKind.i64))) (Dp.pair (Dp.ol (2:Go.TypeId) (Dp.flat (Ty.int IntKind.i64))) (Dp.flat Ty.unit)))))]),(2,[.reg 6 (.own (.ol 2 (.flat Iq))),.reg 8 (.dat Iq)])]} Tryz.func175 (hvc:=?_)),
 (Zm ZL Zu mixed {} Tryz.func146 (hvc:=?_)),
 (Zm VX Zu mixed {draws:=[(3,[0,1,0,4,15,31,63,0,128,0,1023,2047],.op 0 (.op 1 (.op 2 (.op 3 (.op 4 (.op 5 (.op 6 (.op 7 (.op 8 (.op 9 (.op 10 (.alt 11 (.done) (.done)))))))))))))]} Tryz.func174 (hvc:=?_)),
 (fun q0 q1 q2=>Zm ZL (Zg q0 (Zg q1 (Zg q2 Zu))) mixed {draws:=[(6,[0,1,3,0,8,31,63,127,255,511,1023,2047,4095,8191,1023,32767,65535,131071,262143,524287,1048575,262143,4194303,8388607,262143,17039359,67108863,134217727,268435455,536870911,1073741823,2147483647,4294967295,536870911,17179869183,34359738367],.op 0 (.op 1 (.op 2 (.op 3 (.op 4 (.op 5 (.op 6 (.alt 7 (.op 8 (.op 9 (.op 10 (.op 11 (.op 12 (.op 13 (.op 14 (.op 15 (.op 16 (.op 17 (.op 18 (.op 19 (.op 20 (.op 21 (.op 22 (.op 23 (.op 24 (.op 25 (.op 26 (.op 27 (.op 28 (.op 29 (.op 30 (.op 31 (.op 32 (.op 33 (.op 34 (.op 35 (.done))))))))))))))))))))))))))))) (.done)))))))))]} Tryz.func150 (hvc:=?_)),
 (fun q0 q1=>Zm ZL (Zg q0 (Zg q1 Zu)) mixed {draws:=[(9,[0,1,0,4,15,31,63,127,63,319,1023,2047,4095,8191,16383,8191,40959,8191,139263,499711,1023999,2072575,4169727,8364031,16777215,33554431,67108863],.op 0 (.op 1 (.op 2 (.op 3 (.alt 4 (.op 5 (.op 6 (.op 7 (.op 8 (.op 9 (.alt 10 (.op 11 (.op 12 (.op 13 (.op 14 (.op 15 (.op 16 (.op 17 (.op 18 (.op 19 (.op 20 (.op 21 (.op 22 (.op 23 (.alt 24 (.op 25 (.op 26 (.done))) (.done))))))))))))))) (.done))))))) (.done))))))]} Tryz.func79 (hvc:=?_))⟩
 all_goals
  intro a
  repeat rcases a with ⟨_,a⟩
  rintro K ⟨r,h,hK⟩
  repeat'
    conv=>whnf
    first
    | with_reducible refine ZoK ?_
    | with_reducible refine ZnK (by assumption) (by assumption) (by assumption) ?_
    | with_reducible refine Zh (by assumption) ?_
    | with_reducible refine ZnS (by assumption) ?_
    | (with_reducible refine shD ?_);first | refine ZG h (fun h=>?_) (fun h=>?_) | refine ZcV h (fun h=>?_) (fun h=>?_)
    | (with_reducible refine ZoO ?_);first | refine Zj4 ?_ | refine Yc ?_
    | (with_reducible refine Zo6 ?_);first | refine Qn h (fun h=>?_) (fun h=>?_) | refine Zmk h (fun h=>?_) (fun h=>?_)
    | (with_reducible refine ZoN ?_);(refine ⟨fun hd=>?_,?_⟩)<;>try subst hd
    | (with_reducible refine Zo8 ?_);first | with_reducible refine Ze h (fun x hb h=>?_) | refine ZnS (by assumption) ?_ | with_reducible refine pG h (fun hp h=>?_) | with_reducible refine pA h (fun x ha hb hx h=>?_) | with_reducible refine pB h (fun x hb h=>?_) | refine Ze h (fun x hb h=>?_)
    | (with_reducible refine Zo5 ?_);first | with_reducible refine vAt h (fun x ha hb hx h=>?_) | refine ZnK (by assumption) (by assumption) (by assumption) ?_ | with_reducible refine pG h (fun hp h=>?_) | with_reducible refine pA h (fun x ha hb hx h=>?_) | with_reducible refine pB h (fun x hb h=>?_) | refine vAt h (fun x ha hb hx h=>?_)
    | (with_reducible refine ZoM ?_);first | with_reducible refine ZoU h (fun x hb h=>?_) | refine Zh (by assumption) ?_ | with_reducible refine pG h (fun hp h=>?_) | with_reducible refine pA h (fun x ha hb hx h=>?_) | with_reducible refine pB h (fun x hb h=>?_) | refine ZoU h (fun x hb h=>?_)
    | with_reducible refine Zo7 ?_
    | (with_reducible refine Zot ?_);refine ZoC h hK ?_;clear h hK;intro I μ v r h hK;(repeat rcases v with ⟨_,v⟩);(try dsimp only at h)
    | with_reducible refine ⟨by assumption,?_⟩
    | with_reducible refine orL ?_
    | with_reducible refine .inr ?_
    | (with_reducible refine ZoP ?_);first | refine ⟨?_,True.intro⟩ | refine ⟨?_,?_⟩
    | refine ⟨by kernel_rfl,?_⟩
    | refine ⟨by decide,?_⟩
    | with_reducible refine Yk h (fun hp h=>?_)
    | intro fp
    | exact trivial
    | with_reducible exact ZoJ h
    | (refine pS h (fun e=>?_));subst e;(repeat (first | exact hK | exact ⟨⟨rfl,rfl⟩,hK.1 _ rfl⟩ | (refine pR hK (fun e hK=>?_));subst e));done
    | refine Yk h (fun hp h=>?_)
    | refine ⟨by assumption,?_⟩
    | with_reducible refine pG h (fun hp h=>?_) | with_reducible refine pA h (fun x ha hb hx h=>?_) | with_reducible refine pB h (fun x hb h=>?_)
    | refine pG h (fun hp h=>?_)
    | fail
theorem ZDV (q0:Sq 235 ZA7) (q2:Sq 236 ZA8) (q1:Sq 237 c127) (q3:Sq 134 ZAL):Sq 196 ZA9:=by
 refine Zm VX (Zg q0 (Zg q2 (Zg q1 (Zg q3 Zu)))) mixed {loops:=[(0,[.reg 19 (.dat Iq),.splt 1300 193 (Zbr)])],draws:=[(1,[0,1,3,0,8,31,0,64,255,511,0,2047],.op 0 (.op 1 (.op 3 (.op 4 (.op 6 (.op 7 (.alt 2 (.alt 5 (.alt 8 (.op 9 (.alt 10 (.alt 11 (.done) (.done)) (.done))) (.alt 10 (.alt 8 (.op 9 (.alt 11 (.done) (.done))) (.done)) (.done))) (.alt 10 (.alt 5 (.alt 8 (.op 9 (.alt 11 (.done) (.done))) (.done)) (.done)) (.done))) (.alt 10 (.alt 2 (.alt 5 (.alt 8 (.op 9 (.alt 11 (.done) (.done))) (.done)) (.done)) (.done)) (.done))))))))),(5,[0,1,0,0,8,24,63,127,255],.op 0 (.op 1 (.op 2 (.op 3 (.op 4 (.alt 5 (.op 6 (.op 7 (.alt 8 (.done) (.done)))) (.done)))))))]} (fn:=Tryz.f196) Tryz.func196 (by kernel_rfl) (by kernel_rfl) ?_
 rintro ⟨d0,⟨⟩⟩ K ⟨r,h,hK⟩
 change ZqL d0=some r at h
 unfold ZqL at h
 focus
  conv=>whnf
  refine ⟨by kernel_rfl,?_⟩
  conv=>whnf
  obtain ⟨Instance0,hb0,h⟩:=Option.bind_eq_some_iff.1 h
  obtain ⟨string0,hb1,h⟩:=Option.bind_eq_some_iff.1 h
  obtain ⟨Port0,hb2,h⟩:=Option.bind_eq_some_iff.1 h
  refine ⟨?_,?_⟩
  rotate_left
  focus
   conv=>whnf
   refine ⟨_,hb0,?_⟩
   conv=>whnf
   refine ⟨_,hb1,?_⟩
   conv=>whnf
   refine ⟨_,hb2,?_⟩
   conv=>whnf
   refine ⟨trivial,?_⟩
  rotate_right
  focus
   conv=>whnf
   refine ⟨_,hb0,?_⟩
   conv=>whnf
   refine ⟨?_,?_⟩
   rotate_left
   focus
    conv=>whnf
    refine ⟨_,hb1,?_⟩
    conv=>whnf
    refine ⟨_,hb2,?_⟩
    conv=>whnf
    refine ⟨trivial,?_⟩
   rotate_right
   focus
    conv=>whnf
    refine ⟨_,hb1,?_⟩
    conv=>whnf
    refine ⟨?_,?_⟩
    rotate_left
    focus
     conv=>whnf
     refine ⟨_,hb2,?_⟩
     conv=>whnf
     refine ⟨trivial,?_⟩
    rotate_right
    focus
     conv=>whnf
     refine ⟨_,hb2,?_⟩
     conv=>whnf
     refine ⟨trivial,?_⟩
  all_goals
   conv=>whnf
   refine YH h ?_
   rintro I3 μ3 ⟨v0,l0,⟨⟩⟩ zs3 h hI3 hR3
   change Zqd Instance0 string0 Port0 v0 l0=some zs3 at h
   unfold Zqd at h
   conv=>whnf
   intro fp4
   conv=>whnf
   refine ZG h (fun h=>?_) (fun h=>?_)
   conv=>whnf
   refine vAt h (fun x0 he5a he5b he5x h=>?_)
   conv=>whnf
   refine Yk h (fun hp6 h=>?_)
   conv=>whnf
   refine ⟨he5a,he5b,Zh he5x ?_⟩
   conv=>whnf
   refine ⟨by kernel_rfl,?_⟩
   conv=>whnf
   refine Ze h (fun int64_0 hb7 h=>?_)
   conv=>whnf
   refine ⟨he5a,he5b,Zh he5x ?_⟩
   conv=>whnf
   refine Yk h (fun hp8 h=>?_)
   conv=>whnf
   refine vAt h (fun x1 he9a he9b he9x h=>?_)
   conv=>whnf
   refine ⟨trivial,?_⟩
   conv=>whnf
   cases h
   exact ⟨⟨rfl,rfl⟩,hI3 _ rfl⟩
   conv=>whnf
   refine Yk h (fun hp10 h=>?_)
   conv=>whnf
   cases h
   obtain rfl:=hR3 _ rfl
   exact hK
theorem w60 (q1:Sq 96 c13) (q4:Sq 173 c57) (q5:Sq 161 c16) (q0:Sq 174 c58) (q2:Sq 219 c15) (q3:Sq 175 c59):Sq 171 c60:=by
 refine Zm VX (Zg q1 (Zg q4 (Zg q5 (Zg q0 (Zg q2 (Zg q3 Zu)))))) mixed {draws:=[(1,[0,1,3,0,8,31,63,0,255],.op 0 (.op 1 (.op 3 (.op 4 (.alt 2 (.op 5 (.op 6 (.alt 7 (.alt 8 (.done) (.done)) (.done)))) (.alt 7 (.alt 2 (.op 5 (.op 6 (.alt 8 (.done) (.done)))) (.done)) (.done))))))),(5,[0,0,3,7,0,0,32,112,240,496,1023,2047],.op 0 (.op 1 (.op 4 (.op 5 (.op 6 (.op 7 (.op 8 (.alt 2 (.alt 3 (.alt 9 (.alt 10 (.op 11 (.done)) (.done)) (.done)) (.alt 9 (.alt 3 (.alt 10 (.op 11 (.done)) (.done)) (.done)) (.done))) (.alt 9 (.alt 2 (.alt 3 (.alt 10 (.op 11 (.done)) (.done)) (.done)) (.done)) (.done)))))))))),(14,[0,1,3,0,8,31,0,64,192,0,512,1536,4095,0,8192,24576,65535,0,262143],.op 0 (.op 1 (.op 2 (.op 3 (.op 6 (.op 7 (.op 9 (.op 13 (.op 14 (.ld 8 (.ld 10 (.ld 15 (.alt 4 (.alt 5 (.alt 11 (.alt 12 (.op 16 (.alt 17 (.alt 18 (.done) (.done)) (.done))) (.alt 17 (.alt 12 (.op 16 (.alt 18 (.done) (.done))) (.done)) (.done))) (.alt 17 (.alt 11 (.alt 12 (.op 16 (.alt 18 (.done) (.done))) (.done)) (.done)) (.done))) (.alt 11 (.alt 5 (.alt 12 (.op 16 (.alt 17 (.alt 18 (.done) (.done)) (.done))) (.alt 17 (.alt 12 (.op 16 (.alt 18 (.done) (.done))) (.done)) (.done))) (.alt 17 (.alt 5 (.alt 12 (.op 16 (.alt 18 (.done) (.done))) (.done)) (.done)) (.done))) (.alt 17 (.alt 5 (.alt 11 (.alt 12 (.op 16 (.alt 18 (.done) (.done))) (.done)) (.done)) (.alt 11 (.alt 5 (.alt 12 (.op 16 (.alt 18 (.done) (.done))) (.done)) (.done)) (.done))) (.done)))) (.alt 11 (.alt 4 (.alt 5 (.alt 12 (.op 16 (.alt 17 (.alt 18 (.done) (.done)) (.done))) (.alt 17 (.alt 12 (.op 16 (.alt 18 (.done) (.done))) (.done)) (.done))) (.alt 17 (.alt 5 (.alt 12 (.op 16 (.alt 18 (.done) (.done))) (.done)) (.done)) (.done))) (.alt 17 (.alt 4 (.alt 5 (.alt 12 (.op 16 (.alt 18 (.done) (.done))) (.done)) (.done)) (.done)) (.done))) (.alt 17 (.alt 4 (.alt 5 (.alt 11 (.alt 12 (.op 16 (.alt 18 (.done) (.done))) (.done)) (.done)) (.alt 11 (.alt 5 (.alt 12 (.op 16 (.alt 18 (.done) (.done))) (.done)) (.done)) (.done))) (.alt 11 (.alt 4 (.alt 5 (.alt 12 (.op 16 (.alt 18 (.done) (.done))) (.done)) (.done)) (.done)) (.done))) (.done)))))))))))))))),(15,[0,1,0,0,8,0,32,120,255,0,1023,2047],.op 0 (.op 3 (.op 4 (.op 9 (.ld 1 (.ld 2 (.alt 5 (.alt 6 (.alt 7 (.op 8 (.alt 10 (.alt 11 (.done) (.done)) (.done))) (.done)) (.done)) (.done))))))))]} (fn:=Tryz.f171) Tryz.func171 (by kernel_rfl) (by kernel_rfl) ?_
 rintro ⟨a0,a1,⟨⟩⟩ K ⟨r,h,hK⟩
 change ZrT a0 a1=some r at h
 unfold ZrT at h
 focus
  conv=>whnf
  intro fp0
  conv=>whnf
  intro fp1
  conv=>whnf
  intro fp2
  conv=>whnf
  refine ⟨by kernel_rfl,?_⟩
  conv=>whnf
  obtain ⟨l05Places0,hb3,h⟩:=Option.bind_eq_some_iff.1 h
  obtain ⟨x0,he4a,he4b,he4x,h⟩:=atE h
  refine ⟨?_,?_⟩
  rotate_left
  focus
   conv=>whnf
   refine ⟨_,hb3,?_⟩
   conv=>whnf
   refine ⟨he4a,he4b,Zh he4x ?_⟩
   conv=>whnf
   refine ⟨by kernel_rfl,?_⟩
   conv=>whnf
   refine ⟨he4a,he4b,Zh he4x ?_⟩
   conv=>whnf
   refine ⟨trivial,?_⟩
  rotate_right
  focus
   conv=>whnf
   refine ⟨_,hb3,?_⟩
   conv=>whnf
   refine ⟨he4a,he4b,Zh he4x ?_⟩
   conv=>whnf
   refine ⟨by kernel_rfl,?_⟩
   conv=>whnf
   refine ⟨he4a,he4b,Zh he4x ?_⟩
   conv=>whnf
   refine ⟨trivial,?_⟩
  all_goals
   focus
    conv=>whnf
    refine Ze h (fun l08Nodes0 hb5 h=>?_)
    conv=>whnf
    refine ⟨by kernel_rfl,?_⟩
    conv=>whnf
    refine vAt h (fun x1 he6a he6b he6x h=>?_)
    conv=>whnf
    refine ⟨by kernel_rfl,?_⟩
    conv=>whnf
    refine ⟨he6a,he6b,Zh he6x ?_⟩
    conv=>whnf
    obtain ⟨hp7,h⟩:=guardE h
    obtain ⟨hp8,h⟩:=guardE h
    obtain ⟨l02Ints0,hb9,h⟩:=Option.bind_eq_some_iff.1 h
    obtain ⟨hp10,h⟩:=guardE h
    refine ⟨?_,?_⟩
    rotate_left
    focus
     conv=>whnf
     refine ⟨by decide,?_⟩
     conv=>whnf
     refine ⟨hp7,?_⟩
     conv=>whnf
     refine ⟨hp8,?_⟩
     conv=>whnf
     refine ⟨_,hb9,?_⟩
     conv=>whnf
     refine ⟨hp10,?_⟩
     conv=>whnf
     refine ⟨trivial,?_⟩
    rotate_right
    focus
     conv=>whnf
     refine ⟨by decide,?_⟩
     conv=>whnf
     refine ⟨hp7,?_⟩
     conv=>whnf
     refine ⟨hp8,?_⟩
     conv=>whnf
     refine ⟨?_,?_⟩
     rotate_left
     focus
      conv=>whnf
      refine ⟨_,hb9,?_⟩
      conv=>whnf
      refine ⟨hp10,?_⟩
      conv=>whnf
      refine ⟨trivial,?_⟩
     rotate_right
     focus
      conv=>whnf
      refine ⟨_,hb9,?_⟩
      conv=>whnf
      refine ⟨hp10,?_⟩
      conv=>whnf
      refine ⟨trivial,?_⟩
    all_goals
     conv=>whnf
     refine ⟨hp7,?_⟩
     conv=>whnf
     refine ⟨hp8,?_⟩
     conv=>whnf
     refine Yk h (fun hp11 h=>?_)
     conv=>whnf
     refine Yk h (fun hp12 h=>?_)
     conv=>whnf
     refine Ze h (fun l08Connect0 hb13 h=>?_)
     conv=>whnf
     intro fp14
     conv=>whnf
     refine ZG h (fun h=>?_) (fun h=>?_)
     focus
      conv=>whnf
      refine vAt h (fun x2 he15a he15b he15x h=>?_)
      conv=>whnf
      refine ⟨by kernel_rfl,?_⟩
      conv=>whnf
      refine ⟨by decide,?_⟩
      conv=>whnf
      refine ⟨he15a,he15b,Zh he15x ?_⟩
      conv=>whnf
      refine ⟨by kernel_rfl,?_⟩
      conv=>whnf
      refine ⟨by kernel_rfl,?_⟩
      conv=>whnf
      refine ⟨by kernel_rfl,?_⟩
      conv=>whnf
      refine ⟨by kernel_rfl,?_⟩
      conv=>whnf
      obtain ⟨hp17,h⟩:=guardE h
      obtain ⟨hp19,h⟩:=guardE h
      refine ⟨?_,?_⟩
      rotate_left
      focus
       conv=>whnf
       refine ⟨?_,?_⟩
       rotate_left
       focus
        conv=>whnf
        refine ⟨?_,?_⟩
        rotate_left
        focus
         conv=>whnf
         intro fp29
         conv=>whnf
         refine ⟨by kernel_rfl,?_⟩
         conv=>whnf
         refine ⟨hp17,?_⟩
         conv=>whnf
         intro fp30
         conv=>whnf
         refine ⟨by kernel_rfl,?_⟩
         conv=>whnf
         refine ⟨hp19,?_⟩
         conv=>whnf
         refine ⟨trivial,?_⟩
        rotate_right
        focus
         conv=>whnf
         intro fp29
         conv=>whnf
         refine ⟨?_,?_⟩
         rotate_left
         focus
          conv=>whnf
          refine ⟨by kernel_rfl,?_⟩
          conv=>whnf
          refine ⟨hp17,?_⟩
          conv=>whnf
          intro fp30
          conv=>whnf
          refine ⟨by kernel_rfl,?_⟩
          conv=>whnf
          refine ⟨hp19,?_⟩
          conv=>whnf
          refine ⟨trivial,?_⟩
         rotate_right
         focus
          conv=>whnf
          refine ⟨by kernel_rfl,?_⟩
          conv=>whnf
          refine ⟨hp17,?_⟩
          conv=>whnf
          intro fp30
          conv=>whnf
          refine ⟨by kernel_rfl,?_⟩
          conv=>whnf
          refine ⟨hp19,?_⟩
          conv=>whnf
          refine ⟨trivial,?_⟩
       rotate_right
       focus
        conv=>whnf
        refine ⟨?_,?_⟩
        rotate_left
        focus
         conv=>whnf
         intro fp29
         conv=>whnf
         refine ⟨by kernel_rfl,?_⟩
         conv=>whnf
         refine ⟨hp17,?_⟩
         conv=>whnf
         intro fp30
         conv=>whnf
         refine ⟨by kernel_rfl,?_⟩
         conv=>whnf
         refine ⟨hp19,?_⟩
         conv=>whnf
         refine ⟨trivial,?_⟩
        rotate_right
        focus
         conv=>whnf
         intro fp29
         conv=>whnf
         refine ⟨?_,?_⟩
         rotate_left
         focus
          conv=>whnf
          refine ⟨by kernel_rfl,?_⟩
          conv=>whnf
          refine ⟨hp17,?_⟩
          conv=>whnf
          intro fp30
          conv=>whnf
          refine ⟨by kernel_rfl,?_⟩
          conv=>whnf
          refine ⟨hp19,?_⟩
          conv=>whnf
          refine ⟨trivial,?_⟩
         rotate_right
         focus
          conv=>whnf
          refine ⟨by kernel_rfl,?_⟩
          conv=>whnf
          refine ⟨hp17,?_⟩
          conv=>whnf
          intro fp30
          conv=>whnf
          refine ⟨?_,?_⟩
          rotate_left
          focus
           conv=>whnf
           refine ⟨by kernel_rfl,?_⟩
           conv=>whnf
           refine ⟨hp19,?_⟩
           conv=>whnf
           refine ⟨trivial,?_⟩
          rotate_right
          focus
           conv=>whnf
           refine ⟨by kernel_rfl,?_⟩
           conv=>whnf
           refine ⟨hp19,?_⟩
           conv=>whnf
           refine ⟨trivial,?_⟩
      rotate_right
      focus
       conv=>whnf
       intro fp29
       conv=>whnf
       refine ⟨?_,?_⟩
       rotate_left
       focus
        conv=>whnf
        refine ⟨?_,?_⟩
        rotate_left
        focus
         conv=>whnf
         refine ⟨?_,?_⟩
         rotate_left
         focus
          conv=>whnf
          refine ⟨by kernel_rfl,?_⟩
          conv=>whnf
          refine ⟨hp17,?_⟩
          conv=>whnf
          intro fp30
          conv=>whnf
          refine ⟨by kernel_rfl,?_⟩
          conv=>whnf
          refine ⟨hp19,?_⟩
          conv=>whnf
          refine ⟨trivial,?_⟩
         rotate_right
         focus
          conv=>whnf
          refine ⟨by kernel_rfl,?_⟩
          conv=>whnf
          refine ⟨hp17,?_⟩
          conv=>whnf
          intro fp30
          conv=>whnf
          refine ⟨by kernel_rfl,?_⟩
          conv=>whnf
          refine ⟨hp19,?_⟩
          conv=>whnf
          refine ⟨trivial,?_⟩
        rotate_right
        focus
         conv=>whnf
         refine ⟨?_,?_⟩
         rotate_left
         focus
          conv=>whnf
          refine ⟨by kernel_rfl,?_⟩
          conv=>whnf
          refine ⟨hp17,?_⟩
          conv=>whnf
          intro fp30
          conv=>whnf
          refine ⟨by kernel_rfl,?_⟩
          conv=>whnf
          refine ⟨hp19,?_⟩
          conv=>whnf
          refine ⟨trivial,?_⟩
         rotate_right
         focus
          conv=>whnf
          refine ⟨by kernel_rfl,?_⟩
          conv=>whnf
          refine ⟨hp17,?_⟩
          conv=>whnf
          intro fp30
          conv=>whnf
          refine ⟨?_,?_⟩
          rotate_left
          focus
           conv=>whnf
           refine ⟨by kernel_rfl,?_⟩
           conv=>whnf
           refine ⟨hp19,?_⟩
           conv=>whnf
           refine ⟨trivial,?_⟩
          rotate_right
          focus
           conv=>whnf
           refine ⟨by kernel_rfl,?_⟩
           conv=>whnf
           refine ⟨hp19,?_⟩
           conv=>whnf
           refine ⟨trivial,?_⟩
       rotate_right
       focus
        conv=>whnf
        refine ⟨by kernel_rfl,?_⟩
        conv=>whnf
        refine ⟨hp17,?_⟩
        conv=>whnf
        intro fp30
        conv=>whnf
        refine ⟨?_,?_⟩
        rotate_left
        focus
         conv=>whnf
         refine ⟨by kernel_rfl,?_⟩
         conv=>whnf
         refine ⟨hp19,?_⟩
         conv=>whnf
         refine ⟨trivial,?_⟩
        rotate_right
        focus
         conv=>whnf
         refine ⟨?_,?_⟩
         rotate_left
         focus
          conv=>whnf
          refine ⟨by kernel_rfl,?_⟩
          conv=>whnf
          refine ⟨hp19,?_⟩
          conv=>whnf
          refine ⟨trivial,?_⟩
         rotate_right
         focus
          conv=>whnf
          refine ⟨by kernel_rfl,?_⟩
          conv=>whnf
          refine ⟨hp19,?_⟩
          conv=>whnf
          refine ⟨trivial,?_⟩
      all_goals
       conv=>whnf
       refine ⟨by kernel_rfl,?_⟩
       conv=>whnf
       refine ⟨by kernel_rfl,?_⟩
       conv=>whnf
       refine ⟨by kernel_rfl,?_⟩
       conv=>whnf
       refine Ze h (fun l07Lumped0 hb20 h=>?_)
       conv=>whnf
       intro fp21
       conv=>whnf
       refine ⟨by kernel_rfl,?_⟩
       conv=>whnf
       refine Yk h (fun hp22 h=>?_)
       conv=>whnf
       intro fp23
       conv=>whnf
       refine Ze h (fun l08Attach0 hb24 h=>?_)
       conv=>whnf
       intro fp25
       conv=>whnf
       intro fp26
       conv=>whnf
       intro fp27
       conv=>whnf
       refine ⟨trivial,?_⟩
       conv=>whnf
       cases h
       exact hK
     focus
      conv=>whnf
      refine vAt h (fun x2 he31a he31b he31x h=>?_)
      conv=>whnf
      refine ⟨by kernel_rfl,?_⟩
      conv=>whnf
      refine ⟨by decide,?_⟩
      conv=>whnf
      refine ⟨he31a,he31b,Zh he31x ?_⟩
      conv=>whnf
      refine ⟨by kernel_rfl,?_⟩
      conv=>whnf
      refine ⟨by kernel_rfl,?_⟩
      conv=>whnf
      refine ⟨by kernel_rfl,?_⟩
      conv=>whnf
      refine ⟨by kernel_rfl,?_⟩
      conv=>whnf
      obtain ⟨hp33,h⟩:=guardE h
      obtain ⟨hp35,h⟩:=guardE h
      refine ⟨?_,?_⟩
      rotate_left
      focus
       conv=>whnf
       refine ⟨?_,?_⟩
       rotate_left
       focus
        conv=>whnf
        refine ⟨?_,?_⟩
        rotate_left
        focus
         conv=>whnf
         intro fp45
         conv=>whnf
         refine ⟨by kernel_rfl,?_⟩
         conv=>whnf
         refine ⟨hp33,?_⟩
         conv=>whnf
         intro fp46
         conv=>whnf
         refine ⟨by kernel_rfl,?_⟩
         conv=>whnf
         refine ⟨hp35,?_⟩
         conv=>whnf
         refine ⟨trivial,?_⟩
        rotate_right
        focus
         conv=>whnf
         intro fp45
         conv=>whnf
         refine ⟨?_,?_⟩
         rotate_left
         focus
          conv=>whnf
          refine ⟨by kernel_rfl,?_⟩
          conv=>whnf
          refine ⟨hp33,?_⟩
          conv=>whnf
          intro fp46
          conv=>whnf
          refine ⟨by kernel_rfl,?_⟩
          conv=>whnf
          refine ⟨hp35,?_⟩
          conv=>whnf
          refine ⟨trivial,?_⟩
         rotate_right
         focus
          conv=>whnf
          refine ⟨by kernel_rfl,?_⟩
          conv=>whnf
          refine ⟨hp33,?_⟩
          conv=>whnf
          intro fp46
          conv=>whnf
          refine ⟨by kernel_rfl,?_⟩
          conv=>whnf
          refine ⟨hp35,?_⟩
          conv=>whnf
          refine ⟨trivial,?_⟩
       rotate_right
       focus
        conv=>whnf
        refine ⟨?_,?_⟩
        rotate_left
        focus
         conv=>whnf
         intro fp45
         conv=>whnf
         refine ⟨by kernel_rfl,?_⟩
         conv=>whnf
         refine ⟨hp33,?_⟩
         conv=>whnf
         intro fp46
         conv=>whnf
         refine ⟨by kernel_rfl,?_⟩
         conv=>whnf
         refine ⟨hp35,?_⟩
         conv=>whnf
         refine ⟨trivial,?_⟩
        rotate_right
        focus
         conv=>whnf
         intro fp45
         conv=>whnf
         refine ⟨?_,?_⟩
         rotate_left
         focus
          conv=>whnf
          refine ⟨by kernel_rfl,?_⟩
          conv=>whnf
          refine ⟨hp33,?_⟩
          conv=>whnf
          intro fp46
          conv=>whnf
          refine ⟨by kernel_rfl,?_⟩
          conv=>whnf
          refine ⟨hp35,?_⟩
          conv=>whnf
          refine ⟨trivial,?_⟩
         rotate_right
         focus
          conv=>whnf
          refine ⟨by kernel_rfl,?_⟩
          conv=>whnf
          refine ⟨hp33,?_⟩
          conv=>whnf
          intro fp46
          conv=>whnf
          refine ⟨?_,?_⟩
          rotate_left
          focus
           conv=>whnf
           refine ⟨by kernel_rfl,?_⟩
           conv=>whnf
           refine ⟨hp35,?_⟩
           conv=>whnf
           refine ⟨trivial,?_⟩
          rotate_right
          focus
           conv=>whnf
           refine ⟨by kernel_rfl,?_⟩
           conv=>whnf
           refine ⟨hp35,?_⟩
           conv=>whnf
           refine ⟨trivial,?_⟩
      rotate_right
      focus
       conv=>whnf
       intro fp45
       conv=>whnf
       refine ⟨?_,?_⟩
       rotate_left
       focus
        conv=>whnf
        refine ⟨?_,?_⟩
        rotate_left
        focus
         conv=>whnf
         refine ⟨?_,?_⟩
         rotate_left
         focus
          conv=>whnf
          refine ⟨by kernel_rfl,?_⟩
          conv=>whnf
          refine ⟨hp33,?_⟩
          conv=>whnf
          intro fp46
          conv=>whnf
          refine ⟨by kernel_rfl,?_⟩
          conv=>whnf
          refine ⟨hp35,?_⟩
          conv=>whnf
          refine ⟨trivial,?_⟩
         rotate_right
         focus
          conv=>whnf
          refine ⟨by kernel_rfl,?_⟩
          conv=>whnf
          refine ⟨hp33,?_⟩
          conv=>whnf
          intro fp46
          conv=>whnf
          refine ⟨by kernel_rfl,?_⟩
          conv=>whnf
          refine ⟨hp35,?_⟩
          conv=>whnf
          refine ⟨trivial,?_⟩
        rotate_right
        focus
         conv=>whnf
         refine ⟨?_,?_⟩
         rotate_left
         focus
          conv=>whnf
          refine ⟨by kernel_rfl,?_⟩
          conv=>whnf
          refine ⟨hp33,?_⟩
          conv=>whnf
          intro fp46
          conv=>whnf
          refine ⟨by kernel_rfl,?_⟩
          conv=>whnf
          refine ⟨hp35,?_⟩
          conv=>whnf
          refine ⟨trivial,?_⟩
         rotate_right
         focus
          conv=>whnf
          refine ⟨by kernel_rfl,?_⟩
          conv=>whnf
          refine ⟨hp33,?_⟩
          conv=>whnf
          intro fp46
          conv=>whnf
          refine ⟨?_,?_⟩
          rotate_left
          focus
           conv=>whnf
           refine ⟨by kernel_rfl,?_⟩
           conv=>whnf
           refine ⟨hp35,?_⟩
           conv=>whnf
           refine ⟨trivial,?_⟩
          rotate_right
          focus
           conv=>whnf
           refine ⟨by kernel_rfl,?_⟩
           conv=>whnf
           refine ⟨hp35,?_⟩
           conv=>whnf
           refine ⟨trivial,?_⟩
       rotate_right
       focus
        conv=>whnf
        refine ⟨by kernel_rfl,?_⟩
        conv=>whnf
        refine ⟨hp33,?_⟩
        conv=>whnf
        intro fp46
        conv=>whnf
        refine ⟨?_,?_⟩
        rotate_left
        focus
         conv=>whnf
         refine ⟨by kernel_rfl,?_⟩
         conv=>whnf
         refine ⟨hp35,?_⟩
         conv=>whnf
         refine ⟨trivial,?_⟩
        rotate_right
        focus
         conv=>whnf
         refine ⟨?_,?_⟩
         rotate_left
         focus
          conv=>whnf
          refine ⟨by kernel_rfl,?_⟩
          conv=>whnf
          refine ⟨hp35,?_⟩
          conv=>whnf
          refine ⟨trivial,?_⟩
         rotate_right
         focus
          conv=>whnf
          refine ⟨by kernel_rfl,?_⟩
          conv=>whnf
          refine ⟨hp35,?_⟩
          conv=>whnf
          refine ⟨trivial,?_⟩
      all_goals
       conv=>whnf
       refine ⟨by kernel_rfl,?_⟩
       conv=>whnf
       refine ⟨by kernel_rfl,?_⟩
       conv=>whnf
       refine ⟨by kernel_rfl,?_⟩
       conv=>whnf
       refine Ze h (fun l07Lumped0 hb36 h=>?_)
       conv=>whnf
       intro fp37
       conv=>whnf
       refine ⟨by kernel_rfl,?_⟩
       conv=>whnf
       refine Yk h (fun hp38 h=>?_)
       conv=>whnf
       intro fp39
       conv=>whnf
       refine Ze h (fun l08Attach0 hb40 h=>?_)
       conv=>whnf
       intro fp41
       conv=>whnf
       intro fp42
       conv=>whnf
       intro fp43
       conv=>whnf
       refine ⟨trivial,?_⟩
       conv=>whnf
       cases h
       exact hK
end Go.Proofs.YtnnbgbgapogckaaGreatDoor
