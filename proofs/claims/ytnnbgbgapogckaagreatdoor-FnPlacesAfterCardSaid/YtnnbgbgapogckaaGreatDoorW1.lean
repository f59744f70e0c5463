/-
  The functions keep their contracts, if what they call does. Printed by program.
-/
import Derived.Test.YtnnbgbgapogckaaGreatDoorM
import Derived.KernelRfl
namespace Go.Proofs.YtnnbgbgapogckaaGreatDoor
open Go Go.Sx
set_option maxRecDepth 100000
set_option maxHeartbeats 6400000
set_option linter.unusedVariables false
set_option linter.unusedSimpArgs false
structure Ws1:Prop where
 w147:Sq 276 c146→Sq 279 ZBk
 w138:Sq 278 ZBg→Sq 159 ZA2→Sq 295 c138
 w137:Sq 274 ZA4→Sq 278 ZBg
 w158:Sq 209 c152→Sq 159 ZA2→Sq 189 c157→Sq 155 ZBm
 w182:Sq 83 ZBo→Sq 210 c175→Sq 211 ZM0→Sq 212 ZA3→Sq 213 ZM7→Sq 214 ZM8→Sq 215 ZM9→Sq 158 ZAL→Sq 84 ZAN→Sq 152 c182
 w150:Sq 216 ZAB→Sq 188 Zy7→Sq 153 ZAM
 w130:Sq 307 ZA9→Sq 308 ZBa→Sq 306 c130
 w173:Sq 244 c173
 w120:Sq 292 ZAK
 w115:Sq 274 ZA4
 w169:Sq 265 c168→Sq 242 ZDR
 w124:Sq 231 ZA6→Sq 189 c124
 w82:Sq 114 c23→Sq 147 c22→Sq 254 c82
 w26:Sq 327 c25→Sq 114 c23→Sq 318 c26
 w1:Sq 42 c1
 w25:Sq 114 c23→Sq 327 c25
 w10:Sq 238 c8→Sq 239 c9→Sq 197 c10
 w6:Sq 301 c5→Sq 286 c6
 w8:Sq 44 c2→Sq 263 c3→Sq 264 c7→Sq 238 c8
 w17:Sq 44 c2→Sq 219 c15→Sq 161 c16→Sq 164 c17
 w73:Sq 96 c13→Sq 139 c14→Sq 173 c73
 w44:Sq 141 c44
 w94:Sq 96 c13→Sq 115 c93→Sq 311 c94
 w105:Sq 311 c94→Sq 312 c97→Sq 314 c98→Sq 317 ZAX→Sq 299 c105
 w106:Sq 298 ZAV→Sq 299 c105→Sq 283 ZAY
set_option maxHeartbeats 100000000 in
theorem ws1:Ws1:=by
 refine ⟨(fun q0=>Zm ZL (Zg q0 Zu) mixed {} Tryz.func279 (hvc:=?_)),
 (fun q0 q1=>Zm ZL (Zg q0 (Zg q1 Zu)) mixed {} Tryz.func295 (hvc:=?_)),
 (fun q0=>Zm ZL (Zg q0 Zu) mixed {} Tryz.func278 (hvc:=?_)),
 (fun q1 q2 q0=>Zm ZL (Zg q1 (Zg q2 (Zg q0 Zu))) mixed {draws:=[(1,[0,1,0,4,12,28,63,127,255,511,1023,255,2303,255,8447,30975,63743,129279,260351,524287,1048575,2097151,4194303,8388607,4194303,33554431,67108863,134217727,268435455],.op 0 (.op 1 (.op 2 (.op 3 (.alt 4 (.op 5 (.alt 6 (.op 7 (.op 8 (.op 9 (.op 10 (.op 11 (.op 12 (.op 13 (.op 14 (.op 15 (.op 16 (.op 17 (.op 18 (.op 19 (.op 20 (.op 21 (.op 22 (.op 23 (.op 24 (.alt 25 (.op 26 (.op 27 (.op 28 (.done)))) (.done)))))))))))))))))))) (.done))) (.done))))))]} Tryz.func155 (hvc:=?_)),
 (fun q2 q5 q6 q7 q3 q1 q0 q4 q8=>Zm ZL (Zg q2 (Zg q5 (Zg q6 (Zg q7 (Zg q3 (Zg q1 (Zg q0 (Zg q4 (Zg q8 Zu))))))))) mixed {draws:=[(6,[0,1,3,7,15,31,63,127,255,511,1023,255,2303,255,8447,30975,63743,129279,262143,524287,255,1048831,3145983,255,8388863,32506111,66060543,134217727,268435455,536870911],.op 0 (.op 1 (.op 2 (.op 3 (.op 4 (.op 5 (.op 6 (.op 7 (.op 8 (.op 9 (.op 10 (.op 11 (.op 12 (.op 13 (.op 14 (.op 15 (.op 16 (.op 17 (.op 18 (.op 19 (.op 20 (.op 21 (.op 22 (.op 23 (.op 24 (.op 25 (.op 26 (.alt 27 (.op 28 (.op 29 (.done))) (.done))))))))))))))))))))))))))))),(12,[0,0,2,7,15,31,63,127,255,255,767,2047,4095,8191,255,16639,65535,131071,262143],.op 0 (.op 1 (.op 2 (.op 3 (.op 4 (.op 5 (.op 6 (.op 7 (.op 8 (.op 9 (.op 10 (.op 11 (.op 12 (.op 13 (.op 14 (.op 15 (.op 16 (.op 17 (.op 18 (.done)))))))))))))))))))),(13,[0,1,0,4,0,16,60,124,252,508,1023,2047],.op 0 (.op 1 (.op 2 (.op 3 (.op 4 (.op 5 (.op 6 (.op 7 (.op 8 (.alt 9 (.alt 10 (.op 11 (.done)) (.done)) (.done)))))))))))]} Tryz.func152 (hvc:=?_)),
 (fun q1 q0=>Zm ZL (Zg q1 (Zg q0 Zu)) mixed {loops:=[(0,[.reg 3 (.own (.ol 9 (.flat (.str)))),.reg 9 (.dat Iq)])]} Tryz.func153 (hvc:=?_)),
 (fun q1 q0=>Zm ZL (Zg q1 (Zg q0 Zu)) mixed {} Tryz.func306 (hvc:=?_)),
 (Zm ZL Zu mixed {} Tryz.func244 (hvc:=?_)),
 (Zm ZL Zu mixed {} Tryz.func292 (hvc:=?_)),
 (Zm ZL Zu mixed {} Tryz.func274 (hvc:=?_)),
 (fun q0=>Zm ZL (Zg q0 Zu) mixed {} Tryz.func242 (hvc:=?_)),
 (fun q0=>Zm ZL (Zg q0 Zu) mixed {} Tryz.func189 (hvc:=?_)),
 (fun q1 q0=>Zm ZL (Zg q1 (Zg q0 Zu)) mixed {loops:=[(0,[.reg 4 (.dat Iq)])]} Tryz.func254 (hvc:=?_)),
 (fun q0 q1=>Zm ZL (Zg q0 (Zg q1 Zu)) mixed {loops:=[(0,[.reg 3 (.dat Iq)])]} Tryz.func318 (hvc:=?_)),
 (Zm ZL Zu mixed {loops:=[(0,[.reg 4 (.dat Iq),.cell 1007 2 Iq])],draws:=[(5,[0,0,2,6,14,30,0,0,192,448,960,2046,4094,8191,16383,32767],.op 0 (.op 1 (.op 2 (.op 3 (.op 4 (.op 5 (.op 6 (.op 7 (.op 8 (.op 9 (.alt 10 (.op 11 (.op 12 (.op 13 (.op 14 (.alt 15 (.done) (.done)))))) (.done))))))))))))]} Tryz.func42 (hvc:=?_)),
 (fun q0=>Zm ZL (Zg q0 Zu) mixed {loops:=[(0,[.reg 3 (.dat Iq)])],draws:=[(4,[0,0,3,7,15,31,63,127,255,511,1023,1023,3071,8191,16383,1023,1023,99327,230399,524287,1048575,2097151],.op 0 (.op 1 (.op 2 (.op 3 (.alt 4 (.op 5 (.op 6 (.op 7 (.op 8 (.op 9 (.op 10 (.op 11 (.op 12 (.op 13 (.op 14 (.op 15 (.op 16 (.op 17 (.op 18 (.op 19 (.op 20 (.op 21 (.done)))))))))))))))))) (.done))))))]} Tryz.func327 (hvc:=?_)),
 (fun q1 q0=>Zm VX (Zg q1 (Zg q0 Zu)) mixed {} Tryz.func197 (hvc:=?_)),
 (fun q0=>Zm VX (Zg q0 Zu) mixed {draws:=[(2,[0,0,0,6,15,31],.op 1 (.op 2 (.alt 0 (.alt 3 (.alt 4 (.op 5 (.done)) (.done)) (.done)) (.alt 3 (.alt 0 (.alt 4 (.op 5 (.done)) (.done)) (.done)) (.done)))))]} Tryz.func286 (hvc:=?_)),
 (fun q2 q1 q0=>Zm VX (Zg q2 (Zg q1 (Zg q0 Zu))) mixed {loops:=[(0,[.reg 9 (.own (.ol 255 (.flat (Zl9)))),.reg 10 (.dat Iq),.cell 1000 0 (.sl (.int .u8)),.cell 1000 1 Iq,.cell 1000 2 Iq]),(2,[.reg 12 (.own (.ol 219 (ZmF))),.reg 13 (.dat Iq),.cell 1000 0 (.sl (.int .u8)),.cell 1000 1 Iq,.cell 1000 2 Iq])],draws:=[(7,[0,0,0,4,14,30,0,64,192,510,1022,2047,4095],.op 0 (.op 1 (.op 2 (.op 3 (.op 4 (.op 6 (.alt 5 (.alt 7 (.op 8 (.op 9 (.alt 10 (.alt 11 (.op 12 (.done)) (.done)) (.done)))) (.done)) (.alt 7 (.op 8 (.alt 5 (.op 9 (.alt 10 (.alt 11 (.op 12 (.done)) (.done)) (.done))) (.done))) (.done)))))))))]} Tryz.func238 (hvc:=?_)),
 (fun q1 q0 q2=>Zm ZL (Zg q1 (Zg q0 (Zg q2 Zu))) mixed {loops:=[(0,[.reg 6 (.dat Iq),.cell 1000 0 (.sl (.int .u8)),.cell 1000 1 Iq,.cell 1000 2 Iq,.cello 1005 0 (.ol (nat_lit 2) (.flat (Ty.int IntKind.i64))),.cello 1005 1 (.ol (nat_lit 2) (.flat (Ty.int IntKind.i64))),.cello 1005 2 (.ol (nat_lit 2) (.flat (Ty.int IntKind.i64))),.cello 1005 3 (.ol (nat_lit 2) (.flat (Ty.int IntKind.i64)))]),(2,[.reg 8 (.dat Iq),.cell 1000 0 (.sl (.int .u8)),.cell 1000 1 Iq,.cell 1000 2 Iq,.ent 10 (nat_lit 2) (.flat (Ty.int IntKind.i64))])],draws:=[(6,[0,1,3,0,0,31,63,127,0,256,1023,0,4095,8191,16383,0,32768,131071,0,524287,1048575,2097151,0,4194304,16777215,33554431],.op 0 (.op 1 (.op 3 (.op 4 (.op 8 (.op 11 (.op 15 (.op 18 (.op 22 (.ld 9 (.ld 16 (.ld 23 (.alt 2 (.alt 5 (.alt 6 (.alt 7 (.alt 10 (.alt 12 (.alt 13 (.alt 14 (.alt 17 (.alt 19 (.alt 20 (.alt 21 (.op 24 (.alt 25 (.done) (.done))) (.done)) (.done)) (.done)) (.done)) (.done)) (.done)) (.done)) (.done)) (.done)) (.done)) (.done)) (.done)))))))))))))),(10,[0,1,0,0,0,16,48,120,255,511],.op 0 (.op 2 (.op 3 (.op 4 (.op 5 (.op 6 (.ld 1 (.alt 7 (.op 8 (.alt 9 (.done) (.done))) (.done)))))))))]} Tryz.func164 (hvc:=?_)),
 (fun q0 q1=>Zm ZL (Zg q0 (Zg q1 Zu)) mixed {loops:=[(0,[.reg 4 (.dat Iq),.ent 2 (nat_lit 2) (.flat Znz.ety)]),(2,[.reg 6 (.dat Iq),.ent 2 (nat_lit 2) (.flat Znz.ety)])],draws:=[(9,[0,0,0,6,14,0,32,0,224,480,992,0,4064,8160,16383,32767],.op 0 (.op 1 (.op 2 (.op 3 (.op 4 (.op 5 (.op 6 (.op 7 (.op 8 (.op 9 (.op 10 (.op 11 (.op 12 (.op 13 (.op 14 (.alt 15 (.done) (.done)))))))))))))))))]} Tryz.func173 (hvc:=?_)),
 (Zm ZL Zu mixed {loops:=[(0,[.reg 5 (.dat Iq)])]} Tryz.func141 (hvc:=?_)),
 (fun q0 q1=>Zm ZL (Zg q0 (Zg q1 Zu)) mixed {draws:=[(1,[0,1,3,0,8,24,63,127,0,511],.op 0 (.op 1 (.op 3 (.op 4 (.op 5 (.alt 2 (.op 6 (.op 7 (.alt 8 (.alt 9 (.done) (.done)) (.done)))) (.alt 8 (.alt 2 (.op 6 (.op 7 (.alt 9 (.done) (.done)))) (.done)) (.done)))))))),(2,[0,1,3,0,8,24,0,64,248,504,1016,2047,4095,8191,0,16384,65535,131071,0,0,524288,1835008,3932160,8126464,4194303,33554431],.op 0 (.op 1 (.op 2 (.op 3 (.op 4 (.op 5 (.op 6 (.op 7 (.op 8 (.op 9 (.op 10 (.op 11 (.op 12 (.op 13 (.op 14 (.op 15 (.op 16 (.op 17 (.op 18 (.op 19 (.op 20 (.alt 21 (.op 22 (.alt 23 (.alt 24 (.op 25 (.done)) (.done)) (.alt 24 (.alt 23 (.op 25 (.done)) (.done)) (.done)))) (.done)))))))))))))))))))))))]} Tryz.func311 (hvc:=?_)),
 (fun q2 q0 q3 q1=>Zm ZL (Zg q2 (Zg q0 (Zg q3 (Zg q1 Zu)))) mixed {draws:=[(4,[0,0,0,6,0,16,0,0,255,511,1023],.op 0 (.op 1 (.op 2 (.op 4 (.op 5 (.op 6 (.op 7 (.alt 3 (.alt 8 (.op 9 (.op 10 (.done))) (.done)) (.done)))))))))]} Tryz.func299 (hvc:=?_)),
 (fun q0 q1=>Zm ZL (Zg q0 (Zg q1 Zu)) mixed {draws:=[(1,[0,0,0,0,8,31,0,0,0,0,512,2047,4095,0,16383],.op 0 (.op 1 (.op 2 (.op 3 (.op 4 (.op 6 (.op 7 (.op 8 (.op 9 (.op 10 (.alt 5 (.alt 11 (.op 12 (.alt 13 (.alt 14 (.done) (.done)) (.done))) (.alt 13 (.alt 11 (.op 12 (.alt 14 (.done) (.done))) (.done)) (.done))) (.alt 13 (.alt 5 (.alt 11 (.op 12 (.alt 14 (.done) (.done))) (.done)) (.done)) (.done))))))))))))),(2,[0,0,0,4,15,0,0,0,128,511,1023,0,4095],.op 0 (.op 1 (.op 2 (.op 3 (.op 5 (.op 6 (.op 7 (.op 8 (.alt 4 (.alt 9 (.op 10 (.alt 11 (.alt 12 (.done) (.done)) (.done))) (.alt 11 (.alt 9 (.op 10 (.alt 12 (.done) (.done))) (.done)) (.done))) (.alt 11 (.alt 4 (.alt 9 (.op 10 (.alt 12 (.done) (.done))) (.done)) (.done)) (.done))))))))))),(3,[0,1,0,0,0,0,32,124,255,511,1023],.op 0 (.op 1 (.op 2 (.op 3 (.op 4 (.op 5 (.op 6 (.alt 7 (.op 8 (.op 9 (.alt 10 (.done) (.done)))) (.done))))))))),(4,[0,1,0,0,0,0,32,124,255,511,1023],.op 0 (.op 1 (.op 2 (.op 3 (.op 4 (.op 5 (.op 6 (.alt 7 (.op 8 (.op 9 (.alt 10 (.done) (.done)))) (.done))))))))),(5,[0,1,0,0,0,16,60,127,255,511],.op 0 (.op 1 (.op 2 (.op 3 (.op 4 (.op 5 (.alt 6 (.op 7 (.op 8 (.alt 9 (.done) (.done)))) (.done)))))))),(6,[0,1,0,0,0,16,60,127,255,511],.op 0 (.op 1 (.op 2 (.op 3 (.op 4 (.op 5 (.alt 6 (.op 7 (.op 8 (.alt 9 (.done) (.done)))) (.done)))))))),(7,[0,0,1,7],.op 0 (.alt 1 (.alt 2 (.alt 3 (.done) (.done)) (.done)) (.alt 2 (.alt 1 (.alt 3 (.done) (.done)) (.done)) (.done))))]} Tryz.func283 (hvc:=?_))⟩
 all_goals
  intro a
  repeat rcases a with ⟨_,a⟩
  rintro K ⟨r,h,hK⟩
  repeat'
    conv=>whnf
    first
    | with_reducible refine ZoK ?_
    | with_reducible refine ZnK (by assumption) (by assumption) (by assumption) ?_
    | with_reducible refine Zh (by assumption) ?_
    | with_reducible refine ZnS (by assumption) ?_
    | (with_reducible refine shD ?_);first | refine ZG h (fun h=>?_) (fun h=>?_) | refine ZcV h (fun h=>?_) (fun h=>?_)
    | (with_reducible refine ZoO ?_);first | refine Zj4 ?_ | refine Yc ?_
    | (with_reducible refine Zo6 ?_);first | refine Qn h (fun h=>?_) (fun h=>?_) | refine Zmk h (fun h=>?_) (fun h=>?_)
    | (with_reducible refine ZoN ?_);(refine ⟨fun hd=>?_,?_⟩)<;>try subst hd
    | (with_reducible refine Zo8 ?_);first | with_reducible refine Ze h (fun x hb h=>?_) | refine ZnS (by assumption) ?_ | with_reducible refine pG h (fun hp h=>?_) | with_reducible refine pA h (fun x ha hb hx h=>?_) | with_reducible refine pB h (fun x hb h=>?_) | refine Ze h (fun x hb h=>?_)
    | (with_reducible refine Zo5 ?_);first | with_reducible refine vAt h (fun x ha hb hx h=>?_) | refine ZnK (by assumption) (by assumption) (by assumption) ?_ | with_reducible refine pG h (fun hp h=>?_) | with_reducible refine pA h (fun x ha hb hx h=>?_) | with_reducible refine pB h (fun x hb h=>?_) | refine vAt h (fun x ha hb hx h=>?_)
    | (with_reducible refine ZoM ?_);first | with_reducible refine ZoU h (fun x hb h=>?_) | refine Zh (by assumption) ?_ | with_reducible refine pG h (fun hp h=>?_) | with_reducible refine pA h (fun x ha hb hx h=>?_) | with_reducible refine pB h (fun x hb h=>?_) | refine ZoU h (fun x hb h=>?_)
    | with_reducible refine Zo7 ?_
    | (with_reducible refine Zot ?_);refine ZoC h hK ?_;clear h hK;intro I μ v r h hK;(repeat rcases v with ⟨_,v⟩);(try dsimp only at h)
    | with_reducible refine ⟨by assumption,?_⟩
    | with_reducible refine orL ?_
    | with_reducible refine .inr ?_
    | (with_reducible refine ZoP ?_);first | refine ⟨?_,True.intro⟩ | refine ⟨?_,?_⟩
    | refine ⟨by kernel_rfl,?_⟩
    | refine ⟨by decide,?_⟩
    | with_reducible refine Yk h (fun hp h=>?_)
    | intro fp
    | exact trivial
    | with_reducible exact ZoJ h
    | (refine pS h (fun e=>?_));subst e;(repeat (first | exact hK | exact ⟨⟨rfl,rfl⟩,hK.1 _ rfl⟩ | (refine pR hK (fun e hK=>?_));subst e));done
    | refine Yk h (fun hp h=>?_)
    | refine ⟨by assumption,?_⟩
    | with_reducible refine pG h (fun hp h=>?_) | with_reducible refine pA h (fun x ha hb hx h=>?_) | with_reducible refine pB h (fun x hb h=>?_)
    | refine pG h (fun hp h=>?_)
    | fail
theorem w21 (q0:Sq 44 c2):Sq 124 c21:=by
 refine Zm ZL (Zg q0 Zu) mixed {draws:=[(1,[0,0,2,7,15,0,38,102,230,0,614,1638,3686,8191,0,32767],.op 1 (.op 5 (.op 9 (.alt 0 (.alt 2 (.op 3 (.alt 4 (.alt 6 (.op 7 (.op 8 (.alt 10 (.op 11 (.op 12 (.op 13 (.alt 14 (.alt 15 (.done) (.done)) (.done))))) (.alt 14 (.alt 10 (.op 11 (.op 12 (.op 13 (.alt 15 (.done) (.done))))) (.done)) (.done))))) (.alt 14 (.alt 6 (.op 7 (.op 8 (.alt 10 (.op 11 (.op 12 (.op 13 (.alt 15 (.done) (.done))))) (.done)))) (.done)) (.done))) (.alt 6 (.op 7 (.op 8 (.alt 4 (.alt 10 (.op 11 (.op 12 (.op 13 (.alt 14 (.alt 15 (.done) (.done)) (.done))))) (.alt 14 (.alt 10 (.op 11 (.op 12 (.op 13 (.alt 15 (.done) (.done))))) (.done)) (.done))) (.alt 10 (.op 11 (.op 12 (.alt 4 (.op 13 (.alt 14 (.alt 15 (.done) (.done)) (.done))) (.alt 14 (.alt 4 (.op 13 (.alt 15 (.done) (.done))) (.done)) (.done))))) (.alt 14 (.alt 4 (.alt 10 (.op 11 (.op 12 (.op 13 (.alt 15 (.done) (.done))))) (.done)) (.alt 10 (.op 11 (.op 12 (.alt 4 (.op 13 (.alt 15 (.done) (.done))) (.done)))) (.done))) (.done)))))) (.alt 14 (.alt 4 (.alt 6 (.op 7 (.op 8 (.alt 10 (.op 11 (.op 12 (.op 13 (.alt 15 (.done) (.done))))) (.done)))) (.done)) (.alt 6 (.op 7 (.op 8 (.alt 4 (.alt 10 (.op 11 (.op 12 (.op 13 (.alt 15 (.done) (.done))))) (.done)) (.alt 10 (.op 11 (.op 12 (.alt 4 (.op 13 (.alt 15 (.done) (.done))) (.done)))) (.done))))) (.done))) (.done))))) (.alt 14 (.alt 2 (.op 3 (.alt 4 (.alt 6 (.op 7 (.op 8 (.alt 10 (.op 11 (.op 12 (.op 13 (.alt 15 (.done) (.done))))) (.done)))) (.done)) (.alt 6 (.op 7 (.op 8 (.alt 4 (.alt 10 (.op 11 (.op 12 (.op 13 (.alt 15 (.done) (.done))))) (.done)) (.alt 10 (.op 11 (.op 12 (.alt 4 (.op 13 (.alt 15 (.done) (.done))) (.done)))) (.done))))) (.done)))) (.done)) (.done))) (.alt 2 (.alt 0 (.op 3 (.alt 4 (.alt 6 (.op 7 (.op 8 (.alt 10 (.op 11 (.op 12 (.op 13 (.alt 14 (.alt 15 (.done) (.done)) (.done))))) (.alt 14 (.alt 10 (.op 11 (.op 12 (.op 13 (.alt 15 (.done) (.done))))) (.done)) (.done))))) (.alt 14 (.alt 6 (.op 7 (.op 8 (.alt 10 (.op 11 (.op 12 (.op 13 (.alt 15 (.done) (.done))))) (.done)))) (.done)) (.done))) (.alt 6 (.op 7 (.op 8 (.alt 4 (.alt 10 (.op 11 (.op 12 (.op 13 (.alt 14 (.alt 15 (.done) (.done)) (.done))))) (.alt 14 (.alt 10 (.op 11 (.op 12 (.op 13 (.alt 15 (.done) (.done))))) (.done)) (.done))) (.alt 10 (.op 11 (.op 12 (.alt 4 (.op 13 (.alt 14 (.alt 15 (.done) (.done)) (.done))) (.alt 14 (.alt 4 (.op 13 (.alt 15 (.done) (.done))) (.done)) (.done))))) (.alt 14 (.alt 4 (.alt 10 (.op 11 (.op 12 (.op 13 (.alt 15 (.done) (.done))))) (.done)) (.alt 10 (.op 11 (.op 12 (.alt 4 (.op 13 (.alt 15 (.done) (.done))) (.done)))) (.done))) (.done)))))) (.alt 14 (.alt 4 (.alt 6 (.op 7 (.op 8 (.alt 10 (.op 11 (.op 12 (.op 13 (.alt 15 (.done) (.done))))) (.done)))) (.done)) (.alt 6 (.op 7 (.op 8 (.alt 4 (.alt 10 (.op 11 (.op 12 (.op 13 (.alt 15 (.done) (.done))))) (.done)) (.alt 10 (.op 11 (.op 12 (.alt 4 (.op 13 (.alt 15 (.done) (.done))) (.done)))) (.done))))) (.done))) (.done))))) (.alt 6 (.op 7 (.op 8 (.alt 0 (.op 3 (.alt 4 (.alt 10 (.op 11 (.op 12 (.op 13 (.alt 14 (.alt 15 (.done) (.done)) (.done))))) (.alt 14 (.alt 10 (.op 11 (.op 12 (.op 13 (.alt 15 (.done) (.done))))) (.done)) (.done))) (.alt 10 (.op 11 (.op 12 (.alt 4 (.op 13 (.alt 14 (.alt 15 (.done) (.done)) (.done))) (.alt 14 (.alt 4 (.op 13 (.alt 15 (.done) (.done))) (.done)) (.done))))) (.alt 14 (.alt 4 (.alt 10 (.op 11 (.op 12 (.op 13 (.alt 15 (.done) (.done))))) (.done)) (.alt 10 (.op 11 (.op 12 (.alt 4 (.op 13 (.alt 15 (.done) (.done))) (.done)))) (.done))) (.done))))) (.alt 10 (.op 11 (.op 12 (.alt 0 (.op 3 (.alt 4 (.op 13 (.alt 14 (.alt 15 (.done) (.done)) (.done))) (.alt 14 (.alt 4 (.op 13 (.alt 15 (.done) (.done))) (.done)) (.done)))) (.alt 14 (.alt 0 (.op 3 (.alt 4 (.op 13 (.alt 15 (.done) (.done))) (.done))) (.done)) (.done))))) (.alt 14 (.alt 0 (.op 3 (.alt 4 (.alt 10 (.op 11 (.op 12 (.op 13 (.alt 15 (.done) (.done))))) (.done)) (.alt 10 (.op 11 (.op 12 (.alt 4 (.op 13 (.alt 15 (.done) (.done))) (.done)))) (.done)))) (.alt 10 (.op 11 (.op 12 (.alt 0 (.op 3 (.alt 4 (.op 13 (.alt 15 (.done) (.done))) (.done))) (.done)))) (.done))) (.done)))))) (.alt 14 (.alt 0 (.op 3 (.alt 4 (.alt 6 (.op 7 (.op 8 (.alt 10 (.op 11 (.op 12 (.op 13 (.alt 15 (.done) (.done))))) (.done)))) (.done)) (.alt 6 (.op 7 (.op 8 (.alt 4 (.alt 10 (.op 11 (.op 12 (.op 13 (.alt 15 (.done) (.done))))) (.done)) (.alt 10 (.op 11 (.op 12 (.alt 4 (.op 13 (.alt 15 (.done) (.done))) (.done)))) (.done))))) (.done)))) (.alt 6 (.op 7 (.op 8 (.alt 0 (.op 3 (.alt 4 (.alt 10 (.op 11 (.op 12 (.op 13 (.alt 15 (.done) (.done))))) (.done)) (.alt 10 (.op 11 (.op 12 (.alt 4 (.op 13 (.alt 15 (.done) (.done))) (.done)))) (.done)))) (.alt 10 (.op 11 (.op 12 (.alt 0 (.op 3 (.alt 4 (.op 13 (.alt 15 (.done) (.done))) (.done))) (.done)))) (.done))))) (.done))) (.done)))) (.alt 14 (.alt 0 (.alt 2 (.op 3 (.alt 4 (.alt 6 (.op 7 (.op 8 (.alt 10 (.op 11 (.op 12 (.op 13 (.alt 15 (.done) (.done))))) (.done)))) (.done)) (.alt 6 (.op 7 (.op 8 (.alt 4 (.alt 10 (.op 11 (.op 12 (.op 13 (.alt 15 (.done) (.done))))) (.done)) (.alt 10 (.op 11 (.op 12 (.alt 4 (.op 13 (.alt 15 (.done) (.done))) (.done)))) (.done))))) (.done)))) (.done)) (.alt 2 (.alt 0 (.op 3 (.alt 4 (.alt 6 (.op 7 (.op 8 (.alt 10 (.op 11 (.op 12 (.op 13 (.alt 15 (.done) (.done))))) (.done)))) (.done)) (.alt 6 (.op 7 (.op 8 (.alt 4 (.alt 10 (.op 11 (.op 12 (.op 13 (.alt 15 (.done) (.done))))) (.done)) (.alt 10 (.op 11 (.op 12 (.alt 4 (.op 13 (.alt 15 (.done) (.done))) (.done)))) (.done))))) (.done)))) (.alt 6 (.op 7 (.op 8 (.alt 0 (.op 3 (.alt 4 (.alt 10 (.op 11 (.op 12 (.op 13 (.alt 15 (.done) (.done))))) (.done)) (.alt 10 (.op 11 (.op 12 (.alt 4 (.op 13 (.alt 15 (.done) (.done))) (.done)))) (.done)))) (.alt 10 (.op 11 (.op 12 (.alt 0 (.op 3 (.alt 4 (.op 13 (.alt 15 (.done) (.done))) (.done))) (.done)))) (.done))))) (.done))) (.done))) (.done))))))),(2,[0,1,0,4,12,31,63,127],.op 0 (.op 2 (.alt 1 (.alt 3 (.op 4 (.op 5 (.op 6 (.alt 7 (.done) (.done))))) (.done)) (.alt 3 (.op 4 (.alt 1 (.op 5 (.op 6 (.alt 7 (.done) (.done)))) (.done))) (.done))))),(3,[0,1,0,4,12,31,63,127],.op 0 (.op 2 (.alt 1 (.alt 3 (.op 4 (.op 5 (.op 6 (.alt 7 (.done) (.done))))) (.done)) (.alt 3 (.op 4 (.alt 1 (.op 5 (.op 6 (.alt 7 (.done) (.done)))) (.done))) (.done)))))]} (fn:=Tryz.f124) Tryz.func124 (by kernel_rfl) (by kernel_rfl) ?_
 rintro ⟨s0,⟨⟩⟩ K ⟨r,h,hK⟩
 change ZGV s0=some r at h
 unfold ZGV at h
 focus
  conv=>whnf
  refine ⟨by kernel_rfl,?_⟩
  conv=>whnf
  obtain ⟨l01Next0,hb0,h⟩:=Option.bind_eq_some_iff.1 h
  obtain ⟨x0,he1a,he1b,he1x,h⟩:=atE h
  obtain ⟨l01Next1,hb2,h⟩:=Option.bind_eq_some_iff.1 h
  obtain ⟨l01Next2,hb3,h⟩:=Option.bind_eq_some_iff.1 h
  refine ⟨?_,?_⟩
  rotate_left
  focus
   conv=>whnf
   refine ⟨?_,?_⟩
   rotate_left
   focus
    conv=>whnf
    refine ⟨?_,?_⟩
    rotate_left
    focus
     conv=>whnf
     refine ⟨_,hb0,?_⟩
     conv=>whnf
     refine ⟨?_,?_⟩
     rotate_left
     focus
      conv=>whnf
      refine ⟨_,hb2,?_⟩
      conv=>whnf
      refine ⟨?_,?_⟩
      rotate_left
      focus
       conv=>whnf
       refine ⟨_,hb3,?_⟩
       conv=>whnf
       refine ⟨he1a,he1b,Zh he1x ?_⟩
       conv=>whnf
       refine ⟨by kernel_rfl,?_⟩
       conv=>whnf
       refine ⟨he1a,he1b,Zh he1x ?_⟩
       conv=>whnf
       refine ⟨trivial,?_⟩
      rotate_right
      focus
       conv=>whnf
       refine ⟨he1a,he1b,Zh he1x ?_⟩
       conv=>whnf
       refine ⟨?_,?_⟩
       rotate_left
       focus
        conv=>whnf
        refine ⟨_,hb3,?_⟩
        conv=>whnf
        refine ⟨by kernel_rfl,?_⟩
        conv=>whnf
        refine ⟨he1a,he1b,Zh he1x ?_⟩
        conv=>whnf
        refine ⟨trivial,?_⟩
       rotate_right
       focus
        conv=>whnf
        refine ⟨by kernel_rfl,?_⟩
        conv=>whnf
        refine ⟨he1a,he1b,Zh he1x ?_⟩
        conv=>whnf
        refine ⟨_,hb3,?_⟩
        conv=>whnf
        refine ⟨trivial,?_⟩
     rotate_right
     focus
      conv=>whnf
      refine ⟨he1a,he1b,Zh he1x ?_⟩
      conv=>whnf
      refine ⟨?_,?_⟩
      rotate_left
      focus
       conv=>whnf
       refine ⟨_,hb2,?_⟩
       conv=>whnf
       refine ⟨?_,?_⟩
       rotate_left
       focus
        conv=>whnf
        refine ⟨_,hb3,?_⟩
        conv=>whnf
        refine ⟨by kernel_rfl,?_⟩
        conv=>whnf
        refine ⟨he1a,he1b,Zh he1x ?_⟩
        conv=>whnf
        refine ⟨trivial,?_⟩
       rotate_right
       focus
        conv=>whnf
        refine ⟨by kernel_rfl,?_⟩
        conv=>whnf
        refine ⟨he1a,he1b,Zh he1x ?_⟩
        conv=>whnf
        refine ⟨_,hb3,?_⟩
        conv=>whnf
        refine ⟨trivial,?_⟩
      rotate_right
      focus
       conv=>whnf
       refine ⟨by kernel_rfl,?_⟩
       conv=>whnf
       refine ⟨he1a,he1b,Zh he1x ?_⟩
       conv=>whnf
       refine ⟨_,hb2,?_⟩
       conv=>whnf
       refine ⟨_,hb3,?_⟩
       conv=>whnf
       refine ⟨trivial,?_⟩
    rotate_right
    focus
     conv=>whnf
     refine ⟨_,hb0,?_⟩
     conv=>whnf
     refine ⟨he1a,he1b,Zh he1x ?_⟩
     conv=>whnf
     refine ⟨?_,?_⟩
     rotate_left
     focus
      conv=>whnf
      refine ⟨_,hb2,?_⟩
      conv=>whnf
      refine ⟨?_,?_⟩
      rotate_left
      focus
       conv=>whnf
       refine ⟨_,hb3,?_⟩
       conv=>whnf
       refine ⟨by kernel_rfl,?_⟩
       conv=>whnf
       refine ⟨he1a,he1b,Zh he1x ?_⟩
       conv=>whnf
       refine ⟨trivial,?_⟩
      rotate_right
      focus
       conv=>whnf
       refine ⟨by kernel_rfl,?_⟩
       conv=>whnf
       refine ⟨he1a,he1b,Zh he1x ?_⟩
       conv=>whnf
       refine ⟨_,hb3,?_⟩
       conv=>whnf
       refine ⟨trivial,?_⟩
     rotate_right
     focus
      conv=>whnf
      refine ⟨by kernel_rfl,?_⟩
      conv=>whnf
      refine ⟨he1a,he1b,Zh he1x ?_⟩
      conv=>whnf
      refine ⟨_,hb2,?_⟩
      conv=>whnf
      refine ⟨_,hb3,?_⟩
      conv=>whnf
      refine ⟨trivial,?_⟩
   rotate_right
   focus
    conv=>whnf
    refine ⟨_,hb0,?_⟩
    conv=>whnf
    refine ⟨?_,?_⟩
    rotate_left
    focus
     conv=>whnf
     refine ⟨?_,?_⟩
     rotate_left
     focus
      conv=>whnf
      refine ⟨?_,?_⟩
      rotate_left
      focus
       conv=>whnf
       refine ⟨_,hb2,?_⟩
       conv=>whnf
       refine ⟨?_,?_⟩
       rotate_left
       focus
        conv=>whnf
        refine ⟨_,hb3,?_⟩
        conv=>whnf
        refine ⟨he1a,he1b,Zh he1x ?_⟩
        conv=>whnf
        refine ⟨by kernel_rfl,?_⟩
        conv=>whnf
        refine ⟨he1a,he1b,Zh he1x ?_⟩
        conv=>whnf
        refine ⟨trivial,?_⟩
       rotate_right
       focus
        conv=>whnf
        refine ⟨he1a,he1b,Zh he1x ?_⟩
        conv=>whnf
        refine ⟨?_,?_⟩
        rotate_left
        focus
         conv=>whnf
         refine ⟨_,hb3,?_⟩
         conv=>whnf
         refine ⟨by kernel_rfl,?_⟩
         conv=>whnf
         refine ⟨he1a,he1b,Zh he1x ?_⟩
         conv=>whnf
         refine ⟨trivial,?_⟩
        rotate_right
        focus
         conv=>whnf
         refine ⟨by kernel_rfl,?_⟩
         conv=>whnf
         refine ⟨he1a,he1b,Zh he1x ?_⟩
         conv=>whnf
         refine ⟨_,hb3,?_⟩
         conv=>whnf
         refine ⟨trivial,?_⟩
      rotate_right
      focus
       conv=>whnf
       refine ⟨he1a,he1b,Zh he1x ?_⟩
       conv=>whnf
       refine ⟨?_,?_⟩
       rotate_left
       focus
        conv=>whnf
        refine ⟨_,hb2,?_⟩
        conv=>whnf
        refine ⟨?_,?_⟩
        rotate_left
        focus
         conv=>whnf
         refine ⟨_,hb3,?_⟩
         conv=>whnf
         refine ⟨by kernel_rfl,?_⟩
         conv=>whnf
         refine ⟨he1a,he1b,Zh he1x ?_⟩
         conv=>whnf
         refine ⟨trivial,?_⟩
        rotate_right
        focus
         conv=>whnf
         refine ⟨by kernel_rfl,?_⟩
         conv=>whnf
         refine ⟨he1a,he1b,Zh he1x ?_⟩
         conv=>whnf
         refine ⟨_,hb3,?_⟩
         conv=>whnf
         refine ⟨trivial,?_⟩
       rotate_right
       focus
        conv=>whnf
        refine ⟨by kernel_rfl,?_⟩
        conv=>whnf
        refine ⟨he1a,he1b,Zh he1x ?_⟩
        conv=>whnf
        refine ⟨_,hb2,?_⟩
        conv=>whnf
        refine ⟨_,hb3,?_⟩
        conv=>whnf
        refine ⟨trivial,?_⟩
     rotate_right
     focus
      conv=>whnf
      refine ⟨_,hb2,?_⟩
      conv=>whnf
      refine ⟨?_,?_⟩
      rotate_left
      focus
       conv=>whnf
       refine ⟨?_,?_⟩
       rotate_left
       focus
        conv=>whnf
        refine ⟨?_,?_⟩
        rotate_left
        focus
         conv=>whnf
         refine ⟨_,hb3,?_⟩
         conv=>whnf
         refine ⟨he1a,he1b,Zh he1x ?_⟩
         conv=>whnf
         refine ⟨by kernel_rfl,?_⟩
         conv=>whnf
         refine ⟨he1a,he1b,Zh he1x ?_⟩
         conv=>whnf
         refine ⟨trivial,?_⟩
        rotate_right
        focus
         conv=>whnf
         refine ⟨he1a,he1b,Zh he1x ?_⟩
         conv=>whnf
         refine ⟨?_,?_⟩
         rotate_left
         focus
          conv=>whnf
          refine ⟨_,hb3,?_⟩
          conv=>whnf
          refine ⟨by kernel_rfl,?_⟩
          conv=>whnf
          refine ⟨he1a,he1b,Zh he1x ?_⟩
          conv=>whnf
          refine ⟨trivial,?_⟩
         rotate_right
         focus
          conv=>whnf
          refine ⟨by kernel_rfl,?_⟩
          conv=>whnf
          refine ⟨he1a,he1b,Zh he1x ?_⟩
          conv=>whnf
          refine ⟨_,hb3,?_⟩
          conv=>whnf
          refine ⟨trivial,?_⟩
       rotate_right
       focus
        conv=>whnf
        refine ⟨_,hb3,?_⟩
        conv=>whnf
        refine ⟨?_,?_⟩
        rotate_left
        focus
         conv=>whnf
         refine ⟨he1a,he1b,Zh he1x ?_⟩
         conv=>whnf
         refine ⟨by kernel_rfl,?_⟩
         conv=>whnf
         refine ⟨he1a,he1b,Zh he1x ?_⟩
         conv=>whnf
         refine ⟨trivial,?_⟩
        rotate_right
        focus
         conv=>whnf
         refine ⟨he1a,he1b,Zh he1x ?_⟩
         conv=>whnf
         refine ⟨?_,?_⟩
         rotate_left
         focus
          conv=>whnf
          refine ⟨by kernel_rfl,?_⟩
          conv=>whnf
          refine ⟨he1a,he1b,Zh he1x ?_⟩
          conv=>whnf
          refine ⟨trivial,?_⟩
         rotate_right
         focus
          conv=>whnf
          refine ⟨by kernel_rfl,?_⟩
          conv=>whnf
          refine ⟨he1a,he1b,Zh he1x ?_⟩
          conv=>whnf
          refine ⟨trivial,?_⟩
      rotate_right
      focus
       conv=>whnf
       refine ⟨he1a,he1b,Zh he1x ?_⟩
       conv=>whnf
       refine ⟨?_,?_⟩
       rotate_left
       focus
        conv=>whnf
        refine ⟨?_,?_⟩
        rotate_left
        focus
         conv=>whnf
         refine ⟨?_,?_⟩
         rotate_left
         focus
          conv=>whnf
          refine ⟨_,hb3,?_⟩
          conv=>whnf
          refine ⟨by kernel_rfl,?_⟩
          conv=>whnf
          refine ⟨he1a,he1b,Zh he1x ?_⟩
          conv=>whnf
          refine ⟨trivial,?_⟩
         rotate_right
         focus
          conv=>whnf
          refine ⟨by kernel_rfl,?_⟩
          conv=>whnf
          refine ⟨he1a,he1b,Zh he1x ?_⟩
          conv=>whnf
          refine ⟨_,hb3,?_⟩
          conv=>whnf
          refine ⟨trivial,?_⟩
        rotate_right
        focus
         conv=>whnf
         refine ⟨_,hb3,?_⟩
         conv=>whnf
         refine ⟨?_,?_⟩
         rotate_left
         focus
          conv=>whnf
          refine ⟨by kernel_rfl,?_⟩
          conv=>whnf
          refine ⟨he1a,he1b,Zh he1x ?_⟩
          conv=>whnf
          refine ⟨trivial,?_⟩
         rotate_right
         focus
          conv=>whnf
          refine ⟨by kernel_rfl,?_⟩
          conv=>whnf
          refine ⟨he1a,he1b,Zh he1x ?_⟩
          conv=>whnf
          refine ⟨trivial,?_⟩
       rotate_right
       focus
        conv=>whnf
        refine ⟨by kernel_rfl,?_⟩
        conv=>whnf
        refine ⟨he1a,he1b,Zh he1x ?_⟩
        conv=>whnf
        refine ⟨?_,?_⟩
        rotate_left
        focus
         conv=>whnf
         refine ⟨_,hb3,?_⟩
         conv=>whnf
         refine ⟨trivial,?_⟩
        rotate_right
        focus
         conv=>whnf
         refine ⟨_,hb3,?_⟩
         conv=>whnf
         refine ⟨trivial,?_⟩
    rotate_right
    focus
     conv=>whnf
     refine ⟨he1a,he1b,Zh he1x ?_⟩
     conv=>whnf
     refine ⟨?_,?_⟩
     rotate_left
     focus
      conv=>whnf
      refine ⟨?_,?_⟩
      rotate_left
      focus
       conv=>whnf
       refine ⟨?_,?_⟩
       rotate_left
       focus
        conv=>whnf
        refine ⟨_,hb2,?_⟩
        conv=>whnf
        refine ⟨?_,?_⟩
        rotate_left
        focus
         conv=>whnf
         refine ⟨_,hb3,?_⟩
         conv=>whnf
         refine ⟨by kernel_rfl,?_⟩
         conv=>whnf
         refine ⟨he1a,he1b,Zh he1x ?_⟩
         conv=>whnf
         refine ⟨trivial,?_⟩
        rotate_right
        focus
         conv=>whnf
         refine ⟨by kernel_rfl,?_⟩
         conv=>whnf
         refine ⟨he1a,he1b,Zh he1x ?_⟩
         conv=>whnf
         refine ⟨_,hb3,?_⟩
         conv=>whnf
         refine ⟨trivial,?_⟩
       rotate_right
       focus
        conv=>whnf
        refine ⟨by kernel_rfl,?_⟩
        conv=>whnf
        refine ⟨he1a,he1b,Zh he1x ?_⟩
        conv=>whnf
        refine ⟨_,hb2,?_⟩
        conv=>whnf
        refine ⟨_,hb3,?_⟩
        conv=>whnf
        refine ⟨trivial,?_⟩
      rotate_right
      focus
       conv=>whnf
       refine ⟨_,hb2,?_⟩
       conv=>whnf
       refine ⟨?_,?_⟩
       rotate_left
       focus
        conv=>whnf
        refine ⟨?_,?_⟩
        rotate_left
        focus
         conv=>whnf
         refine ⟨?_,?_⟩
         rotate_left
         focus
          conv=>whnf
          refine ⟨_,hb3,?_⟩
          conv=>whnf
          refine ⟨by kernel_rfl,?_⟩
          conv=>whnf
          refine ⟨he1a,he1b,Zh he1x ?_⟩
          conv=>whnf
          refine ⟨trivial,?_⟩
         rotate_right
         focus
          conv=>whnf
          refine ⟨by kernel_rfl,?_⟩
          conv=>whnf
          refine ⟨he1a,he1b,Zh he1x ?_⟩
          conv=>whnf
          refine ⟨_,hb3,?_⟩
          conv=>whnf
          refine ⟨trivial,?_⟩
        rotate_right
        focus
         conv=>whnf
         refine ⟨_,hb3,?_⟩
         conv=>whnf
         refine ⟨?_,?_⟩
         rotate_left
         focus
          conv=>whnf
          refine ⟨by kernel_rfl,?_⟩
          conv=>whnf
          refine ⟨he1a,he1b,Zh he1x ?_⟩
          conv=>whnf
          refine ⟨trivial,?_⟩
         rotate_right
         focus
          conv=>whnf
          refine ⟨by kernel_rfl,?_⟩
          conv=>whnf
          refine ⟨he1a,he1b,Zh he1x ?_⟩
          conv=>whnf
          refine ⟨trivial,?_⟩
       rotate_right
       focus
        conv=>whnf
        refine ⟨by kernel_rfl,?_⟩
        conv=>whnf
        refine ⟨he1a,he1b,Zh he1x ?_⟩
        conv=>whnf
        refine ⟨?_,?_⟩
        rotate_left
        focus
         conv=>whnf
         refine ⟨_,hb3,?_⟩
         conv=>whnf
         refine ⟨trivial,?_⟩
        rotate_right
        focus
         conv=>whnf
         refine ⟨_,hb3,?_⟩
         conv=>whnf
         refine ⟨trivial,?_⟩
     rotate_right
     focus
      conv=>whnf
      refine ⟨by kernel_rfl,?_⟩
      conv=>whnf
      refine ⟨he1a,he1b,Zh he1x ?_⟩
      conv=>whnf
      refine ⟨?_,?_⟩
      rotate_left
      focus
       conv=>whnf
       refine ⟨_,hb2,?_⟩
       conv=>whnf
       refine ⟨_,hb3,?_⟩
       conv=>whnf
       refine ⟨trivial,?_⟩
      rotate_right
      focus
       conv=>whnf
       refine ⟨_,hb2,?_⟩
       conv=>whnf
       refine ⟨?_,?_⟩
       rotate_left
       focus
        conv=>whnf
        refine ⟨_,hb3,?_⟩
        conv=>whnf
        refine ⟨trivial,?_⟩
       rotate_right
       focus
        conv=>whnf
        refine ⟨_,hb3,?_⟩
        conv=>whnf
        refine ⟨trivial,?_⟩
  rotate_right
  focus
   conv=>whnf
   refine ⟨?_,?_⟩
   rotate_left
   focus
    conv=>whnf
    refine ⟨_,hb0,?_⟩
    conv=>whnf
    refine ⟨he1a,he1b,Zh he1x ?_⟩
    conv=>whnf
    refine ⟨?_,?_⟩
    rotate_left
    focus
     conv=>whnf
     refine ⟨_,hb2,?_⟩
     conv=>whnf
     refine ⟨?_,?_⟩
     rotate_left
     focus
      conv=>whnf
      refine ⟨_,hb3,?_⟩
      conv=>whnf
      refine ⟨by kernel_rfl,?_⟩
      conv=>whnf
      refine ⟨he1a,he1b,Zh he1x ?_⟩
      conv=>whnf
      refine ⟨trivial,?_⟩
     rotate_right
     focus
      conv=>whnf
      refine ⟨by kernel_rfl,?_⟩
      conv=>whnf
      refine ⟨he1a,he1b,Zh he1x ?_⟩
      conv=>whnf
      refine ⟨_,hb3,?_⟩
      conv=>whnf
      refine ⟨trivial,?_⟩
    rotate_right
    focus
     conv=>whnf
     refine ⟨by kernel_rfl,?_⟩
     conv=>whnf
     refine ⟨he1a,he1b,Zh he1x ?_⟩
     conv=>whnf
     refine ⟨_,hb2,?_⟩
     conv=>whnf
     refine ⟨_,hb3,?_⟩
     conv=>whnf
     refine ⟨trivial,?_⟩
   rotate_right
   focus
    conv=>whnf
    refine ⟨_,hb0,?_⟩
    conv=>whnf
    refine ⟨he1a,he1b,Zh he1x ?_⟩
    conv=>whnf
    refine ⟨?_,?_⟩
    rotate_left
    focus
     conv=>whnf
     refine ⟨?_,?_⟩
     rotate_left
     focus
      conv=>whnf
      refine ⟨?_,?_⟩
      rotate_left
      focus
       conv=>whnf
       refine ⟨_,hb2,?_⟩
       conv=>whnf
       refine ⟨?_,?_⟩
       rotate_left
       focus
        conv=>whnf
        refine ⟨_,hb3,?_⟩
        conv=>whnf
        refine ⟨by kernel_rfl,?_⟩
        conv=>whnf
        refine ⟨he1a,he1b,Zh he1x ?_⟩
        conv=>whnf
        refine ⟨trivial,?_⟩
       rotate_right
       focus
        conv=>whnf
        refine ⟨by kernel_rfl,?_⟩
        conv=>whnf
        refine ⟨he1a,he1b,Zh he1x ?_⟩
        conv=>whnf
        refine ⟨_,hb3,?_⟩
        conv=>whnf
        refine ⟨trivial,?_⟩
      rotate_right
      focus
       conv=>whnf
       refine ⟨by kernel_rfl,?_⟩
       conv=>whnf
       refine ⟨he1a,he1b,Zh he1x ?_⟩
       conv=>whnf
       refine ⟨_,hb2,?_⟩
       conv=>whnf
       refine ⟨_,hb3,?_⟩
       conv=>whnf
       refine ⟨trivial,?_⟩
     rotate_right
     focus
      conv=>whnf
      refine ⟨_,hb2,?_⟩
      conv=>whnf
      refine ⟨?_,?_⟩
      rotate_left
      focus
       conv=>whnf
       refine ⟨?_,?_⟩
       rotate_left
       focus
        conv=>whnf
        refine ⟨?_,?_⟩
        rotate_left
        focus
         conv=>whnf
         refine ⟨_,hb3,?_⟩
         conv=>whnf
         refine ⟨by kernel_rfl,?_⟩
         conv=>whnf
         refine ⟨he1a,he1b,Zh he1x ?_⟩
         conv=>whnf
         refine ⟨trivial,?_⟩
        rotate_right
        focus
         conv=>whnf
         refine ⟨by kernel_rfl,?_⟩
         conv=>whnf
         refine ⟨he1a,he1b,Zh he1x ?_⟩
         conv=>whnf
         refine ⟨_,hb3,?_⟩
         conv=>whnf
         refine ⟨trivial,?_⟩
       rotate_right
       focus
        conv=>whnf
        refine ⟨_,hb3,?_⟩
        conv=>whnf
        refine ⟨?_,?_⟩
        rotate_left
        focus
         conv=>whnf
         refine ⟨by kernel_rfl,?_⟩
         conv=>whnf
         refine ⟨he1a,he1b,Zh he1x ?_⟩
         conv=>whnf
         refine ⟨trivial,?_⟩
        rotate_right
        focus
         conv=>whnf
         refine ⟨by kernel_rfl,?_⟩
         conv=>whnf
         refine ⟨he1a,he1b,Zh he1x ?_⟩
         conv=>whnf
         refine ⟨trivial,?_⟩
      rotate_right
      focus
       conv=>whnf
       refine ⟨by kernel_rfl,?_⟩
       conv=>whnf
       refine ⟨he1a,he1b,Zh he1x ?_⟩
       conv=>whnf
       refine ⟨?_,?_⟩
       rotate_left
       focus
        conv=>whnf
        refine ⟨_,hb3,?_⟩
        conv=>whnf
        refine ⟨trivial,?_⟩
       rotate_right
       focus
        conv=>whnf
        refine ⟨_,hb3,?_⟩
        conv=>whnf
        refine ⟨trivial,?_⟩
    rotate_right
    focus
     conv=>whnf
     refine ⟨by kernel_rfl,?_⟩
     conv=>whnf
     refine ⟨he1a,he1b,Zh he1x ?_⟩
     conv=>whnf
     refine ⟨?_,?_⟩
     rotate_left
     focus
      conv=>whnf
      refine ⟨_,hb2,?_⟩
      conv=>whnf
      refine ⟨_,hb3,?_⟩
      conv=>whnf
      refine ⟨trivial,?_⟩
     rotate_right
     focus
      conv=>whnf
      refine ⟨_,hb2,?_⟩
      conv=>whnf
      refine ⟨?_,?_⟩
      rotate_left
      focus
       conv=>whnf
       refine ⟨_,hb3,?_⟩
       conv=>whnf
       refine ⟨trivial,?_⟩
      rotate_right
      focus
       conv=>whnf
       refine ⟨_,hb3,?_⟩
       conv=>whnf
       refine ⟨trivial,?_⟩
  all_goals
   focus
    conv=>whnf
    refine ⟨by kernel_rfl,?_⟩
    conv=>whnf
    obtain ⟨l01Next3,hb4,h⟩:=Option.bind_eq_some_iff.1 h
    refine ⟨?_,?_⟩
    rotate_left
    focus
     conv=>whnf
     refine ⟨_,hb4,?_⟩
     conv=>whnf
     refine ⟨trivial,?_⟩
    rotate_right
    focus
     conv=>whnf
     refine ⟨_,hb4,?_⟩
     conv=>whnf
     refine ⟨trivial,?_⟩
    all_goals
     focus
      conv=>whnf
      refine ⟨by kernel_rfl,?_⟩
      conv=>whnf
      obtain ⟨l01Next4,hb5,h⟩:=Option.bind_eq_some_iff.1 h
      refine ⟨?_,?_⟩
      rotate_left
      focus
       conv=>whnf
       refine ⟨_,hb5,?_⟩
       conv=>whnf
       refine ⟨trivial,?_⟩
      rotate_right
      focus
       conv=>whnf
       refine ⟨_,hb5,?_⟩
       conv=>whnf
       refine ⟨trivial,?_⟩
      all_goals
       conv=>whnf
       refine Ze h (fun l01Next5 hb6 h=>?_)
       conv=>whnf
       refine ZG h (fun h=>?_) (fun h=>?_)
       conv=>whnf
       cases h
       exact hK
       conv=>whnf
       refine ZG h (fun h=>?_) (fun h=>?_)
       conv=>whnf
       refine Ze h (fun l01Next6 hb7 h=>?_)
       conv=>whnf
       refine vAt h (fun x1 he8a he8b he8x h=>?_)
       conv=>whnf
       refine ⟨by kernel_rfl,?_⟩
       conv=>whnf
       refine ⟨he8a,he8b,Zh he8x ?_⟩
       conv=>whnf
       cases h
       exact hK
       conv=>whnf
       refine ZG h (fun h=>?_) (fun h=>?_)
       conv=>whnf
       refine Ze h (fun l01Next6 hb9 h=>?_)
       conv=>whnf
       cases h
       exact hK
       conv=>whnf
       refine ZG h (fun h=>?_) (fun h=>?_)
       conv=>whnf
       cases h
       exact hK
       conv=>whnf
       cases h
       exact hK
end Go.Proofs.YtnnbgbgapogckaaGreatDoor
