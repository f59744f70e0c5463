/-
  The functions keep their contracts, if what they call does. Printed by program.
-/
import Derived.Test.YtnnbgbgapogckaaGreatDoorM
import Derived.KernelRfl
namespace Go.Proofs.YtnnbgbgapogckaaGreatDoor
open Go Go.Sx
set_option maxRecDepth 100000
set_option maxHeartbeats 6400000
set_option linter.unusedVariables false
set_option linter.unusedSimpArgs false
structure Ws3:Prop where
 w184:Sq 31 ZBp→Sq 81 c183→Sq 30 ZNa
 w183:Sq 151 ZM3→Sq 152 c182→Sq 81 c183
 w177:Sq 248 ZM5
 w133:Sq 305 ZBb→Sq 293 ZBc
 w122:Sq 159 ZA2→Sq 190 ZA5
 w127:Sq 158 ZAL→Sq 159 ZA2→Sq 109 ZA7→Sq 133 ZA8→Sq 324 c127
 w0:Sq 9 c0
 w142:Sq 296 c141→Sq 276 ZBi
 w174:Sq 244 c173→Sq 243 ZM4
 w160:Sq 157 c159→Sq 218 c160
 w36:Sq 114 c23→Sq 144 c36
 w110:Sq 221 c90→Sq 69 c42→Sq 70 c45→Sq 222 c109→Sq 169 ZAZ
 w28:Sq 300 c27→Sq 285 c28
 w38:Sq 96 c13→Sq 137 c38
 w19:Sq 44 c2→Sq 125 c18→Sq 161 c16→Sq 87 c19
 w72:Sq 166 c69→Sq 167 c70→Sq 168 c71→Sq 91 c72
 w71:Sq 161 c16→Sq 168 c71
 w75:Sq 139 c14→Sq 175 c75
 w58:Sq 146 c58
 w56:Sq 96 c13→Sq 114 c23→Sq 79 c56
 w77:Sq 173 c73→Sq 139 c14→Sq 96 c13→Sq 174 c74→Sq 161 c16→Sq 175 c75→Sq 172 c77
 w84:Sq 77 c37→Sq 69 c42→Sq 135 c83→Sq 67 c84
 w48:Sq 240 c48
 w102:Sq 311 c94→Sq 312 c97→Sq 314 c98→Sq 313 ZAT→Sq 316 ZAU→Sq 315 c96→Sq 298 ZAV
 w91:Sq 257 c91
 w108:Sq 283 ZAY→Sq 284 c107→Sq 258 ZAv
 w86:Sq 281 c86
set_option maxHeartbeats 100000000 in
theorem ws3:Ws3:=by
 refine ⟨(fun q1 q0=>Zm ZL (Zg q1 (Zg q0 Zu)) mixed {} Tryz.func30 (hvc:=?_)),
 (fun q1 q0=>Zm ZL (Zg q1 (Zg q0 Zu)) mixed {} Tryz.func81 (hvc:=?_)),
 (Zm ZL Zu mixed {} Tryz.func248 (hvc:=?_)),
 (fun q0=>Zm ZL (Zg q0 Zu) mixed {} Tryz.func293 (hvc:=?_)),
 (fun q0=>Zm ZL (Zg q0 Zu) mixed {} Tryz.func190 (hvc:=?_)),
 (fun q0 q3 q2 q1=>Zm ZL (Zg q0 (Zg q3 (Zg q2 (Zg q1 Zu)))) mixed {} Tryz.func324 (hvc:=?_)),
 (Zm ZL Zu mixed {} Tryz.func9 (hvc:=?_)),
 (fun q0=>Zm ZL (Zg q0 Zu) mixed {} Tryz.func276 (hvc:=?_)),
 (fun q0=>Zm ZL (Zg q0 Zu) mixed {loops:=[(0,[.reg 17 (.dat Iq)])]} Tryz.func243 (hvc:=?_)),
 (fun q0=>Zm ZL (Zg q0 Zu) mixed {loops:=[(0,[.reg 8 (.dat Iq)])]} Tryz.func218 (hvc:=?_)),
 (fun q0=>Zm ZL (Zg q0 Zu) mixed {loops:=[(0,[.reg 6 (.dat Iq)]),(2,[.reg 7 (.dat Iq)])]} Tryz.func144 (hvc:=?_)),
 (fun q1 q0 q2 q3=>Zm ZL (Zg q1 (Zg q0 (Zg q2 (Zg q3 Zu)))) mixed {draws:=[(5,[0,0,0,0,0,24,0,0,255,511,1023,1023,0,6143,16383],.op 0 (.op 1 (.op 2 (.op 3 (.op 4 (.op 6 (.op 7 (.alt 5 (.alt 8 (.op 9 (.op 10 (.op 11 (.alt 12 (.alt 13 (.op 14 (.done)) (.done)) (.done))))) (.alt 12 (.alt 8 (.op 9 (.op 10 (.op 11 (.alt 13 (.op 14 (.done)) (.done))))) (.done)) (.done))) (.alt 12 (.alt 5 (.alt 8 (.op 9 (.op 10 (.op 11 (.alt 13 (.op 14 (.done)) (.done))))) (.done)) (.done)) (.done))))))))))]} Tryz.func169 (hvc:=?_)),
 (fun q0=>Zm ZL (Zg q0 Zu) mixed {loops:=[(0,[.reg 5 (.dat Iq)])]} Tryz.func285 (hvc:=?_)),
 (fun q0=>Zm ZL (Zg q0 Zu) mixed {loops:=[(0,[.reg 8 (.dat Iq)])]} Tryz.func137 (hvc:=?_)),
 (fun q0 q1 q2=>Zm VX (Zg q0 (Zg q1 (Zg q2 Zu))) mixed {draws:=[(7,[0,1,0,0,8,0,56,120,248,504,0,2040,4095,8191,16383],.op 0 (.op 2 (.op 3 (.op 4 (.op 5 (.op 6 (.op 7 (.op 8 (.ld 1 (.alt 9 (.alt 10 (.alt 11 (.op 12 (.op 13 (.alt 14 (.done) (.done)))) (.done)) (.done)) (.alt 10 (.alt 9 (.alt 11 (.op 12 (.op 13 (.alt 14 (.done) (.done)))) (.done)) (.done)) (.done)))))))))))),(11,[0,1,0,7,15,31,0,0,128,448,960,2047,4095],.op 0 (.op 2 (.op 7 (.ld 1 (.op 3 (.op 4 (.alt 5 (.alt 6 (.alt 8 (.op 9 (.op 10 (.op 11 (.alt 12 (.done) (.done))))) (.done)) (.alt 8 (.alt 6 (.op 9 (.op 10 (.op 11 (.alt 12 (.done) (.done))))) (.done)) (.done))) (.alt 6 (.alt 5 (.alt 8 (.op 9 (.op 10 (.op 11 (.alt 12 (.done) (.done))))) (.done)) (.alt 8 (.op 9 (.op 10 (.alt 5 (.op 11 (.alt 12 (.done) (.done))) (.done)))) (.done))) (.alt 8 (.alt 5 (.alt 6 (.op 9 (.op 10 (.op 11 (.alt 12 (.done) (.done))))) (.done)) (.alt 6 (.op 9 (.op 10 (.alt 5 (.op 11 (.alt 12 (.done) (.done))) (.done)))) (.done))) (.done)))))))))),(13,[0,1,0,7,15,31,0,64,0,448,960,1984,4032,8128,0,16384,49152,131071,262143],.op 0 (.op 2 (.op 6 (.op 8 (.op 14 (.ld 1 (.op 3 (.op 4 (.ld 7 (.op 9 (.op 10 (.alt 5 (.alt 11 (.op 12 (.op 13 (.alt 15 (.op 16 (.op 17 (.alt 18 (.done) (.done)))) (.done)))) (.alt 15 (.op 16 (.alt 11 (.op 12 (.op 13 (.op 17 (.alt 18 (.done) (.done))))) (.done))) (.done))) (.alt 11 (.op 12 (.op 13 (.alt 5 (.alt 15 (.op 16 (.op 17 (.alt 18 (.done) (.done)))) (.done)) (.alt 15 (.op 16 (.alt 5 (.op 17 (.alt 18 (.done) (.done))) (.done))) (.done))))) (.alt 15 (.op 16 (.alt 5 (.alt 11 (.op 12 (.op 13 (.op 17 (.alt 18 (.done) (.done))))) (.done)) (.alt 11 (.op 12 (.op 13 (.alt 5 (.op 17 (.alt 18 (.done) (.done))) (.done)))) (.done)))) (.done)))))))))))))))]} Tryz.func87 (hvc:=?_)),
 (fun q0 q2 q1=>Zm VX (Zg q0 (Zg q2 (Zg q1 Zu))) mixed {loops:=[(0,[.reg 4 (.dat Iq),.cello 1003 4 (.ol 58 (ZgI))])],draws:=[(1,[0,1,3,0,8,31,63,0,255],.op 0 (.op 1 (.op 3 (.op 4 (.alt 2 (.alt 5 (.op 6 (.alt 7 (.alt 8 (.done) (.done)) (.done))) (.alt 7 (.alt 5 (.op 6 (.alt 8 (.done) (.done))) (.done)) (.done))) (.alt 7 (.alt 2 (.alt 5 (.op 6 (.alt 8 (.done) (.done))) (.done)) (.done)) (.done))))))),(5,[0,1,0,4,0,28,60,124,252,511,1023,2047],.op 0 (.op 1 (.op 2 (.op 3 (.op 4 (.op 5 (.op 6 (.alt 7 (.alt 8 (.alt 9 (.op 10 (.alt 11 (.done) (.done))) (.done)) (.done)) (.done)))))))))]} Tryz.func91 (hvc:=?_)),
 (fun q0=>Zm ZL (Zg q0 Zu) mixed {draws:=[(1,[0,1,3,0,8,31,0,64,255,0,512,2047,4095,8191],.op 0 (.op 1 (.op 3 (.op 4 (.op 6 (.op 7 (.op 9 (.op 10 (.alt 2 (.alt 5 (.alt 8 (.alt 11 (.op 12 (.alt 13 (.done) (.done))) (.done)) (.done)) (.done)) (.done))))))))))]} Tryz.func168 (hvc:=?_)),
 (fun q0=>Zm VX (Zg q0 Zu) mixed {loops:=[(0,[.reg 5 (.dat Iq),.ent 4 (nat_lit 58) (Dp.pair (Dp.ol (2:Go.TypeId) (Dp.flat (Ty.int IntKind.i64))) (Dp.pair (Dp.ol (2:Go.TypeId) (Dp.flat (Ty.int IntKind.i64))) (Dp.pair (Dp.ol (2:Go.TypeId) (Dp.flat (Ty.int IntKind.i64))) (Dp.pair (Dp.ol (2:Go.TypeId) (Dp.flat (Ty.int IntKind.i64))) (Dp.flat Ty.unit)))))]),(2,[.reg 6 (.own (.ol 2 (.flat Iq))),.reg 8 (.dat Iq)])]} Tryz.func175 (hvc:=?_)),
 (Zm ZL Zu mixed {} Tryz.func146 (hvc:=?_)),
 (fun q0 q1=>Zm ZL (Zg q0 (Zg q1 Zu)) mixed {draws:=[(9,[0,1,0,4,15,31,63,127,63,319,1023,2047,4095,8191,16383,8191,40959,8191,139263,499711,1023999,2072575,4169727,8364031,16777215,33554431,67108863],.op 0 (.op 1 (.op 2 (.op 3 (.alt 4 (.op 5 (.op 6 (.op 7 (.op 8 (.op 9 (.alt 10 (.op 11 (.op 12 (.op 13 (.op 14 (.op 15 (.op 16 (.op 17 (.op 18 (.op 19 (.op 20 (.op 21 (.op 22 (.op 23 (.alt 24 (.op 25 (.op 26 (.done))) (.done))))))))))))))) (.done))))))) (.done))))))]} Tryz.func79 (hvc:=?_)),
 (fun q3 q4 q1 q0 q5 q2=>Zm Zn3 (Zg q3 (Zg q4 (Zg q1 (Zg q0 (Zg q5 (Zg q2 Zu)))))) mixed {draws:=[(7,[0,1,0,4,12,0,60,124,0,256,768,0,3840,7936,16128,32512,65280,131071],.op 0 (.op 1 (.op 2 (.op 3 (.op 5 (.op 8 (.op 9 (.op 10 (.op 11 (.op 12 (.op 13 (.op 14 (.op 15 (.op 16 (.alt 4 (.op 6 (.op 7 (.alt 17 (.done) (.done)))) (.done)))))))))))))))),(8,[0,0,2,7,15,0,0,96,255,511],.op 0 (.op 1 (.op 2 (.op 5 (.op 6 (.alt 3 (.alt 4 (.alt 7 (.alt 8 (.op 9 (.done)) (.done)) (.done)) (.alt 7 (.alt 4 (.alt 8 (.op 9 (.done)) (.done)) (.done)) (.done))) (.alt 7 (.alt 3 (.alt 4 (.alt 8 (.op 9 (.done)) (.done)) (.done)) (.done)) (.done)))))))),(9,[0,1,3,0,15,0,32,96,0,480,0,1024,3072,8191,0,32767],.op 0 (.op 1 (.op 2 (.op 3 (.op 5 (.op 6 (.op 7 (.op 8 (.op 10 (.op 11 (.op 12 (.alt 4 (.alt 9 (.op 13 (.alt 14 (.alt 15 (.done) (.done)) (.done))) (.alt 14 (.alt 9 (.op 13 (.alt 15 (.done) (.done))) (.done)) (.done))) (.alt 9 (.alt 4 (.op 13 (.alt 14 (.alt 15 (.done) (.done)) (.done))) (.alt 14 (.alt 4 (.op 13 (.alt 15 (.done) (.done))) (.done)) (.done))) (.alt 14 (.alt 4 (.alt 9 (.op 13 (.alt 15 (.done) (.done))) (.done)) (.alt 9 (.alt 4 (.op 13 (.alt 15 (.done) (.done))) (.done)) (.done))) (.done))))))))))))))),(10,[0,1,0,0,8,0,56,127,0,511,1023],.op 0 (.op 1 (.op 2 (.op 3 (.op 4 (.op 5 (.op 8 (.alt 6 (.op 7 (.alt 9 (.alt 10 (.done) (.done)) (.done))) (.done)))))))))]} Tryz.func172 (hvc:=?_)),
 (fun q2 q1 q0=>Zm ZL (Zg q2 (Zg q1 (Zg q0 Zu))) mixed {} Tryz.func67 (hvc:=?_)),
 (Zm ZL Zu mixed {loops:=[(0,[.reg 7 (.dat Iq)])]} Tryz.func240 (hvc:=?_)),
 (fun q3 q2 q4 q0 q1 q5=>Zm ZL (Zg q3 (Zg q2 (Zg q4 (Zg q0 (Zg q1 (Zg q5 Zu)))))) mixed {draws:=[(5,[0,0,0,6,0,31,0,64,255,511,1023],.op 0 (.op 1 (.op 2 (.op 4 (.op 6 (.op 7 (.alt 3 (.alt 5 (.op 8 (.op 9 (.op 10 (.done)))) (.done)) (.done))))))))]} Tryz.func298 (hvc:=?_)),
 (Zm ZL Zu mixed {draws:=[(1,[0,1,0,4,0,16,63,127],.op 0 (.op 2 (.op 4 (.alt 1 (.alt 3 (.alt 5 (.op 6 (.alt 7 (.done) (.done))) (.done)) (.alt 5 (.alt 3 (.op 6 (.alt 7 (.done) (.done))) (.done)) (.done))) (.alt 3 (.alt 1 (.alt 5 (.op 6 (.alt 7 (.done) (.done))) (.done)) (.alt 5 (.alt 1 (.op 6 (.alt 7 (.done) (.done))) (.done)) (.done))) (.alt 5 (.alt 1 (.alt 3 (.op 6 (.alt 7 (.done) (.done))) (.done)) (.alt 3 (.alt 1 (.op 6 (.alt 7 (.done) (.done))) (.done)) (.done))) (.done)))))))]} Tryz.func257 (hvc:=?_)),
 (fun q0 q1=>Zm ZL (Zg q0 (Zg q1 Zu)) mixed {loops:=[(0,[.reg 16 (.dat (.bool)),.reg 18 (.dat Iq),.cell 1017 0 Iq,.cell 1017 1 Iq,.cell 1017 2 Iq,.cell 1017 3 Iq,.cell 1017 4 Iq]),(2,[.reg 16 (.dat (.bool)),.reg 19 (.dat Iq),.cell 1017 0 Iq,.cell 1017 1 Iq,.cell 1017 2 Iq,.cell 1017 3 Iq,.cell 1017 4 Iq])],draws:=[(14,[0,0,0,0,8,0,32,120,248,511,1023,2047,2047,0,0,28671,65535],.op 0 (.op 1 (.op 2 (.op 3 (.op 4 (.op 5 (.op 6 (.op 7 (.op 8 (.alt 9 (.op 10 (.op 11 (.op 12 (.alt 13 (.alt 14 (.alt 15 (.alt 16 (.done) (.done)) (.done)) (.done)) (.alt 14 (.alt 13 (.alt 15 (.alt 16 (.done) (.done)) (.done)) (.done)) (.done)))))) (.alt 13 (.alt 9 (.op 10 (.op 11 (.op 12 (.alt 14 (.alt 15 (.alt 16 (.done) (.done)) (.done)) (.done))))) (.alt 14 (.alt 9 (.op 10 (.op 11 (.op 12 (.alt 15 (.alt 16 (.done) (.done)) (.done))))) (.done)) (.done))) (.alt 14 (.alt 9 (.op 10 (.op 11 (.op 12 (.alt 13 (.alt 15 (.alt 16 (.done) (.done)) (.done)) (.done))))) (.alt 13 (.alt 9 (.op 10 (.op 11 (.op 12 (.alt 15 (.alt 16 (.done) (.done)) (.done))))) (.done)) (.done))) (.done))))))))))))),(15,[0,1,0,4,15,31,63,0,128,511,0,1024,0,4096,15360,31744,64512,0,131072,523264,1048575,0,4194303],.op 0 (.op 1 (.op 2 (.op 3 (.op 4 (.op 5 (.op 6 (.op 7 (.op 8 (.op 9 (.op 10 (.op 11 (.op 12 (.op 13 (.op 14 (.op 15 (.op 16 (.op 17 (.op 18 (.op 19 (.op 20 (.alt 21 (.alt 22 (.done) (.done)) (.done))))))))))))))))))))))),(21,[0,0,1,7],.op 0 (.op 1 (.op 2 (.alt 3 (.done) (.done)))))]} Tryz.func258 (hvc:=?_)),
 (Zm ZL Zu mixed {} Tryz.func281 (hvc:=?_))⟩
 all_goals
  intro a
  repeat rcases a with ⟨_,a⟩
  rintro K ⟨r,h,hK⟩
  repeat'
    conv=>whnf
    first
    | with_reducible refine ZoK ?_
    | with_reducible refine ZnK (by assumption) (by assumption) (by assumption) ?_
    | with_reducible refine Zh (by assumption) ?_
    | with_reducible refine ZnS (by assumption) ?_
    | (with_reducible refine shD ?_);first | refine ZG h (fun h=>?_) (fun h=>?_) | refine ZcV h (fun h=>?_) (fun h=>?_)
    | (with_reducible refine ZoO ?_);first | refine Zj4 ?_ | refine Yc ?_
    | (with_reducible refine Zo6 ?_);first | refine Qn h (fun h=>?_) (fun h=>?_) | refine Zmk h (fun h=>?_) (fun h=>?_)
    | (with_reducible refine ZoN ?_);(refine ⟨fun hd=>?_,?_⟩)<;>try subst hd
    | (with_reducible refine Zo8 ?_);first | with_reducible refine Ze h (fun x hb h=>?_) | refine ZnS (by assumption) ?_ | with_reducible refine pG h (fun hp h=>?_) | with_reducible refine pA h (fun x ha hb hx h=>?_) | with_reducible refine pB h (fun x hb h=>?_) | refine Ze h (fun x hb h=>?_)
    | (with_reducible refine Zo5 ?_);first | with_reducible refine vAt h (fun x ha hb hx h=>?_) | refine ZnK (by assumption) (by assumption) (by assumption) ?_ | with_reducible refine pG h (fun hp h=>?_) | with_reducible refine pA h (fun x ha hb hx h=>?_) | with_reducible refine pB h (fun x hb h=>?_) | refine vAt h (fun x ha hb hx h=>?_)
    | (with_reducible refine ZoM ?_);first | with_reducible refine ZoU h (fun x hb h=>?_) | refine Zh (by assumption) ?_ | with_reducible refine pG h (fun hp h=>?_) | with_reducible refine pA h (fun x ha hb hx h=>?_) | with_reducible refine pB h (fun x hb h=>?_) | refine ZoU h (fun x hb h=>?_)
    | with_reducible refine Zo7 ?_
    | (with_reducible refine Zot ?_);refine ZoC h hK ?_;clear h hK;intro I μ v r h hK;(repeat rcases v with ⟨_,v⟩);(try dsimp only at h)
    | with_reducible refine ⟨by assumption,?_⟩
    | with_reducible refine orL ?_
    | with_reducible refine .inr ?_
    | (with_reducible refine ZoP ?_);first | refine ⟨?_,True.intro⟩ | refine ⟨?_,?_⟩
    | refine ⟨by kernel_rfl,?_⟩
    | refine ⟨by decide,?_⟩
    | with_reducible refine Yk h (fun hp h=>?_)
    | intro fp
    | exact trivial
    | with_reducible exact ZoJ h
    | (refine pS h (fun e=>?_));subst e;(repeat (first | exact hK | exact ⟨⟨rfl,rfl⟩,hK.1 _ rfl⟩ | (refine pR hK (fun e hK=>?_));subst e));done
    | refine Yk h (fun hp h=>?_)
    | refine ⟨by assumption,?_⟩
    | with_reducible refine pG h (fun hp h=>?_) | with_reducible refine pA h (fun x ha hb hx h=>?_) | with_reducible refine pB h (fun x hb h=>?_)
    | refine pG h (fun hp h=>?_)
    | fail
theorem Zcs (rec0:Int→Option (List UInt8)) (hrec:Sq 163 (QJ rec0)):Sq 163 (QJ (ZN rec0)):=by
 refine Zm ZL (Zg hrec Zu) mixed {draws:=[(5,[0,1,3,0,8,24,56,120,248,511,1023],.op 0 (.op 1 (.op 3 (.op 4 (.op 5 (.alt 2 (.alt 6 (.alt 7 (.alt 8 (.op 9 (.op 10 (.done))) (.done)) (.done)) (.done)) (.alt 6 (.alt 2 (.alt 7 (.alt 8 (.op 9 (.op 10 (.done))) (.done)) (.done)) (.alt 7 (.alt 2 (.alt 8 (.op 9 (.op 10 (.done))) (.done)) (.alt 8 (.alt 2 (.op 9 (.op 10 (.done))) (.done)) (.done))) (.done))) (.done))))))))]} (fn:=Tryz.f163) Tryz.func163 (by kernel_rfl) (by kernel_rfl) ?_
 rintro ⟨n0,⟨⟩⟩ K ⟨r,h,hK⟩
 change ZN rec0 n0=some r at h
 unfold ZN at h
 conv=>whnf
 refine ZG h (fun h=>?_) (fun h=>?_)
 conv=>whnf
 refine Ze h (fun r0 hb0 h=>?_)
 conv=>whnf
 refine Yk h (fun hp1 h=>?_)
 conv=>whnf
 cases h
 exact hK
 conv=>whnf
 refine ZG h (fun h=>?_) (fun h=>?_)
 conv=>whnf
 cases h
 exact hK
 focus
  conv=>whnf
  refine ⟨by kernel_rfl,?_⟩
  conv=>whnf
  refine ⟨by decide,?_⟩
  conv=>whnf
  refine ⟨by decide,?_⟩
  conv=>whnf
  obtain ⟨r0,hb2,h⟩:=Option.bind_eq_some_iff.1 h
  obtain ⟨hp3,h⟩:=guardE h
  refine ⟨?_,?_⟩
  rotate_left
  focus
   conv=>whnf
   refine ⟨?_,?_⟩
   rotate_left
   focus
    conv=>whnf
    refine ⟨?_,?_⟩
    rotate_left
    focus
     conv=>whnf
     refine ⟨_,hb2,?_⟩
     conv=>whnf
     refine ⟨hp3,?_⟩
     conv=>whnf
     refine ⟨trivial,?_⟩
    rotate_right
    focus
     conv=>whnf
     refine ⟨_,hb2,?_⟩
     conv=>whnf
     refine ⟨hp3,?_⟩
     conv=>whnf
     refine ⟨trivial,?_⟩
   rotate_right
   focus
    conv=>whnf
    refine ⟨_,hb2,?_⟩
    conv=>whnf
    refine ⟨hp3,?_⟩
    conv=>whnf
    refine ⟨trivial,?_⟩
  rotate_right
  focus
   conv=>whnf
   refine ⟨_,hb2,?_⟩
   conv=>whnf
   refine ⟨hp3,?_⟩
   conv=>whnf
   refine ⟨trivial,?_⟩
  all_goals
   conv=>whnf
   cases h
   exact hK
theorem w11:Sq 163 c11:=by
 have hn:∀ n,Sq 163 (QJ (Yp n)):=by
  intro n
  induction n with
  | zero =>
  refine Zm ZL Zu mixed {draws:=[(5,[0,1,3,0,8,24,56,120,248,511,1023],.op 0 (.op 1 (.op 3 (.op 4 (.op 5 (.alt 2 (.alt 6 (.alt 7 (.alt 8 (.op 9 (.op 10 (.done))) (.done)) (.done)) (.done)) (.alt 6 (.alt 2 (.alt 7 (.alt 8 (.op 9 (.op 10 (.done))) (.done)) (.done)) (.alt 7 (.alt 2 (.alt 8 (.op 9 (.op 10 (.done))) (.done)) (.alt 8 (.alt 2 (.op 9 (.op 10 (.done))) (.done)) (.done))) (.done))) (.done))))))))]} (fn:=Tryz.f163) Tryz.func163 (by kernel_rfl) (by kernel_rfl) ?_
  rintro ⟨n0,⟨⟩⟩ K ⟨r,h,hK⟩
  cases h
  | succ n ih=>exact Zcs _ ih
 refine ⟨(hn 0).1,?_⟩
 rintro w S vs ⟨n0,⟨⟩⟩ fp K h1 h2 h3 h4 ⟨r,h,hK⟩
 obtain ⟨n,hr⟩:=ZdB h
 exact (hn n).2 w S vs _ fp K h1 h2 h3 h4 ⟨r,hr,hK⟩
end Go.Proofs.YtnnbgbgapogckaaGreatDoor
