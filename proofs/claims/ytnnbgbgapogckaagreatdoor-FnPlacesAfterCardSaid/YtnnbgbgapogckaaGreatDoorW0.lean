/-
  The functions keep their contracts, if what they call does. Printed by program.
-/
import Derived.Test.YtnnbgbgapogckaaGreatDoorM
import Derived.KernelRfl
namespace Go.Proofs.YtnnbgbgapogckaaGreatDoor
open Go Go.Sx
set_option maxRecDepth 100000
set_option maxHeartbeats 6400000
set_option linter.unusedVariables false
set_option linter.unusedSimpArgs false
structure Ws0:Prop where
 w151:Sq 188 Zy7→Sq 154 ZAw
 w154:Sq 191 ZAC→Sq 159 ZA2→Sq 112 c154
 w190:Sq 98 ZNg
 w159:Sq 157 c159
 w187:Sq 30 ZNa→Sq 93 ZNc→Sq 38 ZNd
 w125:Sq 189 c124→Sq 109 ZA7
 w185:Sq 170 ZNb
 w132:Sq 323 c131→Sq 305 ZBb
 w112:Sq 42 c1→Sq 92 ZA0→Sq 37 ZA1
 w59:Sq 148 c59
 w32:Sq 223 c31→Sq 176 c32
 w16:Sq 161 c16
 w97:Sq 325 c95→Sq 315 c96→Sq 312 c97
 w95:Sq 325 c95
 w41:Sq 96 c13→Sq 138 c41
 w14:Sq 96 c13→Sq 139 c14
 w99:Sq 115 c93→Sq 57 c99
 w93:Sq 161 c16→Sq 96 c13→Sq 139 c14→Sq 194 c92→Sq 115 c93
 w15:Sq 219 c15
 w103:Sq 326 ZAW
 w104:Sq 57 c99→Sq 326 ZAW→Sq 315 c96→Sq 317 ZAX
 w74:Sq 174 c74
 w54:Sq 77 c37→Sq 96 c13→Sq 44 c2→Sq 137 c38→Sq 162 c53→Sq 163 c11→Sq 139 c14→Sq 164 c17→Sq 89 c54
 w43:Sq 77 c37→Sq 44 c2→Sq 69 c42→Sq 126 c43
 w42:Sq 137 c38→Sq 136 c40→Sq 138 c41→Sq 139 c14→Sq 140 c39→Sq 69 c42
 w88:Sq 282 c88
set_option maxHeartbeats 100000000 in
theorem ws0:Ws0:=by
 refine ⟨(fun q0=>Zm ZL (Zg q0 Zu) mixed {loops:=[(0,[.reg 3 (.own (.ol 9 (.flat (.str)))),.reg 12 (.dat Iq)]),(2,[.reg 4 (.own (.ol 9 (.flat (.str)))),.reg 25 (.dat Iq)])]} Tryz.func154 (hvc:=?_)),
 (fun q0 q1=>Zm ZL (Zg q0 (Zg q1 Zu)) mixed {} Tryz.func112 (hvc:=?_)),
 (Zm ZL Zu mixed {draws:=[(4,[0,1,3,0,8,0,32,120,248,504,0,1024,4088,8184,16376,32767,65535],.op 0 (.op 1 (.op 2 (.op 3 (.op 4 (.op 5 (.op 6 (.op 7 (.op 8 (.op 9 (.op 10 (.op 11 (.op 12 (.op 13 (.op 14 (.op 15 (.op 16 (.done))))))))))))))))))]} Tryz.func98 (hvc:=?_)),
 (Zm ZL Zu mixed {} Tryz.func157 (hvc:=?_)),
 (fun q1 q0=>Zm ZL (Zg q1 (Zg q0 Zu)) mixed {} Tryz.func38 (hvc:=?_)),
 (fun q0=>Zm ZL (Zg q0 Zu) mixed {} Tryz.func109 (hvc:=?_)),
 (Zm ZL Zu mixed {} Tryz.func170 (hvc:=?_)),
 (fun q0=>Zm ZL (Zg q0 Zu) mixed {} Tryz.func305 (hvc:=?_)),
 (fun q0 q1=>Zm ZL (Zg q0 (Zg q1 Zu)) mixed {draws:=[(2,[0,0,1,7],.op 0 (.alt 1 (.alt 2 (.alt 3 (.done) (.done)) (.done)) (.alt 2 (.alt 1 (.alt 3 (.done) (.done)) (.done)) (.done))))]} Tryz.func37 (hvc:=?_)),
 (Zm ZL Zu mixed {loops:=[(0,[.reg 5 (.dat Iq)])]} Tryz.func148 (hvc:=?_)),
 (fun q0=>Zm ZL (Zg q0 Zu) mixed {loops:=[(0,[.reg 3 (.dat Iq)]),(2,[.reg 4 (.dat Iq)])],draws:=[(9,[0,1,0,7,15,31,0,64,0,448,960,1984,4095],.op 0 (.op 1 (.op 2 (.op 3 (.op 4 (.op 5 (.op 6 (.op 7 (.op 8 (.op 9 (.op 10 (.op 11 (.op 12 (.done))))))))))))))]} Tryz.func176 (hvc:=?_)),
 (Zm ZL Zu mixed {} Tryz.func161 (hvc:=?_)),
 (fun q0 q1=>Zm ZL (Zg q0 (Zg q1 Zu)) mixed {loops:=[(0,[.reg 16 (.dat Iq),.reg 17 (.dat Iq)]),(2,[.reg 16 (.dat Iq),.reg 18 (.dat Iq)])]} Tryz.func312 (hvc:=?_)),
 (Zm ZL Zu mixed {loops:=[(0,[.reg 8 (.dat Iq)])],draws:=[(10,[0,0,0,4,14,30,0,126,0,0,0,1536,3584,7936,1,16639,65535],.op 0 (.op 1 (.op 2 (.op 3 (.op 4 (.op 5 (.op 6 (.op 7 (.op 8 (.op 9 (.op 10 (.op 11 (.op 12 (.op 13 (.op 14 (.op 15 (.op 16 (.done))))))))))))))))))]} Tryz.func325 (hvc:=?_)),
 (fun q0=>Zm ZL (Zg q0 Zu) mixed {loops:=[(0,[.reg 6 (.dat Iq)])]} Tryz.func138 (hvc:=?_)),
 (fun q0=>Zm ZL (Zg q0 Zu) mixed {loops:=[(0,[.reg 5 (.own (.ol 2 (.flat Iq))),.reg 7 (.dat Iq)])]} Tryz.func139 (hvc:=?_)),
 (fun q0=>Zm ZL (Zg q0 Zu) mixed {loops:=[(0,[.reg 7 (.own (.ol 2 (.flat Iq))),.reg 8 (.dat Iq)])],draws:=[(7,[0,0,0,4,0,28,60,126,254,0,512,0,3584,7680,0,0,49152,114688,261632,524286,1048574,2097151,4194303],.op 0 (.op 1 (.op 2 (.op 3 (.op 4 (.op 5 (.op 6 (.op 7 (.op 8 (.op 9 (.op 10 (.op 11 (.op 12 (.op 13 (.op 14 (.op 15 (.op 16 (.op 17 (.op 18 (.op 19 (.alt 20 (.alt 21 (.op 22 (.done)) (.done)) (.done))))))))))))))))))))))]} Tryz.func57 (hvc:=?_)),
 (fun q2 q0 q1 q3=>Zm ZL (Zg q2 (Zg q0 (Zg q1 (Zg q3 Zu)))) mixed {loops:=[(0,[.reg 9 (.dat Iq),.ent 2 (nat_lit 2) (.flat (Ty.int IntKind.i64))]),(2,[.reg 10 (.dat Iq),.ent 2 (nat_lit 2) (.flat (Ty.int IntKind.i64))])],draws:=[(8,[0,0,2,0,14,30,63,127,0,256,0,1024,0,0,0,24576,57344,126976,258048,524032,1048575,2097151,4194303],.op 0 (.op 1 (.op 2 (.op 3 (.op 4 (.op 5 (.op 6 (.op 7 (.op 8 (.op 9 (.op 10 (.op 11 (.op 12 (.op 13 (.op 14 (.op 15 (.op 16 (.op 17 (.op 18 (.alt 19 (.op 20 (.op 21 (.alt 22 (.done) (.done)))) (.done))))))))))))))))))))),(12,[0,0,2,0,14,30,63,127,0,0,768,1792,4095,8191,16383],.op 0 (.op 1 (.op 2 (.op 3 (.op 4 (.op 5 (.op 6 (.op 7 (.op 8 (.op 9 (.op 10 (.op 11 (.op 12 (.op 13 (.alt 14 (.done) (.done))))))))))))))))]} Tryz.func115 (hvc:=?_)),
 (Zm ZL Zu mixed {} Tryz.func219 (hvc:=?_)),
 (Zm ZL Zu mixed {loops:=[(0,[.reg 5 (.dat Iq),.reg 6 (.dat Iq)])]} Tryz.func326 (hvc:=?_)),
 (fun q0 q1 q2=>Zm ZL (Zg q0 (Zg q1 (Zg q2 Zu))) mixed {draws:=[(1,[0,0,3,0,8,0,56,120,248,0,1016,2040,4095,8191,16383],.op 0 (.op 1 (.op 3 (.op 4 (.op 5 (.op 6 (.op 7 (.op 8 (.op 9 (.op 10 (.op 11 (.alt 2 (.op 12 (.op 13 (.op 14 (.done)))) (.done)))))))))))))]} Tryz.func317 (hvc:=?_)),
 (Zm VX Zu mixed {draws:=[(3,[0,1,0,4,15,31,63,0,128,0,1023,2047],.op 0 (.op 1 (.op 2 (.op 3 (.op 4 (.op 5 (.op 6 (.op 7 (.op 8 (.op 9 (.op 10 (.alt 11 (.done) (.done)))))))))))))]} Tryz.func174 (hvc:=?_)),
 (fun q5 q2 q6 q7 q0 q3 q4 q1=>Zm ZL (Zg q5 (Zg q2 (Zg q6 (Zg q7 (Zg q0 (Zg q3 (Zg q4 (Zg q1 Zu)))))))) mixed {draws:=[(12,[0,1,0,0,8,24,0,120,248,504,1016,2040,4095,8191,16383],.op 0 (.op 1 (.op 2 (.op 3 (.op 4 (.op 5 (.op 6 (.op 7 (.op 8 (.op 9 (.op 10 (.op 11 (.alt 12 (.op 13 (.alt 14 (.done) (.done))) (.done))))))))))))))]} Tryz.func89 (hvc:=?_)),
 (fun q1 q2 q0=>Zm ZL (Zg q1 (Zg q2 (Zg q0 Zu))) mixed {loops:=[(0,[.reg 5 (.own (.ol 2 (.flat Iq))),.reg 8 (.dat Iq),.cell 0 0 (.sl (.int .u8)),.cell 0 1 Iq,.cell 0 2 Iq])]} Tryz.func126 (hvc:=?_)),
 (fun q2 q4 q0 q1 q3=>Zm ZL (Zg q2 (Zg q4 (Zg q0 (Zg q1 (Zg q3 Zu))))) mixed {loops:=[(0,[.reg 3 (.own (.ol 211 (.flat (Zl8)))),.reg 5 (.dat Iq)]),(2,[.reg 3 (.own (.ol 211 (.flat (Zl8)))),.reg 7 (.dat Iq)]),(4,[.reg 3 (.own (.ol 211 (.flat (Zl8)))),.reg 8 (.dat Iq)]),(6,[.reg 3 (.own (.ol 211 (.flat (Zl8)))),.reg 11 (.dat Iq)])],draws:=[(6,[0,1,3,0,8,0,56,120,248,511,1023,2047,4095],.op 0 (.op 1 (.op 2 (.op 3 (.op 4 (.op 5 (.op 6 (.op 7 (.op 8 (.op 9 (.op 10 (.op 11 (.op 12 (.done)))))))))))))),(11,[0,0,0,6,14,0,0,0,0,384,896,1920,4064,0,0,0,0,98304,229376,491520,1048544,0,4194303,8388607],.op 0 (.op 1 (.op 2 (.op 3 (.op 4 (.op 5 (.op 6 (.op 7 (.op 8 (.op 9 (.op 10 (.op 11 (.op 13 (.op 14 (.op 15 (.op 16 (.op 17 (.op 18 (.op 19 (.op 21 (.alt 12 (.alt 20 (.alt 22 (.op 23 (.done)) (.done)) (.done)) (.done))))))))))))))))))))))]} Tryz.func69 (hvc:=?_)),
 (Zm ZL Zu mixed {loops:=[(0,[.reg 8 (.own (.ol 2 (.flat Iq))),.ent 1 (nat_lit 4) (.flat ZIh.ety)]),(2,[.reg 11 (.dat Iq),.ent 3 (nat_lit 4) (.flat ZIh.ety)]),(4,[.reg 12 (.dat Iq)])]} Tryz.func282 (hvc:=?_))⟩
 all_goals
  intro a
  repeat rcases a with ⟨_,a⟩
  rintro K ⟨r,h,hK⟩
  repeat'
    conv=>whnf
    first
    | with_reducible refine ZoK ?_
    | with_reducible refine ZnK (by assumption) (by assumption) (by assumption) ?_
    | with_reducible refine Zh (by assumption) ?_
    | with_reducible refine ZnS (by assumption) ?_
    | (with_reducible refine shD ?_);first | refine ZG h (fun h=>?_) (fun h=>?_) | refine ZcV h (fun h=>?_) (fun h=>?_)
    | (with_reducible refine ZoO ?_);first | refine Zj4 ?_ | refine Yc ?_
    | (with_reducible refine Zo6 ?_);first | refine Qn h (fun h=>?_) (fun h=>?_) | refine Zmk h (fun h=>?_) (fun h=>?_)
    | (with_reducible refine ZoN ?_);(refine ⟨fun hd=>?_,?_⟩)<;>try subst hd
    | (with_reducible refine Zo8 ?_);first | with_reducible refine Ze h (fun x hb h=>?_) | refine ZnS (by assumption) ?_ | with_reducible refine pG h (fun hp h=>?_) | with_reducible refine pA h (fun x ha hb hx h=>?_) | with_reducible refine pB h (fun x hb h=>?_) | refine Ze h (fun x hb h=>?_)
    | (with_reducible refine Zo5 ?_);first | with_reducible refine vAt h (fun x ha hb hx h=>?_) | refine ZnK (by assumption) (by assumption) (by assumption) ?_ | with_reducible refine pG h (fun hp h=>?_) | with_reducible refine pA h (fun x ha hb hx h=>?_) | with_reducible refine pB h (fun x hb h=>?_) | refine vAt h (fun x ha hb hx h=>?_)
    | (with_reducible refine ZoM ?_);first | with_reducible refine ZoU h (fun x hb h=>?_) | refine Zh (by assumption) ?_ | with_reducible refine pG h (fun hp h=>?_) | with_reducible refine pA h (fun x ha hb hx h=>?_) | with_reducible refine pB h (fun x hb h=>?_) | refine ZoU h (fun x hb h=>?_)
    | with_reducible refine Zo7 ?_
    | (with_reducible refine Zot ?_);refine ZoC h hK ?_;clear h hK;intro I μ v r h hK;(repeat rcases v with ⟨_,v⟩);(try dsimp only at h)
    | with_reducible refine ⟨by assumption,?_⟩
    | with_reducible refine orL ?_
    | with_reducible refine .inr ?_
    | (with_reducible refine ZoP ?_);first | refine ⟨?_,True.intro⟩ | refine ⟨?_,?_⟩
    | refine ⟨by kernel_rfl,?_⟩
    | refine ⟨by decide,?_⟩
    | with_reducible refine Yk h (fun hp h=>?_)
    | intro fp
    | exact trivial
    | with_reducible exact ZoJ h
    | (refine pS h (fun e=>?_));subst e;(repeat (first | exact hK | exact ⟨⟨rfl,rfl⟩,hK.1 _ rfl⟩ | (refine pR hK (fun e hK=>?_));subst e));done
    | refine Yk h (fun hp h=>?_)
    | refine ⟨by assumption,?_⟩
    | with_reducible refine pG h (fun hp h=>?_) | with_reducible refine pA h (fun x ha hb hx h=>?_) | with_reducible refine pB h (fun x hb h=>?_)
    | refine pG h (fun hp h=>?_)
    | fail
end Go.Proofs.YtnnbgbgapogckaaGreatDoor
