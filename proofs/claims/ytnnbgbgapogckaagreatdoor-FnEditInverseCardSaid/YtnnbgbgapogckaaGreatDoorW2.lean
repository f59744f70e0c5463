/-
  The functions keep their contracts, if what they call does. Printed by program.
-/
import Derived.Test.YtnnbgbgapogckaaGreatDoorM
import Derived.KernelRfl
namespace Go.Proofs.YtnnbgbgapogckaaGreatDoor
open Go Go.Sx
set_option maxRecDepth 100000
set_option maxHeartbeats 6400000
set_option linter.unusedVariables false
set_option linter.unusedSimpArgs false
structure Ws2:Prop where
 w151:Sq 83 Zy7→Sq 119 ZAw
 w153:Sq 120 ZAC
 w157:Sq 119 ZAw→Sq 83 Zy7→Sq 191 ZAv→Sq 192 c156→Sq 120 ZAC→Sq 121 c154→Sq 118 c157
 w91:Sq 309 c90→Sq 294 c91
 w162:Sq 83 Zy7→Sq 203 ZBn→Sq 143 c162
 w118:Sq 83 Zy7
 w158:Sq 116 ZAM→Sq 83 Zy7→Sq 117 ZBl→Sq 118 c157→Sq 119 ZAw→Sq 120 ZAC→Sq 121 c154→Sq 122 ZAB→Sq 58 ZBm
 w137:Sq 83 Zy7→Sq 210 c130→Sq 211 c131→Sq 212 c69→Sq 213 ZBd→Sq 214 ZBe→Sq 215 ZBf→Sq 158 c76→Sq 84 ZAK→Sq 152 ZBg
 w164:Sq 30 c139→Sq 76 ZBo→Sq 28 c164
 w105:Sq 216 ZAX→Sq 188 c73→Sq 153 c105
 w83:Sq 324 c82→Sq 109 c80→Sq 307 c83
 w88:Sq 305 c87→Sq 293 c88
 w77:Sq 159 c68→Sq 190 c77
 w69:Sq 159 c68→Sq 245 ZaX→Sq 246 V9→Sq 212 c69
 w152:Sq 170 c152
 w126:Sq 179 ZA8
 w76:Sq 158 c76
 w125:Sq 242 c124→Sq 207 ZA7
 w0:Sq 9 c0
 w140:Sq 232 ZBh
 w123:Sq 265 ZA6
 w78:Sq 190 c77→Sq 231 c78
 w71:Sq 249 c71
 w67:Sq 42 c1→Sq 75 c66→Sq 27 c67
 w33:Sq 176 c30→Sq 177 c31→Sq 178 c32→Sq 95 c33
 w30:Sq 223 c29→Sq 176 c30
 w52:Sq 161 c16→Sq 253 c51→Sq 220 c52
 w19:Sq 44 c2→Sq 125 c18→Sq 161 c16→Sq 87 c19
 w41:Sq 145 c41
 w62:Sq 91 c56→Sq 96 c13→Sq 171 c60→Sq 172 c61→Sq 173 c57→Sq 174 c58→Sq 175 c59→Sq 168 c55→Sq 94 c62
 w46:Sq 206 c46
 w58:Sq 174 c58
 w66:Sq 87 c19→Sq 77 c35→Sq 88 c64→Sq 36 c65→Sq 89 c38→Sq 75 c66
set_option maxHeartbeats 100000000 in
theorem ws2:Ws2:=by
 refine ⟨(fun q0=>Zm ZL (Zg q0 Zu) mixed {loops:=[(0,[.reg 16 (.dat Iq),.entm 1 (Zys.ty) (Zys.ety),.ent 2 (nat_lit 3) (.flat ZyJ.ety)])],draws:=[(7,[0,0,2,0,8,30,0,64,0,256,960,1984,4032,0,0,16384,57344,122880,262080,524224,1048575],.op 0 (.op 1 (.op 2 (.op 3 (.op 4 (.op 5 (.op 6 (.op 7 (.op 8 (.op 9 (.op 10 (.op 11 (.op 12 (.op 13 (.op 14 (.op 15 (.op 16 (.op 17 (.op 18 (.op 19 (.alt 20 (.done) (.done))))))))))))))))))))))]} Tryz.func119 (hvc:=?_)),
 (Zm VX Zu mixed {draws:=[(2,[0,1,3,7,15,0,32,0,255,511,1023],.op 0 (.op 1 (.op 2 (.op 3 (.op 4 (.op 5 (.op 6 (.op 7 (.op 8 (.op 9 (.alt 10 (.done) (.done)))))))))))),(3,[0,1,3,7,15,0,32,127,255,511,0,1024,0,8191,16383],.op 0 (.op 1 (.op 2 (.op 3 (.op 4 (.op 5 (.op 6 (.op 7 (.op 8 (.op 9 (.op 10 (.op 11 (.op 12 (.op 13 (.alt 14 (.done) (.done))))))))))))))))]} Tryz.func120 (hvc:=?_)),
 (fun q0 q1 q2 q4 q5 q3=>Zm Zn3 (Zg q0 (Zg q1 (Zg q2 (Zg q4 (Zg q5 (Zg q3 Zu)))))) mixed {draws:=[(4,[0,0,2,6,14,0,32,96,224,480,992,2016,4094,8190,16382,32767,65535,0,262143],.op 0 (.op 1 (.op 2 (.op 3 (.op 4 (.op 5 (.op 6 (.op 7 (.op 8 (.op 9 (.alt 10 (.op 11 (.alt 12 (.op 13 (.op 14 (.op 15 (.op 16 (.alt 17 (.alt 18 (.done) (.done)) (.done)))))) (.alt 17 (.alt 12 (.op 13 (.op 14 (.op 15 (.op 16 (.alt 18 (.done) (.done)))))) (.done)) (.done)))) (.alt 17 (.alt 10 (.op 11 (.alt 12 (.op 13 (.op 14 (.op 15 (.op 16 (.alt 18 (.done) (.done)))))) (.done))) (.done)) (.done))))))))))))),(6,[0,0,0,0,8,28,63],.op 0 (.op 2 (.op 3 (.op 4 (.alt 1 (.alt 5 (.alt 6 (.done) (.done)) (.done)) (.alt 5 (.alt 1 (.alt 6 (.done) (.done)) (.done)) (.done))))))),(7,[0,0,0,4,12,28,60,0,252,508,1020,2044,4092,8191],.op 0 (.op 1 (.op 2 (.op 3 (.op 4 (.op 5 (.op 6 (.op 7 (.op 8 (.op 9 (.op 10 (.op 11 (.op 12 (.alt 13 (.done) (.done))))))))))))))),(9,[0,0,2,6,14,30,0,64,192,448,960,1984,4032,8190,16383,32767,65535,131071],.op 0 (.op 1 (.op 2 (.op 3 (.op 4 (.op 5 (.op 6 (.op 7 (.op 8 (.op 9 (.op 10 (.op 11 (.op 12 (.alt 13 (.op 14 (.op 15 (.op 16 (.alt 17 (.done) (.done))))) (.done))))))))))))))),(10,[0,0,2,6,14,0,32,96,224,480,992,2046,4095,8191,16383],.op 0 (.op 1 (.op 2 (.op 3 (.op 4 (.op 5 (.op 6 (.op 7 (.op 8 (.op 9 (.op 10 (.alt 11 (.op 12 (.op 13 (.alt 14 (.done) (.done)))) (.done)))))))))))))]} Tryz.func118 (hvc:=?_)),
 (fun q0=>Zm ZL (Zg q0 Zu) mixed {} Tryz.func294 (hvc:=?_)),
 (fun q1 q0=>Zm ZL (Zg q1 (Zg q0 Zu)) mixed {} Tryz.func143 (hvc:=?_)),
 (Zm ZL Zu mixed {loops:=[(0,[.reg 3 (.own (.ol 147 (.flat (ZjZ)))),.reg 13 (.dat Iq)]),(2,[.reg 3 (.own (.ol 147 (.flat (ZjZ)))),.reg 21 (.dat Iq)]),(4,[.reg 3 (.own (.ol 147 (.flat (ZjZ)))),.reg 44 (.dat Iq)])]} Tryz.func83 (hvc:=?_)),
 (fun q6 q1 q4 q0 q2 q5 q3 q7=>Zm VX (Zg q6 (Zg q1 (Zg q4 (Zg q0 (Zg q2 (Zg q5 (Zg q3 (Zg q7 Zu)))))))) mixed {draws:=[(4,[0,1,3,0,8,24,0,64,248,504,1016,0,2048,8191,16383,32767],.op 0 (.op 1 (.op 2 (.op 3 (.op 4 (.op 6 (.op 7 (.op 11 (.op 12 (.alt 5 (.op 8 (.op 9 (.op 10 (.op 13 (.op 14 (.alt 15 (.done) (.done))))))) (.done))))))))))),(11,[0,1,3,0,8,31,63,0,255],.op 0 (.op 1 (.op 3 (.op 4 (.alt 2 (.op 5 (.op 6 (.alt 7 (.alt 8 (.done) (.done)) (.done)))) (.alt 7 (.alt 2 (.op 5 (.op 6 (.alt 8 (.done) (.done)))) (.done)) (.done))))))),(17,[0,1,0,4,0,16,48,127,255],.op 0 (.op 1 (.op 2 (.op 3 (.op 4 (.op 5 (.alt 6 (.op 7 (.alt 8 (.done) (.done))) (.done))))))))]} Tryz.func58 (hvc:=?_)),
 (fun q2 q5 q6 q7 q3 q1 q0 q4 q8=>Zm ZL (Zg q2 (Zg q5 (Zg q6 (Zg q7 (Zg q3 (Zg q1 (Zg q0 (Zg q4 (Zg q8 Zu))))))))) mixed {draws:=[(6,[0,1,3,7,15,31,63,127,255,511,1023,255,2303,255,8447,30975,63743,129279,262143,524287,255,1048831,3145983,255,8388863,32506111,66060543,134217727,268435455,536870911],.op 0 (.op 1 (.op 2 (.op 3 (.op 4 (.op 5 (.op 6 (.op 7 (.op 8 (.op 9 (.op 10 (.op 11 (.op 12 (.op 13 (.op 14 (.op 15 (.op 16 (.op 17 (.op 18 (.op 19 (.op 20 (.op 21 (.op 22 (.op 23 (.op 24 (.op 25 (.op 26 (.alt 27 (.op 28 (.op 29 (.done))) (.done))))))))))))))))))))))))))))),(12,[0,0,2,7,15,31,63,127,255,255,767,2047,4095,8191,255,16639,65535,131071,262143],.op 0 (.op 1 (.op 2 (.op 3 (.op 4 (.op 5 (.op 6 (.op 7 (.op 8 (.op 9 (.op 10 (.op 11 (.op 12 (.op 13 (.op 14 (.op 15 (.op 16 (.op 17 (.op 18 (.done)))))))))))))))))))),(13,[0,1,0,4,0,16,60,124,252,508,1023,2047],.op 0 (.op 1 (.op 2 (.op 3 (.op 4 (.op 5 (.op 6 (.op 7 (.op 8 (.alt 9 (.alt 10 (.op 11 (.done)) (.done)) (.done)))))))))))]} Tryz.func152 (hvc:=?_)),
 (fun q1 q0=>Zm ZL (Zg q1 (Zg q0 Zu)) mixed {} Tryz.func28 (hvc:=?_)),
 (fun q1 q0=>Zm ZL (Zg q1 (Zg q0 Zu)) mixed {loops:=[(0,[.reg 3 (.own (.ol 9 (.flat (.str)))),.reg 9 (.dat Iq)])]} Tryz.func153 (hvc:=?_)),
 (fun q1 q0=>Zm ZL (Zg q1 (Zg q0 Zu)) mixed {} Tryz.func307 (hvc:=?_)),
 (fun q0=>Zm ZL (Zg q0 Zu) mixed {} Tryz.func293 (hvc:=?_)),
 (fun q0=>Zm ZL (Zg q0 Zu) mixed {} Tryz.func190 (hvc:=?_)),
 (fun q2 q1 q0=>Zm ZL (Zg q2 (Zg q1 (Zg q0 Zu))) mixed {} Tryz.func212 (hvc:=?_)),
 (Zm ZL Zu mixed {} Tryz.func170 (hvc:=?_)),
 (Zm ZL Zu mixed {} Tryz.func179 (hvc:=?_)),
 (Zm ZL Zu mixed {} Tryz.func158 (hvc:=?_)),
 (fun q0=>Zm ZL (Zg q0 Zu) mixed {} Tryz.func207 (hvc:=?_)),
 (Zm ZL Zu mixed {} Tryz.func9 (hvc:=?_)),
 (Zm ZL Zu mixed {} Tryz.func232 (hvc:=?_)),
 (Zm ZL Zu mixed {loops:=[(0,[.reg 13 (.dat Iq)])],draws:=[(6,[0,0,3,7,0,0,48,112,255],.op 0 (.op 1 (.op 2 (.op 3 (.op 4 (.op 5 (.op 6 (.op 7 (.op 8 (.done))))))))))]} Tryz.func265 (hvc:=?_)),
 (fun q0=>Zm ZL (Zg q0 Zu) mixed {loops:=[(0,[.reg 8 (.dat Iq)])]} Tryz.func231 (hvc:=?_)),
 (Zm ZL Zu mixed {loops:=[(0,[.reg 8 (.dat Iq)])]} Tryz.func249 (hvc:=?_)),
 (fun q1 q0=>Zm ZL (Zg q1 (Zg q0 Zu)) mixed {} Tryz.func27 (hvc:=?_)),
 (fun q0 q1 q2=>Zm ZL (Zg q0 (Zg q1 (Zg q2 Zu))) mixed {loops:=[(0,[.reg 5 (.own (.ol 9 (.flat (.str)))),.reg 6 (.dat Iq)]),(2,[.reg 7 (.own (.ol 9 (.flat (.str)))),.reg 8 (.dat Iq)]),(4,[.reg 10 (.dat Iq),.ent 6 (nat_lit 2) (.flat Znz.ety)]),(6,[.reg 12 (.dat Iq),.ent 6 (nat_lit 2) (.flat Znz.ety)]),(8,[.reg 13 (.dat Iq)])]} Tryz.func95 (hvc:=?_)),
 (fun q0=>Zm ZL (Zg q0 Zu) mixed {loops:=[(0,[.reg 3 (.dat Iq)]),(2,[.reg 4 (.dat Iq)])],draws:=[(9,[0,1,0,7,15,31,0,64,0,448,960,1984,4095],.op 0 (.op 1 (.op 2 (.op 3 (.op 4 (.op 5 (.op 6 (.op 7 (.op 8 (.op 9 (.op 10 (.op 11 (.op 12 (.done))))))))))))))]} Tryz.func176 (hvc:=?_)),
 (fun q1 q0=>Zm VX (Zg q1 (Zg q0 Zu)) mixed {loops:=[(0,[.reg 4 (.dat Iq),.cello 1003 3 (.ol 219 (ZmF))])],draws:=[(1,[0,1,0,4,0,0,32,112,0,256,1008,0,2048,0,8192,32767,0,131071],.op 0 (.op 2 (.op 5 (.op 6 (.op 8 (.op 11 (.op 13 (.ld 1 (.ld 3 (.ld 9 (.ld 12 (.ld 14 (.alt 4 (.alt 7 (.alt 10 (.op 15 (.alt 16 (.alt 17 (.done) (.done)) (.done))) (.alt 16 (.alt 10 (.op 15 (.alt 17 (.done) (.done))) (.done)) (.done))) (.alt 16 (.alt 7 (.alt 10 (.op 15 (.alt 17 (.done) (.done))) (.done)) (.done)) (.done))) (.alt 16 (.alt 4 (.alt 7 (.alt 10 (.op 15 (.alt 17 (.done) (.done))) (.done)) (.done)) (.done)) (.done)))))))))))))))]} Tryz.func220 (hvc:=?_)),
 (fun q0 q1 q2=>Zm VX (Zg q0 (Zg q1 (Zg q2 Zu))) mixed {draws:=[(7,[0,1,0,0,8,0,56,120,248,504,0,2040,4095,8191,16383],.op 0 (.op 2 (.op 3 (.op 4 (.op 5 (.op 6 (.op 7 (.op 8 (.ld 1 (.alt 9 (.alt 10 (.alt 11 (.op 12 (.op 13 (.alt 14 (.done) (.done)))) (.done)) (.done)) (.alt 10 (.alt 9 (.alt 11 (.op 12 (.op 13 (.alt 14 (.done) (.done)))) (.done)) (.done)) (.done)))))))))))),(11,[0,1,0,7,15,31,0,0,128,448,960,2047,4095],.op 0 (.op 2 (.op 7 (.ld 1 (.op 3 (.op 4 (.alt 5 (.alt 6 (.alt 8 (.op 9 (.op 10 (.op 11 (.alt 12 (.done) (.done))))) (.done)) (.alt 8 (.alt 6 (.op 9 (.op 10 (.op 11 (.alt 12 (.done) (.done))))) (.done)) (.done))) (.alt 6 (.alt 5 (.alt 8 (.op 9 (.op 10 (.op 11 (.alt 12 (.done) (.done))))) (.done)) (.alt 8 (.op 9 (.op 10 (.alt 5 (.op 11 (.alt 12 (.done) (.done))) (.done)))) (.done))) (.alt 8 (.alt 5 (.alt 6 (.op 9 (.op 10 (.op 11 (.alt 12 (.done) (.done))))) (.done)) (.alt 6 (.op 9 (.op 10 (.alt 5 (.op 11 (.alt 12 (.done) (.done))) (.done)))) (.done))) (.done)))))))))),(13,[0,1,0,7,15,31,0,64,0,448,960,1984,4032,8128,0,16384,49152,131071,262143],.op 0 (.op 2 (.op 6 (.op 8 (.op 14 (.ld 1 (.op 3 (.op 4 (.ld 7 (.op 9 (.op 10 (.alt 5 (.alt 11 (.op 12 (.op 13 (.alt 15 (.op 16 (.op 17 (.alt 18 (.done) (.done)))) (.done)))) (.alt 15 (.op 16 (.alt 11 (.op 12 (.op 13 (.op 17 (.alt 18 (.done) (.done))))) (.done))) (.done))) (.alt 11 (.op 12 (.op 13 (.alt 5 (.alt 15 (.op 16 (.op 17 (.alt 18 (.done) (.done)))) (.done)) (.alt 15 (.op 16 (.alt 5 (.op 17 (.alt 18 (.done) (.done))) (.done))) (.done))))) (.alt 15 (.op 16 (.alt 5 (.alt 11 (.op 12 (.op 13 (.op 17 (.alt 18 (.done) (.done))))) (.done)) (.alt 11 (.op 12 (.op 13 (.alt 5 (.op 17 (.alt 18 (.done) (.done))) (.done)))) (.done)))) (.done)))))))))))))))]} Tryz.func87 (hvc:=?_)),
 (Zm ZL Zu mixed {loops:=[(0,[.reg 5 (.dat Iq)])],draws:=[(6,[0,1,0,7,15,31,0,64,0,448,960,1984,4095],.op 0 (.op 1 (.op 2 (.op 3 (.op 4 (.op 5 (.op 6 (.op 7 (.op 8 (.op 9 (.op 10 (.op 11 (.op 12 (.done))))))))))))))]} Tryz.func145 (hvc:=?_)),
 (fun q7 q2 q3 q4 q6 q0 q5 q1=>Zm VX (Zg q7 (Zg q2 (Zg q3 (Zg q4 (Zg q6 (Zg q0 (Zg q5 (Zg q1 Zu)))))))) mixed {draws:=[(5,[0,1,3,0,0,16,56,120,248,0,512,2047,4095,8191],.op 0 (.op 1 (.op 2 (.op 3 (.op 4 (.op 5 (.op 6 (.op 7 (.op 8 (.op 9 (.op 10 (.op 11 (.op 12 (.alt 13 (.done) (.done))))))))))))))),(13,[0,1,0,0,8,28,60,0,128,511],.op 0 (.op 1 (.op 2 (.op 3 (.op 4 (.op 5 (.op 6 (.op 7 (.op 8 (.alt 9 (.done) (.done))))))))))),(16,[0,1,0,4,0,16,48,127,255],.op 0 (.op 1 (.op 2 (.op 3 (.op 4 (.op 5 (.alt 6 (.op 7 (.alt 8 (.done) (.done))) (.done))))))))]} Tryz.func94 (hvc:=?_)),
 (Zm ZL Zu mixed {} Tryz.func206 (hvc:=?_)),
 (Zm VX Zu mixed {draws:=[(3,[0,1,0,4,15,31,63,0,128,0,1023,2047],.op 0 (.op 1 (.op 2 (.op 3 (.op 4 (.op 5 (.op 6 (.op 7 (.op 8 (.op 9 (.op 10 (.alt 11 (.done) (.done)))))))))))))]} Tryz.func174 (hvc:=?_)),
 (fun q1 q3 q0 q2 q4=>Zm ZL (Zg q1 (Zg q3 (Zg q0 (Zg q2 (Zg q4 Zu))))) mixed {draws:=[(3,[0,0,0,6,15,31,63,63,63,127],.op 1 (.op 2 (.ld 0 (.alt 3 (.alt 4 (.op 5 (.op 6 (.op 7 (.op 8 (.alt 9 (.done) (.done)))))) (.done)) (.done))))),(4,[0,0,0,6,15,31],.op 1 (.op 2 (.ld 0 (.alt 3 (.alt 4 (.alt 5 (.done) (.done)) (.done)) (.done)))))]} Tryz.func75 (hvc:=?_))⟩
 all_goals
  intro a
  repeat rcases a with ⟨_,a⟩
  rintro K ⟨r,h,hK⟩
  repeat'
    conv=>whnf
    first
    | with_reducible refine ZoK ?_
    | with_reducible refine ZnK (by assumption) (by assumption) (by assumption) ?_
    | with_reducible refine Zh (by assumption) ?_
    | with_reducible refine ZnS (by assumption) ?_
    | (with_reducible refine shD ?_);first | refine ZG h (fun h=>?_) (fun h=>?_) | refine ZcV h (fun h=>?_) (fun h=>?_)
    | (with_reducible refine ZoO ?_);first | refine Zj4 ?_ | refine Yc ?_
    | (with_reducible refine Zo6 ?_);first | refine Qn h (fun h=>?_) (fun h=>?_) | refine Zmk h (fun h=>?_) (fun h=>?_)
    | (with_reducible refine ZoN ?_);(refine ⟨fun hd=>?_,?_⟩)<;>try subst hd
    | (with_reducible refine Zo8 ?_);first | with_reducible refine Ze h (fun x hb h=>?_) | refine ZnS (by assumption) ?_ | with_reducible refine pG h (fun hp h=>?_) | with_reducible refine pA h (fun x ha hb hx h=>?_) | with_reducible refine pB h (fun x hb h=>?_) | refine Ze h (fun x hb h=>?_)
    | (with_reducible refine Zo5 ?_);first | with_reducible refine vAt h (fun x ha hb hx h=>?_) | refine ZnK (by assumption) (by assumption) (by assumption) ?_ | with_reducible refine pG h (fun hp h=>?_) | with_reducible refine pA h (fun x ha hb hx h=>?_) | with_reducible refine pB h (fun x hb h=>?_) | refine vAt h (fun x ha hb hx h=>?_)
    | (with_reducible refine ZoM ?_);first | with_reducible refine ZoU h (fun x hb h=>?_) | refine Zh (by assumption) ?_ | with_reducible refine pG h (fun hp h=>?_) | with_reducible refine pA h (fun x ha hb hx h=>?_) | with_reducible refine pB h (fun x hb h=>?_) | refine ZoU h (fun x hb h=>?_)
    | with_reducible refine Zo7 ?_
    | (with_reducible refine Zot ?_);refine ZoC h hK ?_;clear h hK;intro I μ v r h hK;(repeat rcases v with ⟨_,v⟩);(try dsimp only at h)
    | with_reducible refine ⟨by assumption,?_⟩
    | with_reducible refine orL ?_
    | with_reducible refine .inr ?_
    | (with_reducible refine ZoP ?_);first | refine ⟨?_,True.intro⟩ | refine ⟨?_,?_⟩
    | refine ⟨by kernel_rfl,?_⟩
    | refine ⟨by decide,?_⟩
    | with_reducible refine Yk h (fun hp h=>?_)
    | intro fp
    | exact trivial
    | with_reducible exact ZoJ h
    | (refine pS h (fun e=>?_));subst e;(repeat (first | exact hK | exact ⟨⟨rfl,rfl⟩,hK.1 _ rfl⟩ | (refine pR hK (fun e hK=>?_));subst e));done
    | refine Yk h (fun hp h=>?_)
    | refine ⟨by assumption,?_⟩
    | with_reducible refine pG h (fun hp h=>?_) | with_reducible refine pA h (fun x ha hb hx h=>?_) | with_reducible refine pB h (fun x hb h=>?_)
    | refine pG h (fun hp h=>?_)
    | fail
theorem ZCw (q0:Sq 235 c145) (q2:Sq 236 c146) (q1:Sq 237 ZBk) (q3:Sq 134 c141):Sq 196 c148:=by
 refine Zm VX (Zg q0 (Zg q2 (Zg q1 (Zg q3 Zu)))) mixed {loops:=[(0,[.reg 19 (.dat Iq),.splt 1300 193 (Zbr)])],draws:=[(1,[0,1,3,0,8,31,0,64,255,511,0,2047],.op 0 (.op 1 (.op 3 (.op 4 (.op 6 (.op 7 (.alt 2 (.alt 5 (.alt 8 (.op 9 (.alt 10 (.alt 11 (.done) (.done)) (.done))) (.alt 10 (.alt 8 (.op 9 (.alt 11 (.done) (.done))) (.done)) (.done))) (.alt 10 (.alt 5 (.alt 8 (.op 9 (.alt 11 (.done) (.done))) (.done)) (.done)) (.done))) (.alt 10 (.alt 2 (.alt 5 (.alt 8 (.op 9 (.alt 11 (.done) (.done))) (.done)) (.done)) (.done)) (.done))))))))),(5,[0,1,0,0,8,24,63,127,255],.op 0 (.op 1 (.op 2 (.op 3 (.op 4 (.alt 5 (.op 6 (.op 7 (.alt 8 (.done) (.done)))) (.done)))))))]} (fn:=Tryz.f196) Tryz.func196 (by kernel_rfl) (by kernel_rfl) ?_
 rintro ⟨d0,⟨⟩⟩ K ⟨r,h,hK⟩
 change ZqL d0=some r at h
 unfold ZqL at h
 focus
  conv=>whnf
  refine ⟨by kernel_rfl,?_⟩
  conv=>whnf
  obtain ⟨Instance0,hb0,h⟩:=Option.bind_eq_some_iff.1 h
  obtain ⟨string0,hb1,h⟩:=Option.bind_eq_some_iff.1 h
  obtain ⟨Port0,hb2,h⟩:=Option.bind_eq_some_iff.1 h
  refine ⟨?_,?_⟩
  rotate_left
  focus
   conv=>whnf
   refine ⟨_,hb0,?_⟩
   conv=>whnf
   refine ⟨_,hb1,?_⟩
   conv=>whnf
   refine ⟨_,hb2,?_⟩
   conv=>whnf
   refine ⟨trivial,?_⟩
  rotate_right
  focus
   conv=>whnf
   refine ⟨_,hb0,?_⟩
   conv=>whnf
   refine ⟨?_,?_⟩
   rotate_left
   focus
    conv=>whnf
    refine ⟨_,hb1,?_⟩
    conv=>whnf
    refine ⟨_,hb2,?_⟩
    conv=>whnf
    refine ⟨trivial,?_⟩
   rotate_right
   focus
    conv=>whnf
    refine ⟨_,hb1,?_⟩
    conv=>whnf
    refine ⟨?_,?_⟩
    rotate_left
    focus
     conv=>whnf
     refine ⟨_,hb2,?_⟩
     conv=>whnf
     refine ⟨trivial,?_⟩
    rotate_right
    focus
     conv=>whnf
     refine ⟨_,hb2,?_⟩
     conv=>whnf
     refine ⟨trivial,?_⟩
  all_goals
   conv=>whnf
   refine YH h ?_
   rintro I3 μ3 ⟨v0,l0,⟨⟩⟩ zs3 h hI3 hR3
   change Zqd Instance0 string0 Port0 v0 l0=some zs3 at h
   unfold Zqd at h
   conv=>whnf
   intro fp4
   conv=>whnf
   refine ZG h (fun h=>?_) (fun h=>?_)
   conv=>whnf
   refine vAt h (fun x0 he5a he5b he5x h=>?_)
   conv=>whnf
   refine Yk h (fun hp6 h=>?_)
   conv=>whnf
   refine ⟨he5a,he5b,Zh he5x ?_⟩
   conv=>whnf
   refine ⟨by kernel_rfl,?_⟩
   conv=>whnf
   refine Ze h (fun int64_0 hb7 h=>?_)
   conv=>whnf
   refine ⟨he5a,he5b,Zh he5x ?_⟩
   conv=>whnf
   refine Yk h (fun hp8 h=>?_)
   conv=>whnf
   refine vAt h (fun x1 he9a he9b he9x h=>?_)
   conv=>whnf
   refine ⟨trivial,?_⟩
   conv=>whnf
   cases h
   exact ⟨⟨rfl,rfl⟩,hI3 _ rfl⟩
   conv=>whnf
   refine Yk h (fun hp10 h=>?_)
   conv=>whnf
   cases h
   obtain rfl:=hR3 _ rfl
   exact hK
theorem w_laws_FnEditInverse (q7:Sq 9 c0) (q0:Sq 27 c67) (q2:Sq 19 c159) (q1:Sq 28 c164) (q3:Sq 29 c49) (q4:Sq 30 c139) (q5:Sq 31 ZAL) (q6:Sq 32 c168):Sq 6 ZtO:=by
 refine Zm ZL (Zg q7 (Zg q0 (Zg q2 (Zg q1 (Zg q3 (Zg q4 (Zg q5 (Zg q6 Zu)))))))) mixed {} (fn:=Tryz.f6) Tryz.func6 (by kernel_rfl) (by kernel_rfl) ?_
 rintro ⟨a0,⟨⟩⟩ K ⟨r,h,hK⟩
 change Zq6 a0=some r at h
 unfold Zq6 at h
 conv=>whnf
 refine Ze h (fun big0 hb0 h=>?_)
 conv=>whnf
 refine Qn h (fun h=>?_) (fun h=>?_)
 conv=>whnf
 cases h
 exact hK
 conv=>whnf
 refine Ze h (fun DrawApplyEdit0 hb1 h=>?_)
 conv=>whnf
 refine Ze h (fun ApplyEdit0 hb2 h=>?_)
 conv=>whnf
 intro fp3
 conv=>whnf
 intro fp4
 conv=>whnf
 intro fp5
 conv=>whnf
 refine Ze h (fun InverseEdit0 hb6 h=>?_)
 conv=>whnf
 refine Ze h (fun EditCode0 hb7 h=>?_)
 conv=>whnf
 refine Zj4 ?_
 refine ZG h (fun h=>?_) (fun h=>?_)
 conv=>whnf
 refine Zj4 ?_
 refine ZG h (fun h=>?_) (fun h=>?_)
 conv=>whnf
 refine Ze h (fun EditCode1 hb8 h=>?_)
 conv=>whnf
 refine Yc ?_
 refine ZG h (fun h=>?_) (fun h=>?_)
 conv=>whnf
 refine Yc ?_
 refine ZG h (fun h=>?_) (fun h=>?_)
 conv=>whnf
 refine Ze h (fun ApplyEdit1 hb9 h=>?_)
 conv=>whnf
 intro fp10
 conv=>whnf
 intro fp11
 conv=>whnf
 intro fp12
 conv=>whnf
 refine ZG h (fun h=>?_) (fun h=>?_)
 conv=>whnf
 refine Ze h (fun IsBlock0 hb13 h=>?_)
 conv=>whnf
 refine Qn h (fun h=>?_) (fun h=>?_)
 conv=>whnf
 refine Ze h (fun w5Block0 hb14 h=>?_)
 conv=>whnf
 cases h
 exact hK
 conv=>whnf
 cases h
 exact hK
 conv=>whnf
 cases h
 exact hK
 conv=>whnf
 cases h
 exact hK
 conv=>whnf
 cases h
 exact hK
 conv=>whnf
 cases h
 exact hK
 conv=>whnf
 cases h
 exact hK
end Go.Proofs.YtnnbgbgapogckaaGreatDoor
