/-
  The functions keep their contracts, if what they call does. Printed by program.
-/
import Derived.Test.YtnnbgbgapogckaaGreatDoorM
import Derived.KernelRfl
namespace Go.Proofs.YtnnbgbgapogckaaGreatDoor
open Go Go.Sx
set_option maxRecDepth 100000
set_option maxHeartbeats 6400000
set_option linter.unusedVariables false
set_option linter.unusedSimpArgs false
structure Ws4:Prop where
 w139:Sq 292 ZAK→Sq 293 ZBc→Sq 294 ZBf→Sq 295 c138→Sq 278 ZBg→Sq 159 ZA2→Sq 275 c139
 w155:Sq 112 c154→Sq 217 ZBl
 w180:Sq 249 c116→Sq 214 ZM8
 w163:Sq 83 ZBo
 w166:Sq 82 c162→Sq 83 ZBo→Sq 84 ZAN→Sq 31 ZBp
 w165:Sq 158 ZAL→Sq 159 ZA2→Sq 160 c164→Sq 109 ZA7→Sq 84 ZAN
 w176:Sq 211 ZM0
 w121:Sq 158 ZAL
 w178:Sq 248 ZM5→Sq 247 ZM6
 w123:Sq 190 ZA5→Sq 231 ZA6
 w129:Sq 308 ZBa
 w79:Sq 29 c65→Sq 94 c78→Sq 39 c79
 w35:Sq 176 c32→Sq 177 c33→Sq 178 c34→Sq 95 c35
 w85:Sq 114 c23→Sq 259 c85
 w188:Sq 95 c35→Sq 96 c13→Sq 40 ZNe
 w96:Sq 315 c96
 w2:Sq 44 c2
 w30:Sq 262 c30
 w69:Sq 220 c68→Sq 166 c69
 w60:Sq 205 c60
 w55:Sq 78 c55
 w80:Sq 44 c2→Sq 89 c54→Sq 39 c79→Sq 88 c80
 w64:Sq 96 c13→Sq 145 c57→Sq 146 c58→Sq 147 c22→Sq 148 c59→Sq 149 c61→Sq 150 c63→Sq 139 c14→Sq 144 c36→Sq 80 c64
 w40:Sq 140 c39→Sq 136 c40
 w20:Sq 44 c2→Sq 87 c19→Sq 125 c18→Sq 123 c20
 w51:Sq 77 c37→Sq 96 c13→Sq 44 c2→Sq 128 c51
 w87:Sq 71 c46→Sq 114 c23→Sq 259 c85→Sq 281 c86→Sq 255 c87
set_option maxHeartbeats 100000000 in
theorem ws4:Ws4:=by
 refine ⟨(fun q4 q3 q2 q0 q1 q5=>Zm ZL (Zg q4 (Zg q3 (Zg q2 (Zg q0 (Zg q1 (Zg q5 Zu)))))) mixed {draws:=[(2,[0,1,3,7,15,31,63,127,255,511,1023,2047,4095,8191,16383,32767,65535,32767,163839,524287,1048575,2097151,4194303,8388607,16777215,33554431,67108863,134217727,134217727,402653183,1073741823,2147483647,4294967295,8589934591,17179869183,8589934591,42949672959,137438953471,274877906943,549755813887],.op 0 (.op 1 (.op 2 (.op 3 (.op 4 (.op 5 (.op 6 (.op 7 (.op 8 (.op 9 (.op 10 (.op 11 (.alt 12 (.op 13 (.op 14 (.op 15 (.op 16 (.op 17 (.alt 18 (.op 19 (.op 20 (.op 21 (.op 22 (.op 23 (.op 24 (.op 25 (.op 26 (.op 27 (.op 28 (.op 29 (.alt 30 (.op 31 (.op 32 (.op 33 (.op 34 (.op 35 (.op 36 (.op 37 (.op 38 (.op 39 (.done)))))))))) (.done))))))))))))) (.done))))))) (.done)))))))))))))),(3,[0,1,3,7,15,31,63,127,255,511,1023,2047,4095,2047,10239,32767,65535,131071,262143,262143,786431,2097151,4194303,8388607],.op 0 (.op 1 (.alt 2 (.op 3 (.op 4 (.op 5 (.op 6 (.alt 7 (.op 8 (.op 9 (.op 10 (.op 11 (.op 12 (.op 13 (.alt 14 (.op 15 (.op 16 (.op 17 (.op 18 (.op 19 (.op 20 (.alt 21 (.op 22 (.op 23 (.done))) (.done)))))))) (.done)))))))) (.done)))))) (.done))))]} Tryz.func275 (hvc:=?_)),
 (fun q0=>Zm ZL (Zg q0 Zu) mixed {} Tryz.func217 (hvc:=?_)),
 (fun q0=>Zm ZL (Zg q0 Zu) mixed {} Tryz.func214 (hvc:=?_)),
 (Zm ZL Zu mixed {loops:=[(0,[.reg 3 (.own (.ol 147 (.flat (ZjZ)))),.reg 13 (.dat Iq)]),(2,[.reg 3 (.own (.ol 147 (.flat (ZjZ)))),.reg 21 (.dat Iq)]),(4,[.reg 3 (.own (.ol 147 (.flat (ZjZ)))),.reg 44 (.dat Iq)])]} Tryz.func83 (hvc:=?_)),
 (fun q1 q0 q2=>Zm ZL (Zg q1 (Zg q0 (Zg q2 Zu))) mixed {loops:=[(0,[.reg 32 (.dat Iq),.ent 1 (nat_lit 2) (.flat Znz.ety)]),(2,[.reg 50 (.dat Iq)])],draws:=[(13,[0,0,0,6,14,31,63],.op 0 (.op 1 (.op 2 (.op 3 (.op 4 (.alt 5 (.op 6 (.done)) (.done)))))))]} Tryz.func31 (hvc:=?_)),
 (fun q0 q3 q1 q2=>Zm ZL (Zg q0 (Zg q3 (Zg q1 (Zg q2 Zu)))) mixed {} Tryz.func84 (hvc:=?_)),
 (Zm ZL Zu mixed {} Tryz.func211 (hvc:=?_)),
 (Zm ZL Zu mixed {} Tryz.func158 (hvc:=?_)),
 (fun q0=>Zm ZL (Zg q0 Zu) mixed {loops:=[(0,[.reg 8 (.dat Iq)])]} Tryz.func247 (hvc:=?_)),
 (fun q0=>Zm ZL (Zg q0 Zu) mixed {loops:=[(0,[.reg 8 (.dat Iq)])]} Tryz.func231 (hvc:=?_)),
 (Zm ZL Zu mixed {loops:=[(0,[.reg 3 (.dat Iq),.reg 4 (.dat Iq)])]} Tryz.func308 (hvc:=?_)),
 (fun q0 q1=>Zm VX (Zg q0 (Zg q1 Zu)) mixed {} Tryz.func39 (hvc:=?_)),
 (fun q0 q1 q2=>Zm ZL (Zg q0 (Zg q1 (Zg q2 Zu))) mixed {loops:=[(0,[.reg 5 (.own (.ol 9 (.flat (.str)))),.reg 6 (.dat Iq)]),(2,[.reg 7 (.own (.ol 9 (.flat (.str)))),.reg 8 (.dat Iq)]),(4,[.reg 10 (.dat Iq),.ent 6 (nat_lit 2) (.flat Znz.ety)]),(6,[.reg 12 (.dat Iq),.ent 6 (nat_lit 2) (.flat Znz.ety)]),(8,[.reg 13 (.dat Iq)])]} Tryz.func95 (hvc:=?_)),
 (fun q0=>Zm ZL (Zg q0 Zu) mixed {} Tryz.func259 (hvc:=?_)),
 (fun q1 q0=>Zm ZL (Zg q1 (Zg q0 Zu)) mixed {} Tryz.func40 (hvc:=?_)),
 (Zm ZL Zu mixed {} Tryz.func315 (hvc:=?_)),
 (Zm ZL Zu mixed {draws:=[(3,[0,1,3,7,0,16,48,112,240,511],.op 0 (.op 1 (.op 2 (.op 3 (.op 4 (.op 5 (.op 6 (.op 7 (.op 8 (.op 9 (.done))))))))))),(4,[0,1,3,7,0,16,48,112,255,511,1023,2047],.op 0 (.op 1 (.op 2 (.op 3 (.op 4 (.op 5 (.op 6 (.op 7 (.op 8 (.op 9 (.alt 10 (.op 11 (.done)) (.done))))))))))))]} Tryz.func44 (hvc:=?_)),
 (Zm ZL Zu mixed {loops:=[(0,[.reg 4 (.dat Iq),.ent 1 (nat_lit 2) (.flat Znz.ety)])]} Tryz.func262 (hvc:=?_)),
 (fun q0=>Zm VX (Zg q0 Zu) mixed {loops:=[(0,[.reg 4 (.dat Iq),.cello 1003 0 (.ol 216 (ZiT))])],draws:=[(5,[0,1,0,4,0,28,60,124,252,511,1023,2047],.op 0 (.op 1 (.op 2 (.op 3 (.op 4 (.op 5 (.op 6 (.alt 7 (.alt 8 (.alt 9 (.op 10 (.alt 11 (.done) (.done))) (.done)) (.done)) (.done)))))))))]} Tryz.func166 (hvc:=?_)),
 (Zm ZL Zu mixed {loops:=[(0,[.reg 5 (.dat Iq)])]} Tryz.func205 (hvc:=?_)),
 (Zm ZL Zu mixed {} Tryz.func78 (hvc:=?_)),
 (fun q1 q2 q0=>Zm VX (Zg q1 (Zg q2 (Zg q0 Zu))) mixed {loops:=[(0,[.reg 7 (.own (.ol 62 (ZoH))),.reg 9 (.dat Iq),.cell 0 0 (.sl (.int .u8)),.cell 0 1 Iq,.cell 0 2 Iq,.cell 3 0 (.sl (Zin)),.cell 3 1 (.sl (ZdO)),.cell 3 2 (.sl (.str)),.cell 3 3 (.sl (ZkZ)),.cell 3 4 (.sl (ZjY))])]} Tryz.func88 (hvc:=?_)),
 (fun q1 q3 q2 q6 q0 q4 q7 q5 q8=>Zm ZL (Zg q1 (Zg q3 (Zg q2 (Zg q6 (Zg q0 (Zg q4 (Zg q7 (Zg q5 (Zg q8 Zu))))))))) mixed {draws:=[(5,[0,1,3,7,15,31,63,127,255,511,1023,255,2303,6399,255,16639,63743,129279,260351,524287,1048575,255,2097407,6291711,255,16777471,65011967,132120831,268435455,536870911,1073741823],.op 0 (.op 1 (.op 2 (.op 3 (.op 4 (.op 5 (.op 6 (.op 7 (.op 8 (.op 9 (.op 10 (.op 11 (.op 12 (.op 13 (.op 14 (.op 15 (.op 16 (.op 17 (.op 18 (.op 19 (.op 20 (.op 21 (.op 22 (.op 23 (.op 24 (.op 25 (.op 26 (.op 27 (.alt 28 (.op 29 (.op 30 (.done))) (.done)))))))))))))))))))))))))))))),(11,[0,0,2,7,15,31,63,127,255,255,767,2047,4095,8191,255,16639,65535,131071,262143],.op 0 (.op 1 (.op 2 (.op 3 (.op 4 (.op 5 (.op 6 (.op 7 (.op 8 (.op 9 (.op 10 (.op 11 (.op 12 (.op 13 (.op 14 (.op 15 (.op 16 (.op 17 (.op 18 (.done)))))))))))))))))))),(12,[0,1,0,4,0,16,60,124,255,511],.op 0 (.op 1 (.op 2 (.op 3 (.op 4 (.op 5 (.alt 6 (.op 7 (.alt 8 (.op 9 (.done)) (.done))) (.done))))))))]} Tryz.func80 (hvc:=?_)),
 (fun q0=>Zm VX (Zg q0 Zu) mixed {loops:=[(0,[.reg 0 (.own (.ol 211 (.flat (Zl8)))),.reg 11 (.dat Iq)]),(2,[.reg 0 (.own (.ol 211 (.flat (Zl8)))),.reg 12 (.dat Iq)])]} Tryz.func136 (hvc:=?_)),
 (fun q1 q0 q2=>Zm VX (Zg q1 (Zg q0 (Zg q2 Zu))) mixed {} Tryz.func123 (hvc:=?_)),
 (fun q1 q0 q2=>Zm ZL (Zg q1 (Zg q0 (Zg q2 Zu))) mixed {loops:=[(0,[.reg 5 (.own (.ol 270 (.flat (Zma)))),.reg 7 (.dat Iq),.cell 0 0 (.sl (.int .u8)),.cell 0 1 Iq,.cell 0 2 Iq]),(2,[.reg 5 (.own (.ol 270 (.flat (Zma)))),.reg 9 (.dat Iq),.cell 0 0 (.sl (.int .u8)),.cell 0 1 Iq,.cell 0 2 Iq])]} Tryz.func128 (hvc:=?_)),
 (fun q0 q3 q2 q1=>Zm ZL (Zg q0 (Zg q3 (Zg q2 (Zg q1 Zu)))) mixed {loops:=[(0,[.reg 6 (.dat Iq)])],draws:=[(5,[0,0,3,7,15,0,32,127,255,511,1023,2047,4095,8191,8191,24575,65535,131071,262143,8191,8191,1581055,3678207,7872511,16777215,33554431,67108863,134217727,268435455,268435455,1073741823,2147483647,4294967295,8589934591,17179869183,34359738367,68719476735,137438953471,137438953471,549755813887,1099511627775,2199023255551,4398046511103,8796093022207,17592186044415],.op 0 (.op 1 (.op 2 (.op 3 (.op 4 (.op 5 (.op 6 (.alt 7 (.op 8 (.op 9 (.op 10 (.op 11 (.op 12 (.op 13 (.op 14 (.op 15 (.op 16 (.op 17 (.op 18 (.op 19 (.op 20 (.op 21 (.op 22 (.op 23 (.op 24 (.op 25 (.op 26 (.op 27 (.op 28 (.op 29 (.op 30 (.op 31 (.op 32 (.alt 33 (.op 34 (.op 35 (.op 36 (.op 37 (.op 38 (.op 39 (.op 40 (.op 41 (.alt 42 (.op 43 (.op 44 (.done))) (.done)))))))))) (.done))))))))))))))))))))))))))) (.done)))))))))]} Tryz.func255 (hvc:=?_))⟩
 all_goals
  intro a
  repeat rcases a with ⟨_,a⟩
  rintro K ⟨r,h,hK⟩
  repeat'
    conv=>whnf
    first
    | with_reducible refine ZoK ?_
    | with_reducible refine ZnK (by assumption) (by assumption) (by assumption) ?_
    | with_reducible refine Zh (by assumption) ?_
    | with_reducible refine ZnS (by assumption) ?_
    | (with_reducible refine shD ?_);first | refine ZG h (fun h=>?_) (fun h=>?_) | refine ZcV h (fun h=>?_) (fun h=>?_)
    | (with_reducible refine ZoO ?_);first | refine Zj4 ?_ | refine Yc ?_
    | (with_reducible refine Zo6 ?_);first | refine Qn h (fun h=>?_) (fun h=>?_) | refine Zmk h (fun h=>?_) (fun h=>?_)
    | (with_reducible refine ZoN ?_);(refine ⟨fun hd=>?_,?_⟩)<;>try subst hd
    | (with_reducible refine Zo8 ?_);first | with_reducible refine Ze h (fun x hb h=>?_) | refine ZnS (by assumption) ?_ | with_reducible refine pG h (fun hp h=>?_) | with_reducible refine pA h (fun x ha hb hx h=>?_) | with_reducible refine pB h (fun x hb h=>?_) | refine Ze h (fun x hb h=>?_)
    | (with_reducible refine Zo5 ?_);first | with_reducible refine vAt h (fun x ha hb hx h=>?_) | refine ZnK (by assumption) (by assumption) (by assumption) ?_ | with_reducible refine pG h (fun hp h=>?_) | with_reducible refine pA h (fun x ha hb hx h=>?_) | with_reducible refine pB h (fun x hb h=>?_) | refine vAt h (fun x ha hb hx h=>?_)
    | (with_reducible refine ZoM ?_);first | with_reducible refine ZoU h (fun x hb h=>?_) | refine Zh (by assumption) ?_ | with_reducible refine pG h (fun hp h=>?_) | with_reducible refine pA h (fun x ha hb hx h=>?_) | with_reducible refine pB h (fun x hb h=>?_) | refine ZoU h (fun x hb h=>?_)
    | with_reducible refine Zo7 ?_
    | (with_reducible refine Zot ?_);refine ZoC h hK ?_;clear h hK;intro I μ v r h hK;(repeat rcases v with ⟨_,v⟩);(try dsimp only at h)
    | with_reducible refine ⟨by assumption,?_⟩
    | with_reducible refine orL ?_
    | with_reducible refine .inr ?_
    | (with_reducible refine ZoP ?_);first | refine ⟨?_,True.intro⟩ | refine ⟨?_,?_⟩
    | refine ⟨by kernel_rfl,?_⟩
    | refine ⟨by decide,?_⟩
    | with_reducible refine Yk h (fun hp h=>?_)
    | intro fp
    | exact trivial
    | with_reducible exact ZoJ h
    | (refine pS h (fun e=>?_));subst e;(repeat (first | exact hK | exact ⟨⟨rfl,rfl⟩,hK.1 _ rfl⟩ | (refine pR hK (fun e hK=>?_));subst e));done
    | refine Yk h (fun hp h=>?_)
    | refine ⟨by assumption,?_⟩
    | with_reducible refine pG h (fun hp h=>?_) | with_reducible refine pA h (fun x ha hb hx h=>?_) | with_reducible refine pB h (fun x hb h=>?_)
    | refine pG h (fun hp h=>?_)
    | fail
theorem ZFP (q3:Sq 60 c52) (q5:Sq 77 c37) (q6:Sq 44 c2) (q2:Sq 88 c80) (q4:Sq 36 c81) (q1:Sq 128 c51) (q7:Sq 89 c54) (q0:Sq 169 ZAZ):Sq 92 ZA0:=by
 refine Zm ZL (Zg q3 (Zg q5 (Zg q6 (Zg q2 (Zg q4 (Zg q1 (Zg q7 (Zg q0 Zu)))))))) mixed {draws:=[(3,[0,0,0,6,15,31,63,63,63,0,639,1791,4095],.op 1 (.op 2 (.ld 0 (.alt 3 (.alt 4 (.op 5 (.op 6 (.op 7 (.op 8 (.alt 9 (.alt 10 (.op 11 (.op 12 (.done))) (.done)) (.done)))))) (.alt 9 (.alt 4 (.op 5 (.op 6 (.op 7 (.op 8 (.alt 10 (.op 11 (.op 12 (.done))) (.done)))))) (.done)) (.done))) (.alt 9 (.alt 3 (.alt 4 (.op 5 (.op 6 (.op 7 (.op 8 (.alt 10 (.op 11 (.op 12 (.done))) (.done)))))) (.done)) (.done)) (.done)))))),(11,[0,0,0,0,0,1,35,103,239,511],.op 0 (.op 3 (.alt 1 (.alt 2 (.alt 4 (.alt 5 (.alt 6 (.alt 7 (.op 8 (.alt 9 (.done) (.done))) (.done)) (.done)) (.done)) (.alt 5 (.alt 4 (.alt 6 (.alt 7 (.op 8 (.alt 9 (.done) (.done))) (.done)) (.done)) (.alt 6 (.alt 4 (.alt 7 (.op 8 (.alt 9 (.done) (.done))) (.done)) (.alt 7 (.op 8 (.alt 4 (.alt 9 (.done) (.done)) (.done))) (.done))) (.done))) (.done))) (.alt 4 (.alt 2 (.alt 5 (.alt 6 (.alt 7 (.op 8 (.alt 9 (.done) (.done))) (.done)) (.done)) (.done)) (.alt 5 (.alt 2 (.alt 6 (.alt 7 (.op 8 (.alt 9 (.done) (.done))) (.done)) (.done)) (.alt 6 (.alt 2 (.alt 7 (.op 8 (.alt 9 (.done) (.done))) (.done)) (.done)) (.done))) (.done))) (.alt 5 (.alt 2 (.alt 4 (.alt 6 (.alt 7 (.op 8 (.alt 9 (.done) (.done))) (.done)) (.done)) (.alt 6 (.alt 4 (.alt 7 (.op 8 (.alt 9 (.done) (.done))) (.done)) (.alt 7 (.op 8 (.alt 4 (.alt 9 (.done) (.done)) (.done))) (.done))) (.done))) (.alt 4 (.alt 2 (.alt 6 (.alt 7 (.op 8 (.alt 9 (.done) (.done))) (.done)) (.done)) (.alt 6 (.alt 2 (.alt 7 (.op 8 (.alt 9 (.done) (.done))) (.done)) (.done)) (.done))) (.alt 6 (.alt 2 (.alt 4 (.alt 7 (.op 8 (.alt 9 (.done) (.done))) (.done)) (.alt 7 (.op 8 (.alt 4 (.alt 9 (.done) (.done)) (.done))) (.done))) (.alt 4 (.alt 2 (.alt 7 (.op 8 (.alt 9 (.done) (.done))) (.done)) (.done)) (.done))) (.done)))) (.done)))) (.alt 2 (.alt 1 (.alt 4 (.alt 5 (.alt 6 (.alt 7 (.op 8 (.alt 9 (.done) (.done))) (.done)) (.done)) (.done)) (.alt 5 (.alt 4 (.alt 6 (.alt 7 (.op 8 (.alt 9 (.done) (.done))) (.done)) (.done)) (.alt 6 (.alt 4 (.alt 7 (.op 8 (.alt 9 (.done) (.done))) (.done)) (.alt 7 (.op 8 (.alt 4 (.alt 9 (.done) (.done)) (.done))) (.done))) (.done))) (.done))) (.alt 4 (.alt 1 (.alt 5 (.alt 6 (.alt 7 (.op 8 (.alt 9 (.done) (.done))) (.done)) (.done)) (.done)) (.alt 5 (.alt 1 (.alt 6 (.alt 7 (.op 8 (.alt 9 (.done) (.done))) (.done)) (.done)) (.done)) (.done))) (.alt 5 (.alt 1 (.alt 4 (.alt 6 (.alt 7 (.op 8 (.alt 9 (.done) (.done))) (.done)) (.done)) (.alt 6 (.alt 4 (.alt 7 (.op 8 (.alt 9 (.done) (.done))) (.done)) (.alt 7 (.op 8 (.alt 4 (.alt 9 (.done) (.done)) (.done))) (.done))) (.done))) (.alt 4 (.alt 1 (.alt 6 (.alt 7 (.op 8 (.alt 9 (.done) (.done))) (.done)) (.done)) (.done)) (.done))) (.done)))) (.alt 4 (.alt 1 (.alt 2 (.alt 5 (.alt 6 (.alt 7 (.op 8 (.alt 9 (.done) (.done))) (.done)) (.done)) (.done)) (.alt 5 (.alt 2 (.alt 6 (.alt 7 (.op 8 (.alt 9 (.done) (.done))) (.done)) (.done)) (.alt 6 (.alt 2 (.alt 7 (.op 8 (.alt 9 (.done) (.done))) (.done)) (.done)) (.done))) (.done))) (.alt 2 (.alt 1 (.alt 5 (.alt 6 (.alt 7 (.op 8 (.alt 9 (.done) (.done))) (.done)) (.done)) (.done)) (.alt 5 (.alt 1 (.alt 6 (.alt 7 (.op 8 (.alt 9 (.done) (.done))) (.done)) (.done)) (.done)) (.done))) (.alt 5 (.alt 1 (.alt 2 (.alt 6 (.alt 7 (.op 8 (.alt 9 (.done) (.done))) (.done)) (.done)) (.alt 6 (.alt 2 (.alt 7 (.op 8 (.alt 9 (.done) (.done))) (.done)) (.done)) (.done))) (.alt 2 (.alt 1 (.alt 6 (.alt 7 (.op 8 (.alt 9 (.done) (.done))) (.done)) (.done)) (.done)) (.done))) (.done)))) (.alt 5 (.alt 1 (.alt 2 (.alt 4 (.alt 6 (.alt 7 (.op 8 (.alt 9 (.done) (.done))) (.done)) (.done)) (.alt 6 (.alt 4 (.alt 7 (.op 8 (.alt 9 (.done) (.done))) (.done)) (.alt 7 (.op 8 (.alt 4 (.alt 9 (.done) (.done)) (.done))) (.done))) (.done))) (.alt 4 (.alt 2 (.alt 6 (.alt 7 (.op 8 (.alt 9 (.done) (.done))) (.done)) (.done)) (.alt 6 (.alt 2 (.alt 7 (.op 8 (.alt 9 (.done) (.done))) (.done)) (.done)) (.done))) (.alt 6 (.alt 2 (.alt 4 (.alt 7 (.op 8 (.alt 9 (.done) (.done))) (.done)) (.alt 7 (.op 8 (.alt 4 (.alt 9 (.done) (.done)) (.done))) (.done))) (.alt 4 (.alt 2 (.alt 7 (.op 8 (.alt 9 (.done) (.done))) (.done)) (.done)) (.done))) (.done)))) (.alt 2 (.alt 1 (.alt 4 (.alt 6 (.alt 7 (.op 8 (.alt 9 (.done) (.done))) (.done)) (.done)) (.alt 6 (.alt 4 (.alt 7 (.op 8 (.alt 9 (.done) (.done))) (.done)) (.alt 7 (.op 8 (.alt 4 (.alt 9 (.done) (.done)) (.done))) (.done))) (.done))) (.alt 4 (.alt 1 (.alt 6 (.alt 7 (.op 8 (.alt 9 (.done) (.done))) (.done)) (.done)) (.done)) (.done))) (.alt 4 (.alt 1 (.alt 2 (.alt 6 (.alt 7 (.op 8 (.alt 9 (.done) (.done))) (.done)) (.done)) (.alt 6 (.alt 2 (.alt 7 (.op 8 (.alt 9 (.done) (.done))) (.done)) (.done)) (.done))) (.alt 2 (.alt 1 (.alt 6 (.alt 7 (.op 8 (.alt 9 (.done) (.done))) (.done)) (.done)) (.done)) (.done))) (.done)))) (.done)))))))]} (fn:=Tryz.f92) Tryz.func92 (by kernel_rfl) (by kernel_rfl) ?_
 rintro ⟨a0,⟨⟩⟩ K ⟨r,h,hK⟩
 change ZK5 a0=some r at h
 unfold ZK5 at h
 conv=>whnf
 refine Ze h (fun l12DrawCase0 hb0 h=>?_)
 conv=>whnf
 refine Ze h (fun IsBlock0 hb1 h=>?_)
 conv=>whnf
 refine Qn h (fun h=>?_) (fun h=>?_)
 conv=>whnf
 refine Ze h (fun l01Next0 hb2 h=>?_)
 conv=>whnf
 refine ZG h (fun h=>?_) (fun h=>?_)
 focus
  conv=>whnf
  refine ⟨by kernel_rfl,?_⟩
  conv=>whnf
  refine ⟨by kernel_rfl,?_⟩
  conv=>whnf
  obtain ⟨l08DrawEdits0,hb3,h⟩:=Option.bind_eq_some_iff.1 h
  obtain ⟨ApplyEdits0,hb5,h⟩:=Option.bind_eq_some_iff.1 h
  refine ⟨?_,?_⟩
  rotate_left
  focus
   conv=>whnf
   refine ⟨by kernel_rfl,?_⟩
   conv=>whnf
   refine ⟨_,hb3,?_⟩
   conv=>whnf
   intro fp16
   conv=>whnf
   refine ⟨_,hb5,?_⟩
   conv=>whnf
   intro fp17
   conv=>whnf
   intro fp18
   conv=>whnf
   intro fp19
   conv=>whnf
   refine ⟨trivial,?_⟩
  rotate_right
  focus
   conv=>whnf
   refine ⟨by kernel_rfl,?_⟩
   conv=>whnf
   refine ⟨_,hb3,?_⟩
   conv=>whnf
   intro fp16
   conv=>whnf
   refine ⟨?_,?_⟩
   rotate_left
   focus
    conv=>whnf
    refine ⟨_,hb5,?_⟩
    conv=>whnf
    intro fp17
    conv=>whnf
    intro fp18
    conv=>whnf
    intro fp19
    conv=>whnf
    refine ⟨trivial,?_⟩
   rotate_right
   focus
    conv=>whnf
    refine ⟨_,hb5,?_⟩
    conv=>whnf
    intro fp17
    conv=>whnf
    intro fp18
    conv=>whnf
    intro fp19
    conv=>whnf
    refine ⟨trivial,?_⟩
  all_goals
   conv=>whnf
   refine Ze h (fun l12DrawSources0 hb9 h=>?_)
   conv=>whnf
   refine Ze h (fun l08Draw0 hb10 h=>?_)
   conv=>whnf
   refine Ze h (fun PropagateTiming0 hb11 h=>?_)
   conv=>whnf
   refine Ze h (fun l01Next1 hb12 h=>?_)
   conv=>whnf
   refine ZG h (fun h=>?_) (fun h=>?_)
   focus
    conv=>whnf
    refine ⟨fun hd=>absurd hd (by decide),fun _=>?_⟩
    rw [if_neg (by decide)] at h
    conv=>whnf
    refine ⟨by kernel_rfl,?_⟩
    conv=>whnf
    repeat' (first | with_reducible refine ZoK ?_ | ((conv=>whnf);first | with_reducible refine ZoK ?_ | refine ⟨?_,?_⟩ | fail) | fail)
    all_goals
     conv=>whnf
     cases h
     exact hK
   focus
    conv=>whnf
    refine ⟨by kernel_rfl,?_⟩
    conv=>whnf
    repeat' (first | with_reducible refine ZoK ?_ | ((conv=>whnf);first | with_reducible refine ZoK ?_ | refine ⟨?_,?_⟩ | fail) | fail)
    all_goals
     conv=>whnf
     cases h
     exact hK
 conv=>whnf
 refine Ze h (fun l08Draw0 hb20 h=>?_)
 conv=>whnf
 refine Ze h (fun PropagateTiming0 hb21 h=>?_)
 conv=>whnf
 refine Ze h (fun l01Next1 hb22 h=>?_)
 conv=>whnf
 refine ZG h (fun h=>?_) (fun h=>?_)
 conv=>whnf
 refine ZG h (fun h=>?_) (fun h=>?_)
 focus
  conv=>whnf
  refine Ze h (fun PropagateTiming1 hb23 h=>?_)
  conv=>whnf
  refine ⟨by kernel_rfl,?_⟩
  conv=>whnf
  repeat' (first | with_reducible refine ZoK ?_ | ((conv=>whnf);first | with_reducible refine ZoK ?_ | refine ⟨?_,?_⟩ | fail) | fail)
  all_goals
   conv=>whnf
   cases h
   exact hK
 focus
  conv=>whnf
  refine ⟨by kernel_rfl,?_⟩
  conv=>whnf
  repeat' (first | with_reducible refine ZoK ?_ | ((conv=>whnf);first | with_reducible refine ZoK ?_ | refine ⟨?_,?_⟩ | fail) | fail)
  all_goals
   conv=>whnf
   cases h
   exact hK
 focus
  conv=>whnf
  refine ⟨by kernel_rfl,?_⟩
  conv=>whnf
  repeat' (first | with_reducible refine ZoK ?_ | ((conv=>whnf);first | with_reducible refine ZoK ?_ | refine ⟨?_,?_⟩ | fail) | fail)
  all_goals
   conv=>whnf
   cases h
   exact hK
 conv=>whnf
 refine Ze h (fun l08Draw0 hb24 h=>?_)
 conv=>whnf
 refine Ze h (fun PropagateTiming0 hb25 h=>?_)
 conv=>whnf
 refine Ze h (fun l01Next0 hb26 h=>?_)
 conv=>whnf
 refine ZG h (fun h=>?_) (fun h=>?_)
 conv=>whnf
 refine ZG h (fun h=>?_) (fun h=>?_)
 focus
  conv=>whnf
  refine Ze h (fun PropagateTiming1 hb27 h=>?_)
  conv=>whnf
  refine ⟨by kernel_rfl,?_⟩
  conv=>whnf
  repeat' (first | with_reducible refine ZoK ?_ | ((conv=>whnf);first | with_reducible refine ZoK ?_ | refine ⟨?_,?_⟩ | fail) | fail)
  all_goals
   conv=>whnf
   cases h
   exact hK
 focus
  conv=>whnf
  refine ⟨by kernel_rfl,?_⟩
  conv=>whnf
  repeat' (first | with_reducible refine ZoK ?_ | ((conv=>whnf);first | with_reducible refine ZoK ?_ | refine ⟨?_,?_⟩ | fail) | fail)
  all_goals
   conv=>whnf
   cases h
   exact hK
 focus
  conv=>whnf
  refine ⟨by kernel_rfl,?_⟩
  conv=>whnf
  repeat' (first | with_reducible refine ZoK ?_ | ((conv=>whnf);first | with_reducible refine ZoK ?_ | refine ⟨?_,?_⟩ | fail) | fail)
  all_goals
   conv=>whnf
   cases h
   exact hK
end Go.Proofs.YtnnbgbgapogckaaGreatDoor
