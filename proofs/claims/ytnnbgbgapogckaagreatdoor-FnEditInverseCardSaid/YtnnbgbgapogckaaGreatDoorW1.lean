/-
  The functions keep their contracts, if what they call does. Printed by program.
-/
import Derived.Test.YtnnbgbgapogckaaGreatDoorM
import Derived.KernelRfl
namespace Go.Proofs.YtnnbgbgapogckaaGreatDoor
open Go Go.Sx
set_option maxRecDepth 100000
set_option maxHeartbeats 6400000
set_option linter.unusedVariables false
set_option linter.unusedSimpArgs false
structure Ws1:Prop where
 w98:Sq 275 c94→Sq 276 c97→Sq 251 c98
 w89:Sq 310 c89
 w110:Sq 112 c109→Sq 217 ZAZ
 w109:Sq 191 ZAv→Sq 159 c68→Sq 112 c109
 w160:Sq 204 c160
 w139:Sq 31 ZAL→Sq 81 c138→Sq 30 c139
 w127:Sq 159 c68→Sq 208 ZA5→Sq 207 ZA7→Sq 83 Zy7→Sq 179 ZA8→Sq 209 c107→Sq 112 c109→Sq 158 c76→Sq 151 c127
 w122:Sq 208 ZA5
 w132:Sq 248 ZBb
 w117:Sq 153 c105→Sq 154 ZAY→Sq 155 ZA2→Sq 112 c109→Sq 156 c116→Sq 82 c117
 w120:Sq 158 c76→Sq 159 c68→Sq 160 c119→Sq 109 c80→Sq 84 ZAK
 w74:Sq 159 c68→Sq 274 c70→Sq 188 c73→Sq 250 c74
 w85:Sq 307 c83→Sq 308 c84→Sq 306 c85
 w80:Sq 189 c79→Sq 109 c80
 w167:Sq 26 ZAN→Sq 86 c167
 w141:Sq 134 c141
 w133:Sq 248 ZBb→Sq 247 ZBc
 w90:Sq 310 c89→Sq 309 c90
 w86:Sq 306 c85→Sq 323 c86
 w49:Sq 77 c35→Sq 78 c39→Sq 79 c40→Sq 80 c48→Sq 29 c49
 w25:Sq 318 c24→Sq 300 c25
 w4:Sq 44 c2→Sq 319 c4
 w16:Sq 161 c16
 w50:Sq 161 c16→Sq 280 c50
 w6:Sq 301 c5→Sq 286 c6
 w3:Sq 263 c3
 w26:Sq 300 c25→Sq 285 c26
 w36:Sq 96 c13→Sq 137 c36
 w17:Sq 44 c2→Sq 219 c15→Sq 161 c16→Sq 164 c17
 w56:Sq 166 c53→Sq 167 c54→Sq 168 c55→Sq 91 c56
 w48:Sq 96 c13→Sq 145 c41→Sq 146 c42→Sq 147 c20→Sq 148 c43→Sq 149 c45→Sq 150 c47→Sq 139 c14→Sq 144 c34→Sq 80 c48
set_option maxHeartbeats 100000000 in
theorem ws1:Ws1:=by
 refine ⟨(fun q1 q0=>Zm ZL (Zg q1 (Zg q0 Zu)) mixed {loops:=[(0,[.reg 8 (.dat Iq)])]} Tryz.func251 (hvc:=?_)),
 (Zm ZL Zu mixed {} Tryz.func310 (hvc:=?_)),
 (fun q0=>Zm ZL (Zg q0 Zu) mixed {} Tryz.func217 (hvc:=?_)),
 (fun q0 q1=>Zm ZL (Zg q0 (Zg q1 Zu)) mixed {} Tryz.func112 (hvc:=?_)),
 (Zm ZL Zu mixed {} Tryz.func204 (hvc:=?_)),
 (fun q1 q0=>Zm ZL (Zg q1 (Zg q0 Zu)) mixed {} Tryz.func30 (hvc:=?_)),
 (fun q7 q5 q6 q2 q0 q1 q3 q4=>Zm ZL (Zg q7 (Zg q5 (Zg q6 (Zg q2 (Zg q0 (Zg q1 (Zg q3 (Zg q4 Zu)))))))) mixed {draws:=[(1,[0,1,3,7,15,31,31,95,255,511,1023],.op 0 (.op 1 (.alt 2 (.op 3 (.op 4 (.op 5 (.op 6 (.alt 7 (.alt 8 (.op 9 (.op 10 (.done))) (.done)) (.done)))))) (.done)))),(3,[0,1,0,4,12,28,60,127,255],.op 0 (.op 1 (.op 2 (.op 3 (.alt 4 (.alt 5 (.op 6 (.alt 7 (.op 8 (.done)) (.done))) (.done)) (.done)))))),(7,[0,1,3,7,3,19,51,115,243,511,1023,2047],.op 0 (.op 1 (.op 2 (.op 3 (.op 4 (.op 5 (.op 6 (.alt 7 (.op 8 (.alt 9 (.op 10 (.op 11 (.done))) (.done))) (.done))))))))),(9,[0,1,3,7,3,19,63,127,255,511,1023,511,2559,511,8703,31231,63999,129535,260607,522751,1048575,2097151,4194303],.op 0 (.op 1 (.op 2 (.op 3 (.op 4 (.op 5 (.alt 6 (.op 7 (.op 8 (.op 9 (.op 10 (.op 11 (.op 12 (.op 13 (.op 14 (.op 15 (.op 16 (.op 17 (.alt 18 (.op 19 (.alt 20 (.op 21 (.op 22 (.done))) (.done))) (.done))))))))))))) (.done))))))))]} Tryz.func151 (hvc:=?_)),
 (Zm ZL Zu mixed {} Tryz.func208 (hvc:=?_)),
 (Zm ZL Zu mixed {} Tryz.func248 (hvc:=?_)),
 (fun q4 q2 q1 q3 q0=>Zm ZL (Zg q4 (Zg q2 (Zg q1 (Zg q3 (Zg q0 Zu))))) mixed {loops:=[(0,[.reg 25 (.dat Iq),.ent 2 (nat_lit 3) (.flat ZyJ.ety)]),(2,[.reg 51 (.dat Iq),.ent 2 (nat_lit 3) (.flat ZyJ.ety)])]} Tryz.func82 (hvc:=?_)),
 (fun q0 q3 q1 q2=>Zm ZL (Zg q0 (Zg q3 (Zg q1 (Zg q2 Zu)))) mixed {} Tryz.func84 (hvc:=?_)),
 (fun q2 q0 q1=>Zm ZL (Zg q2 (Zg q0 (Zg q1 Zu))) mixed {loops:=[(0,[.reg 3 (.own (.ol 9 (.flat (.str)))),.reg 8 (.dat Iq)])]} Tryz.func250 (hvc:=?_)),
 (fun q1 q0=>Zm ZL (Zg q1 (Zg q0 Zu)) mixed {} Tryz.func306 (hvc:=?_)),
 (fun q0=>Zm ZL (Zg q0 Zu) mixed {} Tryz.func109 (hvc:=?_)),
 (fun q0=>Zm ZL (Zg q0 Zu) mixed {} Tryz.func86 (hvc:=?_)),
 (Zm ZL Zu mixed {} Tryz.func134 (hvc:=?_)),
 (fun q0=>Zm ZL (Zg q0 Zu) mixed {loops:=[(0,[.reg 8 (.dat Iq)])]} Tryz.func247 (hvc:=?_)),
 (fun q0=>Zm ZL (Zg q0 Zu) mixed {loops:=[(0,[.reg 8 (.dat Iq)])]} Tryz.func309 (hvc:=?_)),
 (fun q0=>Zm ZL (Zg q0 Zu) mixed {loops:=[(0,[.reg 8 (.dat Iq)])]} Tryz.func323 (hvc:=?_)),
 (fun q3 q0 q1 q2=>Zm ZL (Zg q3 (Zg q0 (Zg q1 (Zg q2 Zu)))) mixed {} Tryz.func29 (hvc:=?_)),
 (fun q0=>Zm ZL (Zg q0 Zu) mixed {loops:=[(0,[.reg 5 (.dat Iq),.cell 1004 0 Iq,.cell 1004 1 Iq])],draws:=[(3,[0,1,3,7,0,16,48,112,255,0,1023],.op 0 (.op 1 (.op 2 (.op 3 (.op 4 (.op 5 (.op 6 (.op 7 (.op 8 (.alt 9 (.alt 10 (.done) (.done)) (.done))))))))))),(7,[0,1,0,4,0,28,60,127,255,511],.op 0 (.op 1 (.op 2 (.op 3 (.op 4 (.op 5 (.op 6 (.op 7 (.op 8 (.alt 9 (.done) (.done))))))))))),(8,[0,1,0,4,0,28,60,127,255,511],.op 0 (.op 1 (.op 2 (.op 3 (.op 4 (.op 5 (.op 6 (.op 7 (.op 8 (.alt 9 (.done) (.done)))))))))))]} Tryz.func300 (hvc:=?_)),
 (fun q0=>Zm ZL (Zg q0 Zu) mixed {loops:=[(0,[.reg 5 (.own (.ol 2 (.flat Iq))),.reg 6 (.dat Iq),.reg 7 (.dat Iq),.cell 0 0 (.sl (.int .u8)),.cell 0 1 Iq,.cell 0 2 Iq])]} Tryz.func319 (hvc:=?_)),
 (Zm ZL Zu mixed {} Tryz.func161 (hvc:=?_)),
 (fun q0=>Zm ZL (Zg q0 Zu) mixed {draws:=[(1,[0,1,3,0,8,31,0,64,255,511,1023],.op 0 (.op 1 (.op 3 (.op 4 (.op 6 (.op 7 (.alt 2 (.alt 5 (.alt 8 (.op 9 (.alt 10 (.done) (.done))) (.done)) (.done)) (.done))))))))]} Tryz.func280 (hvc:=?_)),
 (fun q0=>Zm VX (Zg q0 Zu) mixed {draws:=[(2,[0,0,0,6,15,31],.op 1 (.op 2 (.alt 0 (.alt 3 (.alt 4 (.op 5 (.done)) (.done)) (.done)) (.alt 3 (.alt 0 (.alt 4 (.op 5 (.done)) (.done)) (.done)) (.done)))))]} Tryz.func286 (hvc:=?_)),
 (Zm ZL Zu mixed {loops:=[(0,[.reg 5 (.dat (.bool)),.reg 6 (.dat (.bool)),.reg 8 (.dat Iq)])],draws:=[(7,[0,1,3,7,3,31,63,3,131,3,3,1539,3971,8067,16383,32767,65535],.op 0 (.op 1 (.op 2 (.op 3 (.op 4 (.op 5 (.op 6 (.op 7 (.op 8 (.op 9 (.op 10 (.op 11 (.op 12 (.op 13 (.op 14 (.op 15 (.op 16 (.done)))))))))))))))))),(8,[0,1,3,7,3,31,63,3,131,3,3,1539,3971,8067,16383,32767,65535],.op 0 (.op 1 (.op 2 (.op 3 (.op 4 (.op 5 (.op 6 (.op 7 (.op 8 (.op 9 (.op 10 (.op 11 (.op 12 (.op 13 (.op 14 (.op 15 (.op 16 (.done))))))))))))))))))]} Tryz.func263 (hvc:=?_)),
 (fun q0=>Zm ZL (Zg q0 Zu) mixed {loops:=[(0,[.reg 5 (.dat Iq)])]} Tryz.func285 (hvc:=?_)),
 (fun q0=>Zm ZL (Zg q0 Zu) mixed {loops:=[(0,[.reg 8 (.dat Iq)])]} Tryz.func137 (hvc:=?_)),
 (fun q1 q0 q2=>Zm ZL (Zg q1 (Zg q0 (Zg q2 Zu))) mixed {loops:=[(0,[.reg 6 (.dat Iq),.cell 1000 0 (.sl (.int .u8)),.cell 1000 1 Iq,.cell 1000 2 Iq,.cello 1005 0 (.ol (nat_lit 2) (.flat (Ty.int IntKind.i64))),.cello 1005 1 (.ol (nat_lit 2) (.flat (Ty.int IntKind.i64))),.cello 1005 2 (.ol (nat_lit 2) (.flat (Ty.int IntKind.i64))),.cello 1005 3 (.ol (nat_lit 2) (.flat (Ty.int IntKind.i64)))]),(2,[.reg 8 (.dat Iq),.cell 1000 0 (.sl (.int .u8)),.cell 1000 1 Iq,.cell 1000 2 Iq,.ent 10 (nat_lit 2) (.flat (Ty.int IntKind.i64))])],draws:=[(6,[0,1,3,0,0,31,63,127,0,256,1023,0,4095,8191,16383,0,32768,131071,0,524287,1048575,2097151,0,4194304,16777215,33554431],.op 0 (.op 1 (.op 3 (.op 4 (.op 8 (.op 11 (.op 15 (.op 18 (.op 22 (.ld 9 (.ld 16 (.ld 23 (.alt 2 (.alt 5 (.alt 6 (.alt 7 (.alt 10 (.alt 12 (.alt 13 (.alt 14 (.alt 17 (.alt 19 (.alt 20 (.alt 21 (.op 24 (.alt 25 (.done) (.done))) (.done)) (.done)) (.done)) (.done)) (.done)) (.done)) (.done)) (.done)) (.done)) (.done)) (.done)) (.done)))))))))))))),(10,[0,1,0,0,0,16,48,120,255,511],.op 0 (.op 2 (.op 3 (.op 4 (.op 5 (.op 6 (.ld 1 (.alt 7 (.op 8 (.alt 9 (.done) (.done))) (.done)))))))))]} Tryz.func164 (hvc:=?_)),
 (fun q0 q2 q1=>Zm VX (Zg q0 (Zg q2 (Zg q1 Zu))) mixed {loops:=[(0,[.reg 4 (.dat Iq),.cello 1003 4 (.ol 58 (ZgI))])],draws:=[(1,[0,1,3,0,8,31,63,0,255],.op 0 (.op 1 (.op 3 (.op 4 (.alt 2 (.alt 5 (.op 6 (.alt 7 (.alt 8 (.done) (.done)) (.done))) (.alt 7 (.alt 5 (.op 6 (.alt 8 (.done) (.done))) (.done)) (.done))) (.alt 7 (.alt 2 (.alt 5 (.op 6 (.alt 8 (.done) (.done))) (.done)) (.done)) (.done))))))),(5,[0,1,0,4,0,28,60,124,252,511,1023,2047],.op 0 (.op 1 (.op 2 (.op 3 (.op 4 (.op 5 (.op 6 (.alt 7 (.alt 8 (.alt 9 (.op 10 (.alt 11 (.done) (.done))) (.done)) (.done)) (.done)))))))))]} Tryz.func91 (hvc:=?_)),
 (fun q1 q3 q2 q6 q0 q4 q7 q5 q8=>Zm ZL (Zg q1 (Zg q3 (Zg q2 (Zg q6 (Zg q0 (Zg q4 (Zg q7 (Zg q5 (Zg q8 Zu))))))))) mixed {draws:=[(5,[0,1,3,7,15,31,63,127,255,511,1023,255,2303,6399,255,16639,63743,129279,260351,524287,1048575,255,2097407,6291711,255,16777471,65011967,132120831,268435455,536870911,1073741823],.op 0 (.op 1 (.op 2 (.op 3 (.op 4 (.op 5 (.op 6 (.op 7 (.op 8 (.op 9 (.op 10 (.op 11 (.op 12 (.op 13 (.op 14 (.op 15 (.op 16 (.op 17 (.op 18 (.op 19 (.op 20 (.op 21 (.op 22 (.op 23 (.op 24 (.op 25 (.op 26 (.op 27 (.alt 28 (.op 29 (.op 30 (.done))) (.done)))))))))))))))))))))))))))))),(11,[0,0,2,7,15,31,63,127,255,255,767,2047,4095,8191,255,16639,65535,131071,262143],.op 0 (.op 1 (.op 2 (.op 3 (.op 4 (.op 5 (.op 6 (.op 7 (.op 8 (.op 9 (.op 10 (.op 11 (.op 12 (.op 13 (.op 14 (.op 15 (.op 16 (.op 17 (.op 18 (.done)))))))))))))))))))),(12,[0,1,0,4,0,16,60,124,255,511],.op 0 (.op 1 (.op 2 (.op 3 (.op 4 (.op 5 (.alt 6 (.op 7 (.alt 8 (.op 9 (.done)) (.done))) (.done))))))))]} Tryz.func80 (hvc:=?_))⟩
 all_goals
  intro a
  repeat rcases a with ⟨_,a⟩
  rintro K ⟨r,h,hK⟩
  repeat'
    conv=>whnf
    first
    | with_reducible refine ZoK ?_
    | with_reducible refine ZnK (by assumption) (by assumption) (by assumption) ?_
    | with_reducible refine Zh (by assumption) ?_
    | with_reducible refine ZnS (by assumption) ?_
    | (with_reducible refine shD ?_);first | refine ZG h (fun h=>?_) (fun h=>?_) | refine ZcV h (fun h=>?_) (fun h=>?_)
    | (with_reducible refine ZoO ?_);first | refine Zj4 ?_ | refine Yc ?_
    | (with_reducible refine Zo6 ?_);first | refine Qn h (fun h=>?_) (fun h=>?_) | refine Zmk h (fun h=>?_) (fun h=>?_)
    | (with_reducible refine ZoN ?_);(refine ⟨fun hd=>?_,?_⟩)<;>try subst hd
    | (with_reducible refine Zo8 ?_);first | with_reducible refine Ze h (fun x hb h=>?_) | refine ZnS (by assumption) ?_ | with_reducible refine pG h (fun hp h=>?_) | with_reducible refine pA h (fun x ha hb hx h=>?_) | with_reducible refine pB h (fun x hb h=>?_) | refine Ze h (fun x hb h=>?_)
    | (with_reducible refine Zo5 ?_);first | with_reducible refine vAt h (fun x ha hb hx h=>?_) | refine ZnK (by assumption) (by assumption) (by assumption) ?_ | with_reducible refine pG h (fun hp h=>?_) | with_reducible refine pA h (fun x ha hb hx h=>?_) | with_reducible refine pB h (fun x hb h=>?_) | refine vAt h (fun x ha hb hx h=>?_)
    | (with_reducible refine ZoM ?_);first | with_reducible refine ZoU h (fun x hb h=>?_) | refine Zh (by assumption) ?_ | with_reducible refine pG h (fun hp h=>?_) | with_reducible refine pA h (fun x ha hb hx h=>?_) | with_reducible refine pB h (fun x hb h=>?_) | refine ZoU h (fun x hb h=>?_)
    | with_reducible refine Zo7 ?_
    | (with_reducible refine Zot ?_);refine ZoC h hK ?_;clear h hK;intro I μ v r h hK;(repeat rcases v with ⟨_,v⟩);(try dsimp only at h)
    | with_reducible refine ⟨by assumption,?_⟩
    | with_reducible refine orL ?_
    | with_reducible refine .inr ?_
    | (with_reducible refine ZoP ?_);first | refine ⟨?_,True.intro⟩ | refine ⟨?_,?_⟩
    | refine ⟨by kernel_rfl,?_⟩
    | refine ⟨by decide,?_⟩
    | with_reducible refine Yk h (fun hp h=>?_)
    | intro fp
    | exact trivial
    | with_reducible exact ZoJ h
    | (refine pS h (fun e=>?_));subst e;(repeat (first | exact hK | exact ⟨⟨rfl,rfl⟩,hK.1 _ rfl⟩ | (refine pR hK (fun e hK=>?_));subst e));done
    | refine Yk h (fun hp h=>?_)
    | refine ⟨by assumption,?_⟩
    | with_reducible refine pG h (fun hp h=>?_) | with_reducible refine pA h (fun x ha hb hx h=>?_) | with_reducible refine pB h (fun x hb h=>?_)
    | refine pG h (fun hp h=>?_)
    | fail
theorem Zcs (rec0:Int→Option (List UInt8)) (hrec:Sq 163 (QJ rec0)):Sq 163 (QJ (ZN rec0)):=by
 refine Zm ZL (Zg hrec Zu) mixed {draws:=[(5,[0,1,3,0,8,24,56,120,248,511,1023],.op 0 (.op 1 (.op 3 (.op 4 (.op 5 (.alt 2 (.alt 6 (.alt 7 (.alt 8 (.op 9 (.op 10 (.done))) (.done)) (.done)) (.done)) (.alt 6 (.alt 2 (.alt 7 (.alt 8 (.op 9 (.op 10 (.done))) (.done)) (.done)) (.alt 7 (.alt 2 (.alt 8 (.op 9 (.op 10 (.done))) (.done)) (.alt 8 (.alt 2 (.op 9 (.op 10 (.done))) (.done)) (.done))) (.done))) (.done))))))))]} (fn:=Tryz.f163) Tryz.func163 (by kernel_rfl) (by kernel_rfl) ?_
 rintro ⟨n0,⟨⟩⟩ K ⟨r,h,hK⟩
 change ZN rec0 n0=some r at h
 unfold ZN at h
 conv=>whnf
 refine ZG h (fun h=>?_) (fun h=>?_)
 conv=>whnf
 refine Ze h (fun r0 hb0 h=>?_)
 conv=>whnf
 refine Yk h (fun hp1 h=>?_)
 conv=>whnf
 cases h
 exact hK
 conv=>whnf
 refine ZG h (fun h=>?_) (fun h=>?_)
 conv=>whnf
 cases h
 exact hK
 focus
  conv=>whnf
  refine ⟨by kernel_rfl,?_⟩
  conv=>whnf
  refine ⟨by decide,?_⟩
  conv=>whnf
  refine ⟨by decide,?_⟩
  conv=>whnf
  obtain ⟨r0,hb2,h⟩:=Option.bind_eq_some_iff.1 h
  obtain ⟨hp3,h⟩:=guardE h
  refine ⟨?_,?_⟩
  rotate_left
  focus
   conv=>whnf
   refine ⟨?_,?_⟩
   rotate_left
   focus
    conv=>whnf
    refine ⟨?_,?_⟩
    rotate_left
    focus
     conv=>whnf
     refine ⟨_,hb2,?_⟩
     conv=>whnf
     refine ⟨hp3,?_⟩
     conv=>whnf
     refine ⟨trivial,?_⟩
    rotate_right
    focus
     conv=>whnf
     refine ⟨_,hb2,?_⟩
     conv=>whnf
     refine ⟨hp3,?_⟩
     conv=>whnf
     refine ⟨trivial,?_⟩
   rotate_right
   focus
    conv=>whnf
    refine ⟨_,hb2,?_⟩
    conv=>whnf
    refine ⟨hp3,?_⟩
    conv=>whnf
    refine ⟨trivial,?_⟩
  rotate_right
  focus
   conv=>whnf
   refine ⟨_,hb2,?_⟩
   conv=>whnf
   refine ⟨hp3,?_⟩
   conv=>whnf
   refine ⟨trivial,?_⟩
  all_goals
   conv=>whnf
   cases h
   exact hK
theorem w11:Sq 163 c11:=by
 have hn:∀ n,Sq 163 (QJ (Yp n)):=by
  intro n
  induction n with
  | zero =>
  refine Zm ZL Zu mixed {draws:=[(5,[0,1,3,0,8,24,56,120,248,511,1023],.op 0 (.op 1 (.op 3 (.op 4 (.op 5 (.alt 2 (.alt 6 (.alt 7 (.alt 8 (.op 9 (.op 10 (.done))) (.done)) (.done)) (.done)) (.alt 6 (.alt 2 (.alt 7 (.alt 8 (.op 9 (.op 10 (.done))) (.done)) (.done)) (.alt 7 (.alt 2 (.alt 8 (.op 9 (.op 10 (.done))) (.done)) (.alt 8 (.alt 2 (.op 9 (.op 10 (.done))) (.done)) (.done))) (.done))) (.done))))))))]} (fn:=Tryz.f163) Tryz.func163 (by kernel_rfl) (by kernel_rfl) ?_
  rintro ⟨n0,⟨⟩⟩ K ⟨r,h,hK⟩
  cases h
  | succ n ih=>exact Zcs _ ih
 refine ⟨(hn 0).1,?_⟩
 rintro w S vs ⟨n0,⟨⟩⟩ fp K h1 h2 h3 h4 ⟨r,h,hK⟩
 obtain ⟨n,hr⟩:=ZdB h
 exact (hn n).2 w S vs _ fp K h1 h2 h3 h4 ⟨r,hr,hK⟩
theorem w60 (q1:Sq 96 c13) (q4:Sq 173 c57) (q5:Sq 161 c16) (q0:Sq 174 c58) (q2:Sq 219 c15) (q3:Sq 175 c59):Sq 171 c60:=by
 refine Zm VX (Zg q1 (Zg q4 (Zg q5 (Zg q0 (Zg q2 (Zg q3 Zu)))))) mixed {draws:=[(1,[0,1,3,0,8,31,63,0,255],.op 0 (.op 1 (.op 3 (.op 4 (.alt 2 (.op 5 (.op 6 (.alt 7 (.alt 8 (.done) (.done)) (.done)))) (.alt 7 (.alt 2 (.op 5 (.op 6 (.alt 8 (.done) (.done)))) (.done)) (.done))))))),(5,[0,0,3,7,0,0,32,112,240,496,1023,2047],.op 0 (.op 1 (.op 4 (.op 5 (.op 6 (.op 7 (.op 8 (.alt 2 (.alt 3 (.alt 9 (.alt 10 (.op 11 (.done)) (.done)) (.done)) (.alt 9 (.alt 3 (.alt 10 (.op 11 (.done)) (.done)) (.done)) (.done))) (.alt 9 (.alt 2 (.alt 3 (.alt 10 (.op 11 (.done)) (.done)) (.done)) (.done)) (.done)))))))))),(14,[0,1,3,0,8,31,0,64,192,0,512,1536,4095,0,8192,24576,65535,0,262143],.op 0 (.op 1 (.op 2 (.op 3 (.op 6 (.op 7 (.op 9 (.op 13 (.op 14 (.ld 8 (.ld 10 (.ld 15 (.alt 4 (.alt 5 (.alt 11 (.alt 12 (.op 16 (.alt 17 (.alt 18 (.done) (.done)) (.done))) (.alt 17 (.alt 12 (.op 16 (.alt 18 (.done) (.done))) (.done)) (.done))) (.alt 17 (.alt 11 (.alt 12 (.op 16 (.alt 18 (.done) (.done))) (.done)) (.done)) (.done))) (.alt 11 (.alt 5 (.alt 12 (.op 16 (.alt 17 (.alt 18 (.done) (.done)) (.done))) (.alt 17 (.alt 12 (.op 16 (.alt 18 (.done) (.done))) (.done)) (.done))) (.alt 17 (.alt 5 (.alt 12 (.op 16 (.alt 18 (.done) (.done))) (.done)) (.done)) (.done))) (.alt 17 (.alt 5 (.alt 11 (.alt 12 (.op 16 (.alt 18 (.done) (.done))) (.done)) (.done)) (.alt 11 (.alt 5 (.alt 12 (.op 16 (.alt 18 (.done) (.done))) (.done)) (.done)) (.done))) (.done)))) (.alt 11 (.alt 4 (.alt 5 (.alt 12 (.op 16 (.alt 17 (.alt 18 (.done) (.done)) (.done))) (.alt 17 (.alt 12 (.op 16 (.alt 18 (.done) (.done))) (.done)) (.done))) (.alt 17 (.alt 5 (.alt 12 (.op 16 (.alt 18 (.done) (.done))) (.done)) (.done)) (.done))) (.alt 17 (.alt 4 (.alt 5 (.alt 12 (.op 16 (.alt 18 (.done) (.done))) (.done)) (.done)) (.done)) (.done))) (.alt 17 (.alt 4 (.alt 5 (.alt 11 (.alt 12 (.op 16 (.alt 18 (.done) (.done))) (.done)) (.done)) (.alt 11 (.alt 5 (.alt 12 (.op 16 (.alt 18 (.done) (.done))) (.done)) (.done)) (.done))) (.alt 11 (.alt 4 (.alt 5 (.alt 12 (.op 16 (.alt 18 (.done) (.done))) (.done)) (.done)) (.done)) (.done))) (.done)))))))))))))))),(15,[0,1,0,0,8,0,32,120,255,0,1023,2047],.op 0 (.op 3 (.op 4 (.op 9 (.ld 1 (.ld 2 (.alt 5 (.alt 6 (.alt 7 (.op 8 (.alt 10 (.alt 11 (.done) (.done)) (.done))) (.done)) (.done)) (.done))))))))]} (fn:=Tryz.f171) Tryz.func171 (by kernel_rfl) (by kernel_rfl) ?_
 rintro ⟨a0,a1,⟨⟩⟩ K ⟨r,h,hK⟩
 change ZrT a0 a1=some r at h
 unfold ZrT at h
 focus
  conv=>whnf
  intro fp0
  conv=>whnf
  intro fp1
  conv=>whnf
  intro fp2
  conv=>whnf
  refine ⟨by kernel_rfl,?_⟩
  conv=>whnf
  obtain ⟨l05Places0,hb3,h⟩:=Option.bind_eq_some_iff.1 h
  obtain ⟨x0,he4a,he4b,he4x,h⟩:=atE h
  refine ⟨?_,?_⟩
  rotate_left
  focus
   conv=>whnf
   refine ⟨_,hb3,?_⟩
   conv=>whnf
   refine ⟨he4a,he4b,Zh he4x ?_⟩
   conv=>whnf
   refine ⟨by kernel_rfl,?_⟩
   conv=>whnf
   refine ⟨he4a,he4b,Zh he4x ?_⟩
   conv=>whnf
   refine ⟨trivial,?_⟩
  rotate_right
  focus
   conv=>whnf
   refine ⟨_,hb3,?_⟩
   conv=>whnf
   refine ⟨he4a,he4b,Zh he4x ?_⟩
   conv=>whnf
   refine ⟨by kernel_rfl,?_⟩
   conv=>whnf
   refine ⟨he4a,he4b,Zh he4x ?_⟩
   conv=>whnf
   refine ⟨trivial,?_⟩
  all_goals
   focus
    conv=>whnf
    refine Ze h (fun l08Nodes0 hb5 h=>?_)
    conv=>whnf
    refine ⟨by kernel_rfl,?_⟩
    conv=>whnf
    refine vAt h (fun x1 he6a he6b he6x h=>?_)
    conv=>whnf
    refine ⟨by kernel_rfl,?_⟩
    conv=>whnf
    refine ⟨he6a,he6b,Zh he6x ?_⟩
    conv=>whnf
    obtain ⟨hp7,h⟩:=guardE h
    obtain ⟨hp8,h⟩:=guardE h
    obtain ⟨l02Ints0,hb9,h⟩:=Option.bind_eq_some_iff.1 h
    obtain ⟨hp10,h⟩:=guardE h
    refine ⟨?_,?_⟩
    rotate_left
    focus
     conv=>whnf
     refine ⟨by decide,?_⟩
     conv=>whnf
     refine ⟨hp7,?_⟩
     conv=>whnf
     refine ⟨hp8,?_⟩
     conv=>whnf
     refine ⟨_,hb9,?_⟩
     conv=>whnf
     refine ⟨hp10,?_⟩
     conv=>whnf
     refine ⟨trivial,?_⟩
    rotate_right
    focus
     conv=>whnf
     refine ⟨by decide,?_⟩
     conv=>whnf
     refine ⟨hp7,?_⟩
     conv=>whnf
     refine ⟨hp8,?_⟩
     conv=>whnf
     refine ⟨?_,?_⟩
     rotate_left
     focus
      conv=>whnf
      refine ⟨_,hb9,?_⟩
      conv=>whnf
      refine ⟨hp10,?_⟩
      conv=>whnf
      refine ⟨trivial,?_⟩
     rotate_right
     focus
      conv=>whnf
      refine ⟨_,hb9,?_⟩
      conv=>whnf
      refine ⟨hp10,?_⟩
      conv=>whnf
      refine ⟨trivial,?_⟩
    all_goals
     conv=>whnf
     refine ⟨hp7,?_⟩
     conv=>whnf
     refine ⟨hp8,?_⟩
     conv=>whnf
     refine Yk h (fun hp11 h=>?_)
     conv=>whnf
     refine Yk h (fun hp12 h=>?_)
     conv=>whnf
     refine Ze h (fun l08Connect0 hb13 h=>?_)
     conv=>whnf
     intro fp14
     conv=>whnf
     refine ZG h (fun h=>?_) (fun h=>?_)
     focus
      conv=>whnf
      refine vAt h (fun x2 he15a he15b he15x h=>?_)
      conv=>whnf
      refine ⟨by kernel_rfl,?_⟩
      conv=>whnf
      refine ⟨by decide,?_⟩
      conv=>whnf
      refine ⟨he15a,he15b,Zh he15x ?_⟩
      conv=>whnf
      refine ⟨by kernel_rfl,?_⟩
      conv=>whnf
      refine ⟨by kernel_rfl,?_⟩
      conv=>whnf
      refine ⟨by kernel_rfl,?_⟩
      conv=>whnf
      refine ⟨by kernel_rfl,?_⟩
      conv=>whnf
      obtain ⟨hp17,h⟩:=guardE h
      obtain ⟨hp19,h⟩:=guardE h
      refine ⟨?_,?_⟩
      rotate_left
      focus
       conv=>whnf
       refine ⟨?_,?_⟩
       rotate_left
       focus
        conv=>whnf
        refine ⟨?_,?_⟩
        rotate_left
        focus
         conv=>whnf
         intro fp29
         conv=>whnf
         refine ⟨by kernel_rfl,?_⟩
         conv=>whnf
         refine ⟨hp17,?_⟩
         conv=>whnf
         intro fp30
         conv=>whnf
         refine ⟨by kernel_rfl,?_⟩
         conv=>whnf
         refine ⟨hp19,?_⟩
         conv=>whnf
         refine ⟨trivial,?_⟩
        rotate_right
        focus
         conv=>whnf
         intro fp29
         conv=>whnf
         refine ⟨?_,?_⟩
         rotate_left
         focus
          conv=>whnf
          refine ⟨by kernel_rfl,?_⟩
          conv=>whnf
          refine ⟨hp17,?_⟩
          conv=>whnf
          intro fp30
          conv=>whnf
          refine ⟨by kernel_rfl,?_⟩
          conv=>whnf
          refine ⟨hp19,?_⟩
          conv=>whnf
          refine ⟨trivial,?_⟩
         rotate_right
         focus
          conv=>whnf
          refine ⟨by kernel_rfl,?_⟩
          conv=>whnf
          refine ⟨hp17,?_⟩
          conv=>whnf
          intro fp30
          conv=>whnf
          refine ⟨by kernel_rfl,?_⟩
          conv=>whnf
          refine ⟨hp19,?_⟩
          conv=>whnf
          refine ⟨trivial,?_⟩
       rotate_right
       focus
        conv=>whnf
        refine ⟨?_,?_⟩
        rotate_left
        focus
         conv=>whnf
         intro fp29
         conv=>whnf
         refine ⟨by kernel_rfl,?_⟩
         conv=>whnf
         refine ⟨hp17,?_⟩
         conv=>whnf
         intro fp30
         conv=>whnf
         refine ⟨by kernel_rfl,?_⟩
         conv=>whnf
         refine ⟨hp19,?_⟩
         conv=>whnf
         refine ⟨trivial,?_⟩
        rotate_right
        focus
         conv=>whnf
         intro fp29
         conv=>whnf
         refine ⟨?_,?_⟩
         rotate_left
         focus
          conv=>whnf
          refine ⟨by kernel_rfl,?_⟩
          conv=>whnf
          refine ⟨hp17,?_⟩
          conv=>whnf
          intro fp30
          conv=>whnf
          refine ⟨by kernel_rfl,?_⟩
          conv=>whnf
          refine ⟨hp19,?_⟩
          conv=>whnf
          refine ⟨trivial,?_⟩
         rotate_right
         focus
          conv=>whnf
          refine ⟨by kernel_rfl,?_⟩
          conv=>whnf
          refine ⟨hp17,?_⟩
          conv=>whnf
          intro fp30
          conv=>whnf
          refine ⟨?_,?_⟩
          rotate_left
          focus
           conv=>whnf
           refine ⟨by kernel_rfl,?_⟩
           conv=>whnf
           refine ⟨hp19,?_⟩
           conv=>whnf
           refine ⟨trivial,?_⟩
          rotate_right
          focus
           conv=>whnf
           refine ⟨by kernel_rfl,?_⟩
           conv=>whnf
           refine ⟨hp19,?_⟩
           conv=>whnf
           refine ⟨trivial,?_⟩
      rotate_right
      focus
       conv=>whnf
       intro fp29
       conv=>whnf
       refine ⟨?_,?_⟩
       rotate_left
       focus
        conv=>whnf
        refine ⟨?_,?_⟩
        rotate_left
        focus
         conv=>whnf
         refine ⟨?_,?_⟩
         rotate_left
         focus
          conv=>whnf
          refine ⟨by kernel_rfl,?_⟩
          conv=>whnf
          refine ⟨hp17,?_⟩
          conv=>whnf
          intro fp30
          conv=>whnf
          refine ⟨by kernel_rfl,?_⟩
          conv=>whnf
          refine ⟨hp19,?_⟩
          conv=>whnf
          refine ⟨trivial,?_⟩
         rotate_right
         focus
          conv=>whnf
          refine ⟨by kernel_rfl,?_⟩
          conv=>whnf
          refine ⟨hp17,?_⟩
          conv=>whnf
          intro fp30
          conv=>whnf
          refine ⟨by kernel_rfl,?_⟩
          conv=>whnf
          refine ⟨hp19,?_⟩
          conv=>whnf
          refine ⟨trivial,?_⟩
        rotate_right
        focus
         conv=>whnf
         refine ⟨?_,?_⟩
         rotate_left
         focus
          conv=>whnf
          refine ⟨by kernel_rfl,?_⟩
          conv=>whnf
          refine ⟨hp17,?_⟩
          conv=>whnf
          intro fp30
          conv=>whnf
          refine ⟨by kernel_rfl,?_⟩
          conv=>whnf
          refine ⟨hp19,?_⟩
          conv=>whnf
          refine ⟨trivial,?_⟩
         rotate_right
         focus
          conv=>whnf
          refine ⟨by kernel_rfl,?_⟩
          conv=>whnf
          refine ⟨hp17,?_⟩
          conv=>whnf
          intro fp30
          conv=>whnf
          refine ⟨?_,?_⟩
          rotate_left
          focus
           conv=>whnf
           refine ⟨by kernel_rfl,?_⟩
           conv=>whnf
           refine ⟨hp19,?_⟩
           conv=>whnf
           refine ⟨trivial,?_⟩
          rotate_right
          focus
           conv=>whnf
           refine ⟨by kernel_rfl,?_⟩
           conv=>whnf
           refine ⟨hp19,?_⟩
           conv=>whnf
           refine ⟨trivial,?_⟩
       rotate_right
       focus
        conv=>whnf
        refine ⟨by kernel_rfl,?_⟩
        conv=>whnf
        refine ⟨hp17,?_⟩
        conv=>whnf
        intro fp30
        conv=>whnf
        refine ⟨?_,?_⟩
        rotate_left
        focus
         conv=>whnf
         refine ⟨by kernel_rfl,?_⟩
         conv=>whnf
         refine ⟨hp19,?_⟩
         conv=>whnf
         refine ⟨trivial,?_⟩
        rotate_right
        focus
         conv=>whnf
         refine ⟨?_,?_⟩
         rotate_left
         focus
          conv=>whnf
          refine ⟨by kernel_rfl,?_⟩
          conv=>whnf
          refine ⟨hp19,?_⟩
          conv=>whnf
          refine ⟨trivial,?_⟩
         rotate_right
         focus
          conv=>whnf
          refine ⟨by kernel_rfl,?_⟩
          conv=>whnf
          refine ⟨hp19,?_⟩
          conv=>whnf
          refine ⟨trivial,?_⟩
      all_goals
       conv=>whnf
       refine ⟨by kernel_rfl,?_⟩
       conv=>whnf
       refine ⟨by kernel_rfl,?_⟩
       conv=>whnf
       refine ⟨by kernel_rfl,?_⟩
       conv=>whnf
       refine Ze h (fun l07Lumped0 hb20 h=>?_)
       conv=>whnf
       intro fp21
       conv=>whnf
       refine ⟨by kernel_rfl,?_⟩
       conv=>whnf
       refine Yk h (fun hp22 h=>?_)
       conv=>whnf
       intro fp23
       conv=>whnf
       refine Ze h (fun l08Attach0 hb24 h=>?_)
       conv=>whnf
       intro fp25
       conv=>whnf
       intro fp26
       conv=>whnf
       intro fp27
       conv=>whnf
       refine ⟨trivial,?_⟩
       conv=>whnf
       cases h
       exact hK
     focus
      conv=>whnf
      refine vAt h (fun x2 he31a he31b he31x h=>?_)
      conv=>whnf
      refine ⟨by kernel_rfl,?_⟩
      conv=>whnf
      refine ⟨by decide,?_⟩
      conv=>whnf
      refine ⟨he31a,he31b,Zh he31x ?_⟩
      conv=>whnf
      refine ⟨by kernel_rfl,?_⟩
      conv=>whnf
      refine ⟨by kernel_rfl,?_⟩
      conv=>whnf
      refine ⟨by kernel_rfl,?_⟩
      conv=>whnf
      refine ⟨by kernel_rfl,?_⟩
      conv=>whnf
      obtain ⟨hp33,h⟩:=guardE h
      obtain ⟨hp35,h⟩:=guardE h
      refine ⟨?_,?_⟩
      rotate_left
      focus
       conv=>whnf
       refine ⟨?_,?_⟩
       rotate_left
       focus
        conv=>whnf
        refine ⟨?_,?_⟩
        rotate_left
        focus
         conv=>whnf
         intro fp45
         conv=>whnf
         refine ⟨by kernel_rfl,?_⟩
         conv=>whnf
         refine ⟨hp33,?_⟩
         conv=>whnf
         intro fp46
         conv=>whnf
         refine ⟨by kernel_rfl,?_⟩
         conv=>whnf
         refine ⟨hp35,?_⟩
         conv=>whnf
         refine ⟨trivial,?_⟩
        rotate_right
        focus
         conv=>whnf
         intro fp45
         conv=>whnf
         refine ⟨?_,?_⟩
         rotate_left
         focus
          conv=>whnf
          refine ⟨by kernel_rfl,?_⟩
          conv=>whnf
          refine ⟨hp33,?_⟩
          conv=>whnf
          intro fp46
          conv=>whnf
          refine ⟨by kernel_rfl,?_⟩
          conv=>whnf
          refine ⟨hp35,?_⟩
          conv=>whnf
          refine ⟨trivial,?_⟩
         rotate_right
         focus
          conv=>whnf
          refine ⟨by kernel_rfl,?_⟩
          conv=>whnf
          refine ⟨hp33,?_⟩
          conv=>whnf
          intro fp46
          conv=>whnf
          refine ⟨by kernel_rfl,?_⟩
          conv=>whnf
          refine ⟨hp35,?_⟩
          conv=>whnf
          refine ⟨trivial,?_⟩
       rotate_right
       focus
        conv=>whnf
        refine ⟨?_,?_⟩
        rotate_left
        focus
         conv=>whnf
         intro fp45
         conv=>whnf
         refine ⟨by kernel_rfl,?_⟩
         conv=>whnf
         refine ⟨hp33,?_⟩
         conv=>whnf
         intro fp46
         conv=>whnf
         refine ⟨by kernel_rfl,?_⟩
         conv=>whnf
         refine ⟨hp35,?_⟩
         conv=>whnf
         refine ⟨trivial,?_⟩
        rotate_right
        focus
         conv=>whnf
         intro fp45
         conv=>whnf
         refine ⟨?_,?_⟩
         rotate_left
         focus
          conv=>whnf
          refine ⟨by kernel_rfl,?_⟩
          conv=>whnf
          refine ⟨hp33,?_⟩
          conv=>whnf
          intro fp46
          conv=>whnf
          refine ⟨by kernel_rfl,?_⟩
          conv=>whnf
          refine ⟨hp35,?_⟩
          conv=>whnf
          refine ⟨trivial,?_⟩
         rotate_right
         focus
          conv=>whnf
          refine ⟨by kernel_rfl,?_⟩
          conv=>whnf
          refine ⟨hp33,?_⟩
          conv=>whnf
          intro fp46
          conv=>whnf
          refine ⟨?_,?_⟩
          rotate_left
          focus
           conv=>whnf
           refine ⟨by kernel_rfl,?_⟩
           conv=>whnf
           refine ⟨hp35,?_⟩
           conv=>whnf
           refine ⟨trivial,?_⟩
          rotate_right
          focus
           conv=>whnf
           refine ⟨by kernel_rfl,?_⟩
           conv=>whnf
           refine ⟨hp35,?_⟩
           conv=>whnf
           refine ⟨trivial,?_⟩
      rotate_right
      focus
       conv=>whnf
       intro fp45
       conv=>whnf
       refine ⟨?_,?_⟩
       rotate_left
       focus
        conv=>whnf
        refine ⟨?_,?_⟩
        rotate_left
        focus
         conv=>whnf
         refine ⟨?_,?_⟩
         rotate_left
         focus
          conv=>whnf
          refine ⟨by kernel_rfl,?_⟩
          conv=>whnf
          refine ⟨hp33,?_⟩
          conv=>whnf
          intro fp46
          conv=>whnf
          refine ⟨by kernel_rfl,?_⟩
          conv=>whnf
          refine ⟨hp35,?_⟩
          conv=>whnf
          refine ⟨trivial,?_⟩
         rotate_right
         focus
          conv=>whnf
          refine ⟨by kernel_rfl,?_⟩
          conv=>whnf
          refine ⟨hp33,?_⟩
          conv=>whnf
          intro fp46
          conv=>whnf
          refine ⟨by kernel_rfl,?_⟩
          conv=>whnf
          refine ⟨hp35,?_⟩
          conv=>whnf
          refine ⟨trivial,?_⟩
        rotate_right
        focus
         conv=>whnf
         refine ⟨?_,?_⟩
         rotate_left
         focus
          conv=>whnf
          refine ⟨by kernel_rfl,?_⟩
          conv=>whnf
          refine ⟨hp33,?_⟩
          conv=>whnf
          intro fp46
          conv=>whnf
          refine ⟨by kernel_rfl,?_⟩
          conv=>whnf
          refine ⟨hp35,?_⟩
          conv=>whnf
          refine ⟨trivial,?_⟩
         rotate_right
         focus
          conv=>whnf
          refine ⟨by kernel_rfl,?_⟩
          conv=>whnf
          refine ⟨hp33,?_⟩
          conv=>whnf
          intro fp46
          conv=>whnf
          refine ⟨?_,?_⟩
          rotate_left
          focus
           conv=>whnf
           refine ⟨by kernel_rfl,?_⟩
           conv=>whnf
           refine ⟨hp35,?_⟩
           conv=>whnf
           refine ⟨trivial,?_⟩
          rotate_right
          focus
           conv=>whnf
           refine ⟨by kernel_rfl,?_⟩
           conv=>whnf
           refine ⟨hp35,?_⟩
           conv=>whnf
           refine ⟨trivial,?_⟩
       rotate_right
       focus
        conv=>whnf
        refine ⟨by kernel_rfl,?_⟩
        conv=>whnf
        refine ⟨hp33,?_⟩
        conv=>whnf
        intro fp46
        conv=>whnf
        refine ⟨?_,?_⟩
        rotate_left
        focus
         conv=>whnf
         refine ⟨by kernel_rfl,?_⟩
         conv=>whnf
         refine ⟨hp35,?_⟩
         conv=>whnf
         refine ⟨trivial,?_⟩
        rotate_right
        focus
         conv=>whnf
         refine ⟨?_,?_⟩
         rotate_left
         focus
          conv=>whnf
          refine ⟨by kernel_rfl,?_⟩
          conv=>whnf
          refine ⟨hp35,?_⟩
          conv=>whnf
          refine ⟨trivial,?_⟩
         rotate_right
         focus
          conv=>whnf
          refine ⟨by kernel_rfl,?_⟩
          conv=>whnf
          refine ⟨hp35,?_⟩
          conv=>whnf
          refine ⟨trivial,?_⟩
      all_goals
       conv=>whnf
       refine ⟨by kernel_rfl,?_⟩
       conv=>whnf
       refine ⟨by kernel_rfl,?_⟩
       conv=>whnf
       refine ⟨by kernel_rfl,?_⟩
       conv=>whnf
       refine Ze h (fun l07Lumped0 hb36 h=>?_)
       conv=>whnf
       intro fp37
       conv=>whnf
       refine ⟨by kernel_rfl,?_⟩
       conv=>whnf
       refine Yk h (fun hp38 h=>?_)
       conv=>whnf
       intro fp39
       conv=>whnf
       refine Ze h (fun l08Attach0 hb40 h=>?_)
       conv=>whnf
       intro fp41
       conv=>whnf
       intro fp42
       conv=>whnf
       intro fp43
       conv=>whnf
       refine ⟨trivial,?_⟩
       conv=>whnf
       cases h
       exact hK
end Go.Proofs.YtnnbgbgapogckaaGreatDoor
