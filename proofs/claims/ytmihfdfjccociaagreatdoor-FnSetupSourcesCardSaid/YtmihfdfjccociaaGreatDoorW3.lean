/-
  The functions keep their contracts, if what they call does. Printed by program.
-/
import Derived.Test.YtmihfdfjccociaaGreatDoorM
import Derived.KernelRfl
namespace Go.Proofs.YtmihfdfjccociaaGreatDoor
open Go Go.Sx
set_option maxRecDepth 100000
set_option maxHeartbeats 100000000
set_option linter.unusedVariables false
set_option linter.unusedSimpArgs false
structure Ws3:Prop where
 w90:Sq 132 c89->Sq 71 c90
 w52:Sq 300 c51->Sq 282 c52
 w50:Sq 301 c50
 w60:Sq 285 c60
 w55:Sq 280 c36->Sq 281 c49->Sq 282 c52->Sq 283 c54->Sq 261 c53->Sq 76 c29->Sq 258 c55
 w87:Sq 131 c87
 w67:Sq 171 c34->Sq 121 c67
 w70:Sq 190 c69->Sq 76 c29->Sq 123 c70
 w79:Sq 46 c79
 w82:Sq 66 c78->Sq 46 c79->Sq 67 c81->Sq 32 c82
 w96:Sq 170 c95->Sq 171 c34->Sq 101 c96
 w78:Sq 120 c66->Sq 121 c67->Sq 122 c74->Sq 123 c70->Sq 124 c77->Sq 66 c78
 w66:Sq 186 c65->Sq 171 c34->Sq 120 c66
 w157:Sq 32 c82->Sq 33 c91->Sq 35 c156->Sq 12 c157
 w123:Sq 22 c117->Sq 23 Zum->Sq 7 Zun
 w35:Sq 76 c29->Sq 257 c31->Sq 171 c34->Sq 229 c35
 w38:Sq 76 c29->Sq 192 c38
 w42:Sq 161 c42
 w30:Sq 76 c29->Sq 208 ZfN->Sq 209 Zde->Sq 156 c30
 w114:Sq 77 Zuh
 w97:Sq 45 c97
 w91:Sq 46 c79->Sq 68 c84->Sq 69 c37->Sq 70 c88->Sq 71 c90->Sq 33 c91
 w122:Sq 51 Zuj->Sq 52 c94->Sq 53 ZfM->Sq 50 Zul->Sq 23 Zum
 w156:Sq 72 c152->Sq 75 ZuF->Sq 35 c156
 w108:Sq 45 c97->Sq 127 c41->Sq 174 c107->Sq 161 c42->Sq 108 Zuc
 w85:Sq 129 c85
 w101:Sq 172 Zt8->Sq 102 Zt9
 w73:Sq 232 c72->Sq 188 c73
 w40:Sq 232 c39->Sq 188 c40
 w61:Sq 285 c60->Sq 284 c61
 w76:Sq 125 c75->Sq 191 c76
 w139:Sq 56 Zux->Sq 58 c14->Sq 57 c138->Sq 25 c139
 w133:Sq 226 Zup->Sq 118 c20->Sq 38 c21->Sq 227 c131->Sq 228 Zus->Sq 185 Zut
 w25:Sq 59 c22->Sq 60 c23->Sq 38 c21->Sq 61 c24->Sq 26 c25
 w140:Sq 38 c21->Sq 118 c20->Sq 62 Zuy
 w131:Sq 38 c21->Sq 256 c130->Sq 227 c131
 w7:Sq 36 c2->Sq 278 c6->Sq 253 c7
 w20:Sq 118 c20
 w15:Sq 217 c15
 w142:Sq 28 c13->Sq 119 Zuz
 w141:Sq 62 Zuy->Sq 27 c141
 w149:Sq 61 c24->Sq 65 c148->Sq 31 ZuB
set_option maxHeartbeats 100000000 in
theorem ws3:Ws3:=by
 refine ⟨(λq0=>GO Zv (Ze q0 Zn) {loops:=[(0,[.reg 6 (.own (.ol 2 (.flat Iq))),.reg 19 (.dat Iq)])]} Tryz.func71 ?_),
 (λq0=>GO Zv (Ze q0 Zn) {} Tryz.func282 ?_),
 (GO Zv Zn {} Tryz.func301 ?_),
 (GO Zv Zn {} Tryz.func285 ?_),
 (λq4 q3 q2 q0 q1 q5=>GO Zv (Ze q4 (Ze q3 (Ze q2 (Ze q0 (Ze q1 (Ze q5 Zn)))))) {draws:=[(2,[],.u 0 12 (.alt 12 (.u 13 5 (.alt 18 (.u 19 11 (.alt 30 (.u 31 9 .done) .done)) .done)) .done)),(3,[],.o [0,1] (.alt 2 (.u 3 4 (.alt 7 (.u 8 6 (.alt 14 (.u 15 6 (.alt 21 (.o [22,23] .done) .done)) .done)) .done)) .done))]} Tryz.func258 ?_),
 (GO Zv Zn {draws:=[(3,[],.u 0 18 .done)]} Tryz.func131 ?_),
 (λq0=>GO Zv (Ze q0 Zn) {loops:=[(0,[.reg 3 (.own (.ol 9 (.flat (.str)))),.reg 12 (.dat Iq)]),(2,[.reg 4 (.own (.ol 9 (.flat (.str)))),.reg 25 (.dat Iq)])]} Tryz.func121 ?_),
 (λq0 q1=>GO Zv (Ze q0 (Ze q1 Zn)) {} Tryz.func123 ?_),
 (GO Zv Zn {loops:=[(0,[.reg 3 (.own (.ol 105 (.flat (Zho)))),.reg 13 (.dat Iq)]),(2,[.reg 3 (.own (.ol 105 (.flat (Zho)))),.reg 21 (.dat Iq)]),(4,[.reg 3 (.own (.ol 105 (.flat (Zho)))),.reg 44 (.dat Iq)])]} Tryz.func46 ?_),
 (λq1 q0 q2=>GO Zv (Ze q1 (Ze q0 (Ze q2 Zn))) {loops:=[(0,[.reg 32 (.dat Iq),.ent 1 (nat_lit 2) (.flat ZrK.ety)]),(2,[.reg 50 (.dat Iq)])],draws:=[(13,[],.u 0 5 (.alt 5 (.op 6 .done) .done))]} Tryz.func32 ?_),
 (λq1 q0=>GO Zv (Ze q1 (Ze q0 Zn)) {loops:=[(0,[.reg 3 (.own (.ol 9 (.flat (.str)))),.reg 11 (.dat Iq)])]} Tryz.func101 ?_),
 (λq4 q2 q1 q3 q0=>GO Zv (Ze q4 (Ze q2 (Ze q1 (Ze q3 (Ze q0 Zn))))) {loops:=[(0,[.reg 25 (.dat Iq),.ent 2 (nat_lit 3) (.flat Zrr.ety)]),(2,[.reg 51 (.dat Iq),.ent 2 (nat_lit 3) (.flat Zrr.ety)])]} Tryz.func66 ?_),
 (λq1 q0=>GO Zv (Ze q1 (Ze q0 Zn)) {loops:=[(0,[.reg 3 (.own (.ol 9 (.flat (.str)))),.reg 9 (.dat Iq)])]} Tryz.func120 ?_),
 (λq1 q2 q0=>GO Zv (Ze q1 (Ze q2 (Ze q0 Zn))) {} Tryz.func12 ?_),
 (λq1 q0=>GO Zv (Ze q1 (Ze q0 Zn)) {} Tryz.func7 ?_),
 (λq2 q0 q1=>GO Zv (Ze q2 (Ze q0 (Ze q1 Zn))) {loops:=[(0,[.reg 3 (.own (.ol 9 (.flat (.str)))),.reg 8 (.dat Iq)])]} Tryz.func229 ?_),
 (λq0=>GO Zv (Ze q0 Zn) {} Tryz.func192 ?_),
 (GO Zv Zn {loops:=[(0,[.reg 3 (.dat Iq)])],draws:=[(4,[],.u 0 10 .done)]} Tryz.func161 ?_),
 (λq2 q1 q0=>GO Zv (Ze q2 (Ze q1 (Ze q0 Zn))) {} Tryz.func156 ?_),
 (GO Zv Zn {} Tryz.func77 ?_),
 (GO Zv Zn {} Tryz.func45 ?_),
 (λq3 q1 q4 q2 q0=>GO ZcL (Ze q3 (Ze q1 (Ze q4 (Ze q2 (Ze q0 Zn))))) {loops:=[(0,[.reg 4 (.dat Iq),.reg 25 (.dat Iq),.cello 1020 6 (.ol 157 (.flat (Zkg)))]),(2,[.reg 60 (.dat Iq),.ent 4 (nat_lit 2) (.flat ZrK.ety),.ent 5 (nat_lit 60) (Dp.ol (2:Go.TypeId) (Dp.flat (Ty.int IntKind.i64)))]),(4,[.reg 88 (.dat Iq),.cello 1020 7 (.ol 2 (.flat Iq)),.cello 1020 8 (.ol 60 (.ol 2 (.flat Iq))),.cello 1020 6 (.ol (nat_lit 157) (.flat Zkg)),.ent 5 (nat_lit 60) (Dp.ol (2:Go.TypeId) (Dp.flat (Ty.int IntKind.i64)))]),(6,[.reg 122 (.dat Iq),.cello 1020 6 (.ol (nat_lit 157) (.flat Zkg))]),(8,[.reg 127 (.dat Iq),.cello 1020 6 (.ol (nat_lit 157) (.flat Zkg))])],draws:=[(1,[],.o [0,1,2] (.alt 3 (.op 4 (.alt 5 (.op 6 .done) .done)) .done)),(6,[],.u 0 8 (.a [8,9] (.o [10,11] (.d 12)))),(16,[],.o [0,1] (.u 3 6 (.ld 2 (.a [9,10] (.op 11 (.d 12)))))),(21,[],.u 0 7 (.alt 7 (.o [8,9] (.a [10,11] (.o [12,13] (.d 14)))) .done)),(22,[],.u 0 7 (.a [7,8,9] (.o [10,11] (.d 12)))),(29,[],.u 0 18 (.a [18,19] (.o [20,21] (.d 22))))]} Tryz.func33 ?_),
 (λq0 q3 q2 q1=>GO Zv (Ze q0 (Ze q3 (Ze q2 (Zr4 (ZsQ ZcL (Ze q1 Zn) mixed {draws:=[(0,[],.u 0 5 (.alt 5 (.o [6,7,8] (.a [9,10] (.op 11 .done))) (.a [9,5] (.o [6,7,8] (.alt 10 (.op 11 .done) .done)))))]} Tryz.func49 (by kernel_rfl) (by kernel_rfl)) Zn)))) {loops:=[(0,[.reg 14 (.dat Iq),.cello 1 0 (.ol 116 (.flat (Xt)))]),(2,[.reg 27 (.dat Iq),.cello 1 0 (.ol 116 (.flat (Xt)))])]} Tryz.func23 ?_),
 (λq0 q1=>GO Zv (Ze q0 (Ze q1 Zn)) {loops:=[(0,[.reg 9 (.dat Iq)])],draws:=[(4,[],.o [0,1,2] (.alt 3 (.u 4 4 (.alt 8 (.u 9 17 .done) .done)) .done))]} Tryz.func35 ?_),
 (λq0 q2 q3 q1=>GO Zv (Ze q0 (Ze q2 (Ze q3 (Ze q1 Zn)))) {loops:=[(0,[.reg 15 (.dat Iq)])]} Tryz.func108 ?_),
 (GO Zv Zn {} Tryz.func129 ?_),
 (λq0=>GO Zv (Ze q0 Zn) {} Tryz.func102 ?_),
 (λq0=>GO Zv (Ze q0 Zn) {} Tryz.func188 ?_),
 (λq0=>GO Zv (Ze q0 Zn) {} Tryz.func188 ?_),
 (λq0=>GO Zv (Ze q0 Zn) {loops:=[(0,[.reg 8 (.dat Iq)])]} Tryz.func284 ?_),
 (λq0=>GO Zv (Ze q0 Zn) {loops:=[(0,[.reg 8 (.dat Iq)])]} Tryz.func191 ?_),
 (λq0 q1 q2=>GO Zv (Ze q0 (Ze q1 (Ze q2 Zn))) {loops:=[(0,[.reg 3 (.dat Iq)])],draws:=[(6,[],.u 0 8 (.alt 8 (.op 9 (.alt 10 (.op 11 .done) .done)) .done))]} Tryz.func25 ?_),
 (λq1 q2 q4 q3 q0=>GO Zv (Ze q1 (Ze q2 (Ze q4 (Ze q3 (Ze q0 Zn))))) {loops:=[(0,[.reg 5 (.dat Iq)]),(2,[.reg 7 (.dat Iq)]),(5,[.reg 9 (.dat Iq)])],draws:=[(13,[],.u 0 31 .done),(25,[],.u 0 26 .done)]} Tryz.func185 ?_),
 (λq1 q0 q2 q3=>GO Zv (Ze q1 (Ze q0 (Ze q2 (Ze q3 Zn)))) {loops:=[(0,[.reg 3 (.dat Iq)]),(2,[.reg 5 (.dat Iq)])],draws:=[(10,[],.u 0 8 .done)]} Tryz.func26 ?_),
 (λq1 q0=>GO Zv (Ze q1 (Ze q0 Zn)) {loops:=[(0,[.reg 4 (.dat Iq)])]} Tryz.func62 ?_),
 (λq1 q0=>GO Zv (Ze q1 (Ze q0 Zn)) {} Tryz.func227 ?_),
 (λq1 q0=>GO ZcL (Ze q1 (Ze q0 Zn)) {} Tryz.func253 ?_),
 (GO Zv Zn {loops:=[(0,[.reg 3 (.dat Iq)])]} Tryz.func118 ?_),
 (GO Zv Zn {} Tryz.func217 ?_),
 (λq0=>GO Zv (Ze q0 Zn) {} Tryz.func119 ?_),
 (λq0=>GO Zv (Ze q0 Zn) {loops:=[(0,[.reg 3 (.dat Iq)]),(2,[.reg 4 (.dat Iq)])],draws:=[(9,[],.u 0 11 .done)]} Tryz.func27 ?_),
 (λq1 q0=>GO Zv (Ze q1 (Ze q0 Zn)) {loops:=[(0,[.reg 3 (.dat (.sl (Xt))),.reg 4 (.dat Iq)]),(2,[.reg 3 (.dat (.sl (Xt))),.reg 9 (.dat Iq)])]} Tryz.func31 ?_)⟩
 all_goals
  intro a;repeat rcases a with ⟨_,a⟩
  rintro K ⟨r,h,hK⟩;repeat'
    conv=>whnf
    first
    | with_reducible refine ZqH ?_
    | with_reducible refine ZeT (by assumption) (by assumption) (by assumption) ?_
    | with_reducible refine Zhq (by assumption) ?_
    | with_reducible refine Ze2 (by assumption) ?_
    | (with_reducible refine shD ?_);first | refine Zmn h (λh=>?_) (λh=>?_) | refine Zrt h (λh=>?_) (λh=>?_)
    | (with_reducible refine Zrl ?_);first | refine ZsA ?_ | refine Zqm ?_
    | (with_reducible refine ZtZ ?_);first | refine Zou h (λh=>?_) (λh=>?_) | refine Zrs h (λh=>?_) (λh=>?_)
    | (with_reducible refine Zrk ?_);(refine ⟨λhd=>?_,?_⟩)<;>try subst hd
    | (with_reducible refine Zt1 ?_);first | with_reducible refine ZeB h (λx hb h=>?_) | refine Ze2 (by assumption) ?_ | with_reducible refine pG h (λhp h=>?_) | with_reducible refine pA h (λx ha hb hx h=>?_) | with_reducible refine pB h (λx hb h=>?_) | refine ZeB h (λx hb h=>?_)
    | (with_reducible refine ZtY ?_);first | with_reducible refine vAt h (λx ha hb hx h=>?_) | refine ZeT (by assumption) (by assumption) (by assumption) ?_ | with_reducible refine pG h (λhp h=>?_) | with_reducible refine pA h (λx ha hb hx h=>?_) | with_reducible refine pB h (λx hb h=>?_) | refine vAt h (λx ha hb hx h=>?_)
    | (with_reducible refine Zrj ?_);first | with_reducible refine Zmm h (λx hb h=>?_) | refine Zhq (by assumption) ?_ | with_reducible refine pG h (λhp h=>?_) | with_reducible refine pA h (λx ha hb hx h=>?_) | with_reducible refine pB h (λx hb h=>?_) | refine Zmm h (λx hb h=>?_)
    | with_reducible refine Zt0 ?_
    | (with_reducible refine ZnM ?_);refine ZnS h hK ?_;clear h hK;intro I μ v r h hK;(repeat rcases v with ⟨_,v⟩);(try dsimp only at h)
    | with_reducible refine ⟨by assumption,?_⟩
    | with_reducible refine orL ?_
    | with_reducible refine .inr ?_
    | (with_reducible refine Zrm ?_);first | refine ⟨?_,True.intro⟩ | refine ⟨?_,?_⟩
    | refine ⟨by kernel_rfl,?_⟩
    | refine ⟨by decide,?_⟩
    | with_reducible refine Zru h (λhp h=>?_)
    | intro fp
    | exact trivial
    | with_reducible exact ZqG h
    | (refine pS h (λe=>?_));subst e;(repeat (first | exact hK | exact ⟨⟨rfl,rfl⟩,hK.1 _ rfl⟩ | (refine pR hK (λe hK=>?_));subst e));done
    | refine Zru h (λhp h=>?_)
    | refine ⟨by assumption,?_⟩
    | with_reducible refine pG h (λhp h=>?_) | with_reducible refine pA h (λx ha hb hx h=>?_) | with_reducible refine pB h (λx hb h=>?_)
    | refine pG h (λhp h=>?_)
    | fail
theorem Zki (rec0:(List Zd)->Int->Option Q7) (hrec:Sq 52 (Zb8 rec0)):Sq 52 (Zb8 (VU rec0)):=by
 refine GO Zv (Ze hrec Zn) {} Tryz.func52 ?_;rintro ⟨list0,k0,⟨⟩⟩ K ⟨r,h,hK⟩
 change VU rec0 list0 k0=some r at h
 unfold VU at h
 conv=>whnf
 refine vAt h (λx0 he0a he0b he0x h=>?_)
 conv=>whnf
 refine Zmn h (λh=>?_) (λh=>?_)
 conv=>whnf
 cases h;exact hK
 conv=>whnf
 refine ZeB h (λr0 hb1 h=>?_)
 conv=>whnf
 refine Zmn h (λh=>?_) (λh=>?_)
 conv=>whnf
 refine ⟨by decide,?_⟩
 conv=>whnf
 refine Zou h (λh=>?_) (λh=>?_)
 conv=>whnf
 cases h;exact hK
 conv=>whnf
 cases h;exact hK
 conv=>whnf
 refine Zou h (λh=>?_) (λh=>?_)
 conv=>whnf
 cases h;exact hK
 conv=>whnf
 cases h;exact hK
theorem w94:Sq 52 c94:=by
 have hn:∀ n,Sq 52 (Zb8 (VI n)):=by
  intro n;induction n with
  | zero =>
  refine GO Zv Zn {} Tryz.func52 ?_;rintro ⟨list0,k0,⟨⟩⟩ K ⟨r,h,hK⟩;cases h
  | succ n ih=>exact Zki _ ih
 refine ⟨(hn 0).1,?_⟩;rintro w S vs ⟨list0,k0,⟨⟩⟩ fp K h1 h2 h3 h4 ⟨r,h,hK⟩;obtain ⟨n,hr⟩:=ZjD h;exact (hn n).2 w S vs _ fp K h1 h2 h3 h4 ⟨r,hr,hK⟩
theorem Zh9 (rec0:Int->Option (List UInt8)) (hrec:Sq 169 (JL rec0)):Sq 169 (JL (Yy rec0)):=by
 refine GO Zv (Ze hrec Zn) {draws:=[(5,[],.o [0,1,3,4,5] (.alt 2 (.a [6,7,8] (.o [9,10] .done)) (.alt 6 (.alt 2 (.a [7,8] (.o [9,10] .done)) (.alt 7 (.alt 2 (.alt 8 (.o [9,10] .done) .done) (.a [8,2] (.o [9,10] .done))) .done)) .done)))]} Tryz.func169 ?_;rintro ⟨n0,⟨⟩⟩ K ⟨r,h,hK⟩
 change Yy rec0 n0=some r at h
 unfold Yy at h
 conv=>whnf
 refine Zmn h (λh=>?_) (λh=>?_)
 conv=>whnf
 refine ZeB h (λr0 hb0 h=>?_)
 conv=>whnf
 refine Zru h (λhp1 h=>?_)
 conv=>whnf
 cases h;exact hK
 conv=>whnf
 refine Zmn h (λh=>?_) (λh=>?_)
 conv=>whnf
 cases h;exact hK
 focus
  conv=>whnf
  refine ⟨by kernel_rfl,?_⟩
  conv=>whnf
  refine ⟨by decide,?_⟩
  conv=>whnf
  refine ⟨by decide,?_⟩
  conv=>whnf
  obtain ⟨r0,hb3,h⟩:=Option.bind_eq_some_iff.1 h;obtain ⟨hp4,h⟩:=guardE h;refine ⟨?_,?_⟩;rotate_left
  focus
   conv=>whnf
   refine ⟨?_,?_⟩;rotate_left
   focus
    conv=>whnf
    refine ⟨?_,?_⟩;rotate_left
    focus
     conv=>whnf
     refine ⟨_,hb3,?_⟩
     conv=>whnf
     refine ⟨hp4,?_⟩
     conv=>whnf
     refine ⟨trivial,?_⟩
    rotate_right
    focus
     conv=>whnf
     refine ⟨_,hb3,?_⟩
     conv=>whnf
     refine ⟨hp4,?_⟩
     conv=>whnf
     refine ⟨trivial,?_⟩
   rotate_right
   focus
    conv=>whnf
    refine ⟨_,hb3,?_⟩
    conv=>whnf
    refine ⟨hp4,?_⟩
    conv=>whnf
    refine ⟨trivial,?_⟩
  rotate_right
  focus
   conv=>whnf
   refine ⟨_,hb3,?_⟩
   conv=>whnf
   refine ⟨hp4,?_⟩
   conv=>whnf
   refine ⟨trivial,?_⟩
  all_goals
   conv=>whnf
   cases h;exact hK
theorem w11:Sq 169 c11:=by
 have hn:∀ n,Sq 169 (JL (Xp n)):=by
  intro n;induction n with
  | zero =>
  refine GO Zv Zn {draws:=[(5,[],.o [0,1,3,4,5] (.alt 2 (.a [6,7,8] (.o [9,10] .done)) (.alt 6 (.alt 2 (.a [7,8] (.o [9,10] .done)) (.alt 7 (.alt 2 (.alt 8 (.o [9,10] .done) .done) (.a [8,2] (.o [9,10] .done))) .done)) .done)))]} Tryz.func169 ?_;rintro ⟨n0,⟨⟩⟩ K ⟨r,h,hK⟩;cases h
  | succ n ih=>exact Zh9 _ ih
 refine ⟨(hn 0).1,?_⟩;rintro w S vs ⟨n0,⟨⟩⟩ fp K h1 h2 h3 h4 ⟨r,h,hK⟩;obtain ⟨n,hr⟩:=ZjD h;exact (hn n).2 w S vs _ fp K h1 h2 h3 h4 ⟨r,hr,hK⟩
end Go.Proofs.YtmihfdfjccociaaGreatDoor
