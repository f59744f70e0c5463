/-
  The functions keep their contracts, if what they call does. Printed by program.
-/
import Derived.Test.YtepbknolmhmipaaGreatDoorM
import Derived.KernelRfl
namespace Go.Proofs.YtepbknolmhmipaaGreatDoor
open Go Go.Sx
set_option maxRecDepth 100000
set_option maxHeartbeats 100000000
set_option linter.unusedVariables false
set_option linter.unusedSimpArgs false
structure Ws0:Prop where
 w156:Sq 211 ZwS->Sq 109 Zun->Sq 212 c154->Sq 213 ZwT->Sq 113 c156
 w124:Sq 344 c124
 w128:Sq 374 ZwE
 w122:Sq 345 ZuD->Sq 207 c97->Sq 372 ZwA
 w132:Sq 345 ZuD->Sq 209 c109->Sq 346 c131->Sq 318 ZwG
 w121:Sq 341 c99->Sq 345 ZuD
 w161:Sq 207 c97->Sq 279 ZwV
 w155:Sq 213 ZwT
 w138:Sq 258 ZwL->Sq 207 c97->Sq 204 c138
 w181:Sq 281 c98->Sq 285 Zw5->Sq 224 Zw6
 w134:Sq 273 ZwH->Sq 216 ZtN->Sq 201 ZwI
 w112:Sq 402 Zwt->Sq 209 c109->Sq 390 Zwu
 w103:Sq 207 c97->Sq 341 c99->Sq 216 ZtN->Sq 316 Zwp
 w114:Sq 390 Zwu->Sq 391 Zwv->Sq 389 Zww
 w111:Sq 112 c105->Sq 207 c97->Sq 209 c109->Sq 223 ZvV->Sq 402 Zwt
 w163:Sq 207 c97->Sq 279 ZwV->Sq 280 c162->Sq 215 ZwW
 w160:Sq 115 c160
 w99:Sq 341 c99
 w177:Sq 123 Zw1->Sq 122 Zw2
 w192:Sq 125 Zw9->Sq 127 ZvZ->Sq 126 Zv0->Sq 128 Zxa->Sq 49 Zxb
 w200:Sq 327 Zxe->Sq 291 Zxf
 w201:Sq 290 Zxc->Sq 291 Zxf->Sq 233 c196->Sq 230 c201
 w213:Sq 134 c213
 w220:Sq 137 Zxr
 w217:Sq 135 Zxo->Sq 54 Zxp
 w207:Sq 232 Zxj
 w222:Sq 53 Zxm->Sq 54 Zxp->Sq 55 Zxq->Sq 56 Zxs->Sq 13 c222
 w211:Sq 133 c210->Sq 52 Zxl
 w19:Sq 87 c19
 w20:Sq 87 c19->Sq 33 c20
 w25:Sq 89 c24->Sq 36 c25
 w2:Sq 186 c2
 w12:Sq 84 c12
 w17:Sq 86 c16->Sq 32 c17
 w47:Sq 104 c46->Sq 42 c47
 w54:Sq 107 c53->Sq 45 c54
 w51:Sq 199 c29->Sq 106 c51
 w50:Sq 105 c49->Sq 43 c50
 w29:Sq 199 c29
 w40:Sq 198 c40
 w30:Sq 199 c29->Sq 368 c30
 w31:Sq 368 c30->Sq 340 c31
 w130:Sq 373 ZwF->Sq 343 c130
 w179:Sq 221 Zw3->Sq 121 Zw4
 w129:Sq 374 ZwE->Sq 373 ZwF
 w178:Sq 122 Zw2->Sq 221 Zw3
 w65:Sq 336 c58->Sq 250 c56->Sq 189 c57->Sq 337 c63->Sq 338 c64->Sq 310 c65
 w92:Sq 313 c91->Sq 194 c88->Sq 270 c92
 w58:Sq 250 c56->Sq 189 c57->Sq 336 c58
 w62:Sq 387 c61->Sq 366 c62
 w91:Sq 178 c69->Sq 92 c70->Sq 189 c57->Sq 313 c91
 w68:Sq 250 c56->Sq 264 c68
 w71:Sq 92 c70->Sq 146 c71
 w80:Sq 92 c70->Sq 269 c80
 w79:Sq 191 c78->Sq 91 c79
set_option maxHeartbeats 100000000 in
theorem ws0:Ws0:=by
 refine ⟨(λq0 q1 q2 q3=>Zf Zn (Zb q0 (Zb q1 (Zb q2 (Zb q3 Zi)))) mixed {loops:=[(0,[.reg 27 (.dat Iq),.ent 2 (nat_lit 2) (.flat (Ty.int IntKind.i64))]),(2,[.reg 10 (.dat Iq),.ent 2 (nat_lit 2) (.flat (Ty.int IntKind.i64))])],draws:=[(7,[],.u 0 16 (.alt 16 (.o [17,18] (.d 19)) .done)),(12,[],.u 0 14 (.d 14))]} Tryz.func113 (hvc:=?_)),
 (Zf Zn Zi mixed {} Tryz.func344 (hvc:=?_)),
 (Zf Zn Zi mixed {} Tryz.func374 (hvc:=?_)),
 (λq0 q1=>Zf Zn (Zb q0 (Zb q1 Zi)) mixed {} Tryz.func372 (hvc:=?_)),
 (λq0 q1 q2=>Zf Zn (Zb q0 (Zb q1 (Zb q2 Zi))) mixed {loops:=[(0,[.reg 3 (.dat Iq),.reg 9 (.dat Iq)])],draws:=[(10,[],.u 0 7 (.alt 7 (.u 8 6 (.alt 14 (.o [15,16] .done) .done)) .done)),(12,[],.u 0 10 (.alt 10 (.u 11 4 (.op 16 (.a [15,17] (.o [18,19,20] .done)))) .done))]} Tryz.func318 (hvc:=?_)),
 (λq0=>Zf Zn (Zb q0 Zi) mixed {} Tryz.func345 (hvc:=?_)),
 (λq0=>Zf Zn (Zb q0 Zi) mixed {} Tryz.func279 (hvc:=?_)),
 (Zf Zn Zi mixed {draws:=[(3,[],.u 0 18 .done)]} Tryz.func213 (hvc:=?_)),
 (λq0 q1=>Zf Zn (Zb q0 (Zb q1 Zi)) mixed {} Tryz.func204 (hvc:=?_)),
 (λq1 q0=>Zf Zn (Zb q1 (Zb q0 Zi)) mixed {} Tryz.func224 (hvc:=?_)),
 (λq1 q0=>Zf Zn (Zb q1 (Zb q0 Zi)) mixed {loops:=[(0,[.reg 3 (.own (.ol 9 (.flat (.str)))),.reg 9 (.dat Iq)])]} Tryz.func201 (hvc:=?_)),
 (λq1 q0=>Zf Zn (Zb q1 (Zb q0 Zi)) mixed {} Tryz.func390 (hvc:=?_)),
 (λq2 q0 q1=>Zf Zn (Zb q2 (Zb q0 (Zb q1 Zi))) mixed {loops:=[(0,[.reg 3 (.own (.ol 9 (.flat (.str)))),.reg 8 (.dat Iq)])]} Tryz.func316 (hvc:=?_)),
 (λq1 q0=>Zf Zn (Zb q1 (Zb q0 Zi)) mixed {} Tryz.func389 (hvc:=?_)),
 (λq0 q3 q2 q1=>Zf Zn (Zb q0 (Zb q3 (Zb q2 (Zb q1 Zi)))) mixed {} Tryz.func402 (hvc:=?_)),
 (λq1 q0 q2=>Zf Zn (Zb q1 (Zb q0 (Zb q2 Zi))) mixed {} Tryz.func215 (hvc:=?_)),
 (Zf Zn Zi mixed {} Tryz.func115 (hvc:=?_)),
 (Zf Zn Zi mixed {} Tryz.func341 (hvc:=?_)),
 (λq0=>Zf Zn (Zb q0 Zi) mixed {} Tryz.func122 (hvc:=?_)),
 (λq1 q2 q3 q0=>Zf Zn (Zb q1 (Zb q2 (Zb q3 (Zb q0 Zi)))) mixed {loops:=[(0,[.reg 5 (.dat (.str)),.reg 19 (.dat Iq)]),(2,[.reg 5 (.dat (.str)),.reg 34 (.dat Iq)]),(4,[.reg 5 (.dat (.str)),.reg 70 (.dat Iq)]),(6,[.reg 5 (.dat (.str)),.reg 100 (.dat Iq)]),(8,[.reg 5 (.dat (.str)),.reg 115 (.dat Iq)])],draws:=[(10,[],.u 0 4 (.u 5 7 (.u 13 12 (.alt 4 (.alt 12 (.a [25,26] (.o [27,28] .done)) (.a [25,12,26] (.o [27,28] .done))) (.a [25,4,12,26] (.o [27,28] .done)))))),(15,[],.u 0 4 (.u 5 7 (.u 13 6 (.alt 4 (.alt 12 (.a [19,20] (.o [21,22] .done)) (.a [19,12,20] (.o [21,22] .done))) (.a [19,4,12,20] (.o [21,22] .done))))))]} Tryz.func49 (hvc:=?_)),
 (λq0=>Zf Zn (Zb q0 Zi) mixed {loops:=[(0,[.reg 5 (.dat Iq)])],draws:=[(6,[],.u 0 8 (.alt 8 (.op 9 .done) .done))]} Tryz.func291 (hvc:=?_)),
 (λq1 q2 q0=>Zf Zn (Zb q1 (Zb q2 (Zb q0 Zi))) mixed {} Tryz.func230 (hvc:=?_)),
 (Zf Zn Zi mixed {} Tryz.func134 (hvc:=?_)),
 (Zf Zn Zi mixed {} Tryz.func137 (hvc:=?_)),
 (λq0=>Zf Zn (Zb q0 Zi) mixed {loops:=[(0,[.reg 5 (.dat Iq)])],draws:=[(6,[],.u 0 8 (.alt 8 (.op 9 .done) .done))]} Tryz.func54 (hvc:=?_)),
 (Zf Zn Zi mixed {} Tryz.func232 (hvc:=?_)),
 (λq3 q1 q0 q2=>Zf Zn (Zb q3 (Zb q1 (Zb q0 (Zb q2 Zi)))) mixed {} Tryz.func13 (hvc:=?_)),
 (λq0=>Zf Zn (Zb q0 Zi) mixed {loops:=[(0,[.reg 5 (.dat Iq)])],draws:=[(6,[],.u 0 8 (.alt 8 (.op 9 .done) .done))]} Tryz.func52 (hvc:=?_)),
 (Zf Zn Zi mixed {} Tryz.func87 (hvc:=?_)),
 (λq0=>Zf Zn (Zb q0 Zi) mixed {loops:=[(0,[.reg 1 (.dat Iq),.reg 5 (.dat Iq)])]} Tryz.func33 (hvc:=?_)),
 (λq0=>Zf Zn (Zb q0 Zi) mixed {loops:=[(0,[.reg 1 (.dat Iq),.reg 5 (.dat Iq)])]} Tryz.func36 (hvc:=?_)),
 (Zf Zn Zi mixed {} Tryz.func186 (hvc:=?_)),
 (Zf Zn Zi mixed {loops:=[(0,[.reg 1 (.dat Iq),.reg 5 (.dat Iq)])]} Tryz.func84 (hvc:=?_)),
 (λq0=>Zf Zn (Zb q0 Zi) mixed {loops:=[(0,[.reg 1 (.dat Iq),.reg 5 (.dat Iq)])]} Tryz.func32 (hvc:=?_)),
 (λq0=>Zf Zn (Zb q0 Zi) mixed {loops:=[(0,[.reg 4 (.dat Iq),.ent 0 (nat_lit 154) (.flat ZxD.ety)])]} Tryz.func42 (hvc:=?_)),
 (λq0=>Zf Zn (Zb q0 Zi) mixed {loops:=[(0,[.reg 4 (.dat Iq),.ent 0 (nat_lit 168) (.flat ZxF.ety)])]} Tryz.func45 (hvc:=?_)),
 (λq0=>Zf Zn (Zb q0 Zi) mixed {} Tryz.func106 (hvc:=?_)),
 (λq0=>Zf Zn (Zb q0 Zi) mixed {loops:=[(0,[.reg 4 (.dat Iq),.ent 0 (nat_lit 164) (.flat ZxE.ety)])]} Tryz.func43 (hvc:=?_)),
 (Zf Zn Zi mixed {loops:=[(0,[.reg 4 (.dat Iq),.ent 0 (nat_lit 2) (.flat Ztj.ety)])]} Tryz.func199 (hvc:=?_)),
 (Zf Zn Zi mixed {} Tryz.func198 (hvc:=?_)),
 (λq0=>Zf Zn (Zb q0 Zi) mixed {} Tryz.func368 (hvc:=?_)),
 (λq0=>Zf Zb7 (Zb q0 Zi) mixed {loops:=[(0,[.reg 4 (.dat Iq),.ent 0 (nat_lit 402) Zk3])]} Tryz.func340 (hvc:=?_)),
 (λq0=>Zf Zn (Zb q0 Zi) mixed {} Tryz.func343 (hvc:=?_)),
 (λq0=>Zf Zn (Zb q0 Zi) mixed {} Tryz.func121 (hvc:=?_)),
 (λq0=>Zf Zn (Zb q0 Zi) mixed {loops:=[(0,[.reg 8 (.dat Iq)])]} Tryz.func373 (hvc:=?_)),
 (λq0=>Zf Zn (Zb q0 Zi) mixed {loops:=[(0,[.reg 8 (.dat Iq)])]} Tryz.func221 (hvc:=?_)),
 (λq1 q2 q4 q3 q0=>Zf Zn (Zb q1 (Zb q2 (Zb q4 (Zb q3 (Zb q0 Zi))))) mixed {loops:=[(0,[.reg 5 (.dat Iq)]),(2,[.reg 7 (.dat Iq)]),(5,[.reg 9 (.dat Iq)])],draws:=[(13,[],.u 0 31 .done),(25,[],.u 0 26 .done)]} Tryz.func310 (hvc:=?_)),
 (λq1 q0=>Zf Zn (Zb q1 (Zb q0 Zi)) mixed {} Tryz.func270 (hvc:=?_)),
 (λq0 q1=>Zf Zn (Zb q0 (Zb q1 Zi)) mixed {loops:=[(0,[.reg 5 (.dat Iq),.reg 6 (.dat Iq)]),(2,[.reg 8 (.dat Iq)])],draws:=[(12,[],.u 0 9 .done)]} Tryz.func336 (hvc:=?_)),
 (λq0=>Zf Zn (Zb q0 Zi) mixed {loops:=[(0,[.reg 5 (.dat Iq)])]} Tryz.func366 (hvc:=?_)),
 (λq1 q0 q2=>Zf Zn (Zb q1 (Zb q0 (Zb q2 Zi))) mixed {} Tryz.func313 (hvc:=?_)),
 (λq0=>Zf Zn (Zb q0 Zi) mixed {loops:=[(0,[.reg 3 (.dat Iq)]),(2,[.reg 4 (.dat Iq)])],draws:=[(9,[],.u 0 9 .done)]} Tryz.func264 (hvc:=?_)),
 (λq0=>Zf Zn (Zb q0 Zi) mixed {loops:=[(0,[.reg 5 (.own (.ol 2 (.flat Iq))),.reg 7 (.dat Iq)])]} Tryz.func146 (hvc:=?_)),
 (λq0=>Zf Zn (Zb q0 Zi) mixed {} Tryz.func269 (hvc:=?_)),
 (λq0=>Zf Zn (Zb q0 Zi) mixed {loops:=[(0,[.reg 3 (.dat Iq)]),(2,[.reg 4 (.dat Iq)])],draws:=[(9,[],.u 0 11 .done)]} Tryz.func91 (hvc:=?_))⟩
 all_goals
  intro a;repeat rcases a with ⟨_,a⟩
  rintro K ⟨r,h,hK⟩;repeat'
    conv=>whnf
    first
    | with_reducible refine Zsx ?_
    | with_reducible refine Zf3 (by assumption) (by assumption) (by assumption) ?_
    | with_reducible refine Zjl (by assumption) ?_
    | with_reducible refine Zgc (by assumption) ?_
    | (with_reducible refine shD ?_);first | refine Zph h (λh=>?_) (λh=>?_) | refine Ztl h (λh=>?_) (λh=>?_)
    | (with_reducible refine Ztb ?_);first | refine Zuv ?_ | refine Zpi ?_
    | (with_reducible refine Zwe ?_);first | refine ZqR h (λh=>?_) (λh=>?_) | refine Ztk h (λh=>?_) (λh=>?_)
    | (with_reducible refine Zta ?_);(refine ⟨λhd=>?_,?_⟩)<;>try subst hd
    | (with_reducible refine Zwg ?_);first | with_reducible refine Zfy h (λx hb h=>?_) | refine Zgc (by assumption) ?_ | with_reducible refine pG h (λhp h=>?_) | with_reducible refine pA h (λx ha hb hx h=>?_) | with_reducible refine pB h (λx hb h=>?_) | refine Zfy h (λx hb h=>?_)
    | (with_reducible refine Zwd ?_);first | with_reducible refine vAt h (λx ha hb hx h=>?_) | refine Zf3 (by assumption) (by assumption) (by assumption) ?_ | with_reducible refine pG h (λhp h=>?_) | with_reducible refine pA h (λx ha hb hx h=>?_) | with_reducible refine pB h (λx hb h=>?_) | refine vAt h (λx ha hb hx h=>?_)
    | (with_reducible refine Zs9 ?_);first | with_reducible refine ZoE h (λx hb h=>?_) | refine Zjl (by assumption) ?_ | with_reducible refine pG h (λhp h=>?_) | with_reducible refine pA h (λx ha hb hx h=>?_) | with_reducible refine pB h (λx hb h=>?_) | refine ZoE h (λx hb h=>?_)
    | with_reducible refine Zwf ?_
    | (with_reducible refine Zp6 ?_);refine Zqd h hK ?_;clear h hK;intro I μ v r h hK;(repeat rcases v with ⟨_,v⟩);(try dsimp only at h)
    | with_reducible refine ⟨by assumption,?_⟩
    | with_reducible refine orL ?_
    | with_reducible refine .inr ?_
    | (with_reducible refine Ztc ?_);first | refine ⟨?_,True.intro⟩ | refine ⟨?_,?_⟩
    | refine ⟨by kernel_rfl,?_⟩
    | refine ⟨by decide,?_⟩
    | with_reducible refine Ztm h (λhp h=>?_)
    | intro fp
    | exact trivial
    | with_reducible exact Zsw h
    | (refine pS h (λe=>?_));subst e;(repeat (first | exact hK | exact ⟨⟨rfl,rfl⟩,hK.1 _ rfl⟩ | (refine pR hK (λe hK=>?_));subst e));done
    | refine Ztm h (λhp h=>?_)
    | refine ⟨by assumption,?_⟩
    | with_reducible refine pG h (λhp h=>?_) | with_reducible refine pA h (λx ha hb hx h=>?_) | with_reducible refine pB h (λx hb h=>?_)
    | refine pG h (λhp h=>?_)
    | fail
theorem Zj4 (rec0:Int->Option (List UInt8)) (hrec:Sq 144 (JU rec0)):Sq 144 (JU (YB rec0)):=by
 refine Zf Zn (Zb hrec Zi) mixed {draws:=[(5,[],.o [0,1,3,4,5] (.alt 2 (.a [6,7,8] (.o [9,10] .done)) (.alt 6 (.alt 2 (.a [7,8] (.o [9,10] .done)) (.alt 7 (.alt 2 (.alt 8 (.o [9,10] .done) .done) (.a [8,2] (.o [9,10] .done))) .done)) .done)))]} (fn:=Tryz.f144) Tryz.func144 (by kernel_rfl) (by kernel_rfl) ?_;rintro ⟨n0,⟨⟩⟩ K ⟨r,h,hK⟩
 change YB rec0 n0=some r at h
 unfold YB at h
 conv=>whnf
 refine Zph h (λh=>?_) (λh=>?_)
 conv=>whnf
 refine Zfy h (λr0 hb0 h=>?_)
 conv=>whnf
 refine Ztm h (λhp1 h=>?_)
 conv=>whnf
 cases h;exact hK
 conv=>whnf
 refine Zph h (λh=>?_) (λh=>?_)
 conv=>whnf
 cases h;exact hK
 focus
  conv=>whnf
  refine ⟨by kernel_rfl,?_⟩
  conv=>whnf
  refine ⟨by decide,?_⟩
  conv=>whnf
  refine ⟨by decide,?_⟩
  conv=>whnf
  obtain ⟨r0,hb2,h⟩:=Option.bind_eq_some_iff.1 h;obtain ⟨hp3,h⟩:=guardE h;refine ⟨?_,?_⟩;rotate_left
  focus
   conv=>whnf
   refine ⟨?_,?_⟩;rotate_left
   focus
    conv=>whnf
    refine ⟨?_,?_⟩;rotate_left
    focus
     conv=>whnf
     refine ⟨_,hb2,?_⟩
     conv=>whnf
     refine ⟨hp3,?_⟩
     conv=>whnf
     refine ⟨trivial,?_⟩
    rotate_right
    focus
     conv=>whnf
     refine ⟨_,hb2,?_⟩
     conv=>whnf
     refine ⟨hp3,?_⟩
     conv=>whnf
     refine ⟨trivial,?_⟩
   rotate_right
   focus
    conv=>whnf
    refine ⟨_,hb2,?_⟩
    conv=>whnf
    refine ⟨hp3,?_⟩
    conv=>whnf
    refine ⟨trivial,?_⟩
  rotate_right
  focus
   conv=>whnf
   refine ⟨_,hb2,?_⟩
   conv=>whnf
   refine ⟨hp3,?_⟩
   conv=>whnf
   refine ⟨trivial,?_⟩
  all_goals
   conv=>whnf
   cases h;exact hK
theorem w86:Sq 144 c86:=by
 have hn:∀ n,Sq 144 (JU (Y1 n)):=by
  intro n;induction n with
  | zero =>
  refine Zf Zn Zi mixed {draws:=[(5,[],.o [0,1,3,4,5] (.alt 2 (.a [6,7,8] (.o [9,10] .done)) (.alt 6 (.alt 2 (.a [7,8] (.o [9,10] .done)) (.alt 7 (.alt 2 (.alt 8 (.o [9,10] .done) .done) (.a [8,2] (.o [9,10] .done))) .done)) .done)))]} (fn:=Tryz.f144) Tryz.func144 (by kernel_rfl) (by kernel_rfl) ?_;rintro ⟨n0,⟨⟩⟩ K ⟨r,h,hK⟩;cases h
  | succ n ih=>exact Zj4 _ ih
 refine ⟨(hn 0).1,?_⟩;rintro w S vs ⟨n0,⟨⟩⟩ fp K h1 h0 h2 h3 h4 ⟨r,h,hK⟩;obtain ⟨n,hr⟩:=ZlX h;exact (hn n).2 w S vs _ fp K h1 h0 h2 h3 h4 ⟨r,hr,hK⟩
end Go.Proofs.YtepbknolmhmipaaGreatDoor
