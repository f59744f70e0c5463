/-
  The functions keep their contracts, if what they call does. Printed by program.
-/
import Derived.Test.YtepbknolmhmipaaGreatDoorM
import Derived.KernelRfl
namespace Go.Proofs.YtepbknolmhmipaaGreatDoor
open Go Go.Sx
set_option maxRecDepth 100000
set_option maxHeartbeats 100000000
set_option linter.unusedVariables false
set_option linter.unusedSimpArgs false
structure Ws3:Prop where
 w158:Sq 214 c157->Sq 114 ZwU
 w120:Sq 392 c119->Sq 371 Zwz
 w118:Sq 393 Zwy
 w135:Sq 216 ZtN->Sq 202 ZwJ
 w139:Sq 204 c138->Sq 276 c139
 w150:Sq 108 c146->Sq 109 Zun->Sq 110 ZwP->Sq 46 ZwQ
 w164:Sq 215 ZwW->Sq 216 ZtN->Sq 116 c164
 w183:Sq 224 Zw6->Sq 225 c182->Sq 207 c97->Sq 216 ZtN->Sq 124 c183
 w171:Sq 283 ZwY->Sq 219 c171
 w148:Sq 207 c97->Sq 208 c148
 w180:Sq 285 Zw5
 w173:Sq 219 c171->Sq 284 ZwZ->Sq 220 c173
 w104:Sq 369 Zwq
 w175:Sq 207 c97->Sq 222 c175
 w182:Sq 225 c182
 w137:Sq 258 ZwL
 w166:Sq 218 ZvW->Sq 207 c97->Sq 119 ZvX
 w209:Sq 130 Zxi->Sq 131 c206->Sq 132 c208->Sq 51 Zxk
 w205:Sq 231 Zxh->Sq 130 Zxi
 w196:Sq 233 c196
 w195:Sq 326 c194->Sq 290 Zxc
 w208:Sq 232 Zxj->Sq 132 c208
 w198:Sq 385 Zxd->Sq 361 c198
 w210:Sq 233 c196->Sq 133 c210
 w5:Sq 339 c4->Sq 312 c5
 w18:Sq 30 c9->Sq 31 c15->Sq 32 c17->Sq 6 c18
 w23:Sq 88 c22->Sq 35 c23
 w9:Sq 82 c8->Sq 30 c9
 w1:Sq 311 c0->Sq 267 c1
 w14:Sq 185 c13->Sq 85 c14
 w3:Sq 186 c2->Sq 367 c3
 w16:Sq 186 c2->Sq 86 c16
 w35:Sq 196 c34->Sq 99 c35
 w46:Sq 104 c46
 w37:Sq 199 c29->Sq 197 c37
 w38:Sq 197 c37->Sq 100 c38
 w36:Sq 99 c35->Sq 39 c36
 w43:Sq 199 c29->Sq 103 c43
 w169:Sq 217 c168->Sq 117 ZwX
 w141:Sq 319 ZwM->Sq 275 c141
 w115:Sq 389 Zww->Sq 401 Zwx
 w107:Sq 278 Zwr->Sq 319 c107
 w100:Sq 322 Zwn
 w113:Sq 391 Zwv
 w73:Sq 178 c69->Sq 146 c71->Sq 179 c72->Sq 78 c73
 w69:Sq 262 c66->Sq 263 c67->Sq 264 c68->Sq 178 c69
 w60:Sq 407 c59->Sq 189 c57->Sq 400 c60
 w72:Sq 189 c57->Sq 179 c72
 w57:Sq 189 c57
 w59:Sq 189 c57->Sq 407 c59
 w67:Sq 189 c57->Sq 263 c67
 w81:Sq 269 c80->Sq 189 c57->Sq 192 c81
 w90:Sq 97 c87->Sq 96 c89->Sq 95 c90
 w89:Sq 92 c70->Sq 194 c88->Sq 96 c89
 w95:Sq 95 c90->Sq 96 c89->Sq 97 c87->Sq 98 c94->Sq 38 c95
set_option maxHeartbeats 100000000 in
theorem ws3:Ws3:=by
 refine ⟨(λq0=>Zf Zn (Zb q0 Zi) mixed {loops:=[(0,[.reg 6 (.own (.ol 2 (.flat Iq))),.reg 19 (.dat Iq)])]} Tryz.func114 (hvc:=?_)),
 (λq0=>Zf Zn (Zb q0 Zi) mixed {} Tryz.func371 (hvc:=?_)),
 (Zf Zn Zi mixed {} Tryz.func393 (hvc:=?_)),
 (λq0=>Zf Zn (Zb q0 Zi) mixed {loops:=[(0,[.reg 3 (.own (.ol 9 (.flat (.str)))),.reg 12 (.dat Iq)]),(2,[.reg 4 (.own (.ol 9 (.flat (.str)))),.reg 25 (.dat Iq)])]} Tryz.func202 (hvc:=?_)),
 (λq0=>Zf Zn (Zb q0 Zi) mixed {} Tryz.func276 (hvc:=?_)),
 (λq1 q0 q2=>Zf Zn (Zb q1 (Zb q0 (Zb q2 Zi))) mixed {loops:=[(0,[.reg 32 (.dat Iq),.ent 1 (nat_lit 2) (.flat Ztj.ety)]),(2,[.reg 50 (.dat Iq)])],draws:=[(13,[],.u 0 5 (.alt 5 (.op 6 .done) .done))]} Tryz.func46 (hvc:=?_)),
 (λq1 q0=>Zf Zn (Zb q1 (Zb q0 Zi)) mixed {loops:=[(0,[.reg 3 (.own (.ol 9 (.flat (.str)))),.reg 11 (.dat Iq)])]} Tryz.func116 (hvc:=?_)),
 (λq1 q0 q3 q2=>Zf Zn (Zb q1 (Zb q0 (Zb q3 (Zb q2 Zi)))) mixed {loops:=[(0,[.reg 3 (.own (.ol 9 (.flat (.str)))),.reg 8 (.dat Iq)])]} Tryz.func124 (hvc:=?_)),
 (λq0=>Zf Zn (Zb q0 Zi) mixed {} Tryz.func219 (hvc:=?_)),
 (λq0=>Zf Zn (Zb q0 Zi) mixed {loops:=[(0,[.reg 8 (.dat Iq)])]} Tryz.func208 (hvc:=?_)),
 (Zf Zn Zi mixed {} Tryz.func285 (hvc:=?_)),
 (λq0 q1=>Zf Zn (Zb q0 (Zb q1 Zi)) mixed {} Tryz.func220 (hvc:=?_)),
 (Zf Zn Zi mixed {} Tryz.func369 (hvc:=?_)),
 (λq0=>Zf Zn (Zb q0 Zi) mixed {} Tryz.func222 (hvc:=?_)),
 (Zf Zn Zi mixed {} Tryz.func225 (hvc:=?_)),
 (Zf Zn Zi mixed {} Tryz.func258 (hvc:=?_)),
 (λq0 q1=>Zf Zn (Zb q0 (Zb q1 Zi)) mixed {} Tryz.func119 (hvc:=?_)),
 (λq0 q1 q2=>Zf Zn (Zb q0 (Zb q1 (Zb q2 Zi))) mixed {} Tryz.func51 (hvc:=?_)),
 (λq0=>Zf Zn (Zb q0 Zi) mixed {loops:=[(0,[.reg 5 (.dat Iq)])],draws:=[(6,[],.u 0 8 (.alt 8 (.op 9 .done) .done))]} Tryz.func130 (hvc:=?_)),
 (Zf Zn Zi mixed {loops:=[(0,[.reg 5 (.dat Iq)])],draws:=[(6,[],.u 0 9 .done)]} Tryz.func233 (hvc:=?_)),
 (λq0=>Zf Zn (Zb q0 Zi) mixed {loops:=[(0,[.reg 5 (.dat Iq)])],draws:=[(6,[],.u 0 8 (.alt 8 (.op 9 .done) .done))]} Tryz.func290 (hvc:=?_)),
 (λq0=>Zf Zn (Zb q0 Zi) mixed {loops:=[(0,[.reg 5 (.dat Iq)])],draws:=[(6,[],.u 0 8 (.alt 8 (.op 9 .done) .done))]} Tryz.func132 (hvc:=?_)),
 (λq0=>Zf Zn (Zb q0 Zi) mixed {loops:=[(0,[.reg 5 (.dat Iq)])],draws:=[(6,[],.u 0 8 (.alt 8 (.op 9 .done) .done))]} Tryz.func361 (hvc:=?_)),
 (λq0=>Zf Zn (Zb q0 Zi) mixed {} Tryz.func133 (hvc:=?_)),
 (λq0=>Zf Zn (Zb q0 Zi) mixed {} Tryz.func312 (hvc:=?_)),
 (λq0 q1 q2=>Zf Zn (Zb q0 (Zb q1 (Zb q2 Zi))) mixed {} Tryz.func6 (hvc:=?_)),
 (λq0=>Zf Zn (Zb q0 Zi) mixed {loops:=[(0,[.reg 1 (.dat Iq),.reg 5 (.dat Iq)])]} Tryz.func35 (hvc:=?_)),
 (λq0=>Zf Zn (Zb q0 Zi) mixed {} Tryz.func30 (hvc:=?_)),
 (λq0=>Zf Zn (Zb q0 Zi) mixed {loops:=[(0,[.reg 1 (.dat Iq),.reg 5 (.dat Iq)])]} Tryz.func267 (hvc:=?_)),
 (λq0=>Zf Zn (Zb q0 Zi) mixed {loops:=[(0,[.reg 1 (.dat Iq),.reg 5 (.dat Iq)])]} Tryz.func85 (hvc:=?_)),
 (λq0=>Zf Zn (Zb q0 Zi) mixed {} Tryz.func367 (hvc:=?_)),
 (λq0=>Zf Zn (Zb q0 Zi) mixed {} Tryz.func86 (hvc:=?_)),
 (λq0=>Zf Zb7 (Zb q0 Zi) mixed {loops:=[(0,[.reg 4 (.dat Iq),.ent 0 (nat_lit 281) Zqk])]} Tryz.func99 (hvc:=?_)),
 (Zf Zn Zi mixed {} Tryz.func104 (hvc:=?_)),
 (λq0=>Zf Zn (Zb q0 Zi) mixed {} Tryz.func197 (hvc:=?_)),
 (λq0=>Zf Zb7 (Zb q0 Zi) mixed {loops:=[(0,[.reg 4 (.dat Iq),.ent 0 (nat_lit 192) ZeA])]} Tryz.func100 (hvc:=?_)),
 (λq0=>Zf Zb7 (Zb q0 Zi) mixed {} Tryz.func39 (hvc:=?_)),
 (λq0=>Zf Zn (Zb q0 Zi) mixed {} Tryz.func103 (hvc:=?_)),
 (λq0=>Zf Zn (Zb q0 Zi) mixed {} Tryz.func117 (hvc:=?_)),
 (λq0=>Zf Zn (Zb q0 Zi) mixed {} Tryz.func275 (hvc:=?_)),
 (λq0=>Zf Zn (Zb q0 Zi) mixed {loops:=[(0,[.reg 8 (.dat Iq)])]} Tryz.func401 (hvc:=?_)),
 (λq0=>Zf Zn (Zb q0 Zi) mixed {loops:=[(0,[.reg 8 (.dat Iq)])]} Tryz.func319 (hvc:=?_)),
 (Zf Zn Zi mixed {loops:=[(0,[.reg 8 (.dat Iq)])]} Tryz.func322 (hvc:=?_)),
 (Zf Zn Zi mixed {loops:=[(0,[.reg 3 (.dat Iq),.reg 4 (.dat Iq)])]} Tryz.func391 (hvc:=?_)),
 (λq0 q1 q2=>Zf Zn (Zb q0 (Zb q1 (Zb q2 Zi))) mixed {loops:=[(0,[.reg 3 (.dat Iq)])],draws:=[(6,[],.u 0 8 (.alt 8 (.op 9 (.alt 10 (.op 11 .done) .done)) .done))]} Tryz.func78 (hvc:=?_)),
 (λq0 q1 q2=>Zf Zn (Zb q0 (Zb q1 (Zb q2 Zi))) mixed {loops:=[(0,[.reg 5 (.own (.ol 9 (.flat (.str)))),.reg 6 (.dat Iq)]),(2,[.reg 7 (.own (.ol 9 (.flat (.str)))),.reg 8 (.dat Iq)]),(4,[.reg 10 (.dat Iq),.ent 6 (nat_lit 2) (.flat Ztj.ety)]),(6,[.reg 12 (.dat Iq),.ent 6 (nat_lit 2) (.flat Ztj.ety)]),(8,[.reg 13 (.dat Iq)])]} Tryz.func178 (hvc:=?_)),
 (λq0 q1=>Zf Zn (Zb q0 (Zb q1 Zi)) mixed {loops:=[(0,[.reg 3 (.dat Iq)])]} Tryz.func400 (hvc:=?_)),
 (λq0=>Zf Zn (Zb q0 Zi) mixed {loops:=[(0,[.reg 6 (.dat Iq)]),(2,[.reg 7 (.dat Iq)])]} Tryz.func179 (hvc:=?_)),
 (Zf Zn Zi mixed {} Tryz.func189 (hvc:=?_)),
 (λq0=>Zf Zn (Zb q0 Zi) mixed {loops:=[(0,[.reg 3 (.dat Iq)])],draws:=[(4,[],.u 0 4 (.alt 4 (.u 5 17 .done) .done))]} Tryz.func407 (hvc:=?_)),
 (λq0=>Zf Zn (Zb q0 Zi) mixed {loops:=[(0,[.reg 6 (.dat Iq)]),(2,[.reg 8 (.dat Iq)]),(4,[.reg 9 (.dat Iq)])],draws:=[(6,[],.u 0 6 (.alt 6 (.u 7 15 .done) .done))]} Tryz.func263 (hvc:=?_)),
 (λq0 q1=>Zf Zn (Zb q0 (Zb q1 Zi)) mixed {loops:=[(0,[.reg 7 (.dat Iq)])],draws:=[(4,[],.u 0 5 (.alt 5 (.op 6 (.alt 7 (.u 8 20 .done) .done)) .done))]} Tryz.func192 (hvc:=?_)),
 (λq0 q1=>Zf Zn (Zb q0 (Zb q1 Zi)) mixed {draws:=[(3,[],.u 0 7 (.u 9 6 (.op 18 (.alt 7 (.op 8 (.a [15,16] (.o [17,19,20] .done))) (.a [15,7] (.op 8 (.alt 16 (.o [17,19,20] .done) .done))))))),(7,[],.u 0 7 (.u 10 6 (.o [17,18,22,24] (.alt 7 (.o [8,9,16] (.a [19,20] (.o [21,23,25,26] .done))) (.a [19,7] (.o [8,9,16] (.alt 20 (.o [21,23,25,26] .done) .done)))))))]} Tryz.func95 (hvc:=?_)),
 (λq0 q1=>Zf Zn (Zb q0 (Zb q1 Zi)) mixed {draws:=[(1,[],.u 0 6 (.op 7 (.alt 6 (.o [8,9] (.alt 10 (.op 11 .done) .done)) .done)))]} Tryz.func96 (hvc:=?_)),
 (λq2 q3 q1 q0=>Zf Zn (Zb q2 (Zb q3 (Zb q1 (Zb q0 Zi)))) mixed {loops:=[(0,[.reg 5 (.dat (.str)),.reg 6 (.dat Iq)]),(2,[.reg 5 (.dat (.str)),.reg 7 (.dat Iq)]),(4,[.reg 5 (.dat (.str)),.reg 9 (.dat Iq)]),(6,[.reg 5 (.dat (.str)),.reg 11 (.dat Iq)]),(8,[.reg 5 (.dat (.str)),.reg 12 (.dat Iq)])],draws:=[(5,[],.u 0 9 (.alt 9 (.o [10,11,12] .done) .done)),(10,[],.u 0 5 (.u 8 7 (.u 16 12 (.alt 5 (.o [6,7,15] (.a [28,29] (.o [30,31,32] .done))) (.a [28,5] (.o [6,7,15] (.alt 29 (.o [30,31,32] .done) .done))))))),(15,[],.u 0 5 (.u 8 7 (.u 16 6 (.alt 5 (.o [6,7,15] (.a [22,23] (.o [24,25,26] .done))) (.a [22,5] (.o [6,7,15] (.alt 23 (.o [24,25,26] .done) .done))))))),(19,[],.u 0 8 (.alt 8 (.o [9,10,11] .done) .done)),(24,[],.u 0 13 (.a [13,14] (.o [15,16,17] .done)))]} Tryz.func38 (hvc:=?_))⟩
 all_goals
  intro a;repeat rcases a with ⟨_,a⟩
  rintro K ⟨r,h,hK⟩;repeat'
    conv=>whnf
    first
    | with_reducible refine Zsx ?_
    | with_reducible refine Zf3 (by assumption) (by assumption) (by assumption) ?_
    | with_reducible refine Zjl (by assumption) ?_
    | with_reducible refine Zgc (by assumption) ?_
    | (with_reducible refine shD ?_);first | refine Zph h (λh=>?_) (λh=>?_) | refine Ztl h (λh=>?_) (λh=>?_)
    | (with_reducible refine Ztb ?_);first | refine Zuv ?_ | refine Zpi ?_
    | (with_reducible refine Zwe ?_);first | refine ZqR h (λh=>?_) (λh=>?_) | refine Ztk h (λh=>?_) (λh=>?_)
    | (with_reducible refine Zta ?_);(refine ⟨λhd=>?_,?_⟩)<;>try subst hd
    | (with_reducible refine Zwg ?_);first | with_reducible refine Zfy h (λx hb h=>?_) | refine Zgc (by assumption) ?_ | with_reducible refine pG h (λhp h=>?_) | with_reducible refine pA h (λx ha hb hx h=>?_) | with_reducible refine pB h (λx hb h=>?_) | refine Zfy h (λx hb h=>?_)
    | (with_reducible refine Zwd ?_);first | with_reducible refine vAt h (λx ha hb hx h=>?_) | refine Zf3 (by assumption) (by assumption) (by assumption) ?_ | with_reducible refine pG h (λhp h=>?_) | with_reducible refine pA h (λx ha hb hx h=>?_) | with_reducible refine pB h (λx hb h=>?_) | refine vAt h (λx ha hb hx h=>?_)
    | (with_reducible refine Zs9 ?_);first | with_reducible refine ZoE h (λx hb h=>?_) | refine Zjl (by assumption) ?_ | with_reducible refine pG h (λhp h=>?_) | with_reducible refine pA h (λx ha hb hx h=>?_) | with_reducible refine pB h (λx hb h=>?_) | refine ZoE h (λx hb h=>?_)
    | with_reducible refine Zwf ?_
    | (with_reducible refine Zp6 ?_);refine Zqd h hK ?_;clear h hK;intro I μ v r h hK;(repeat rcases v with ⟨_,v⟩);(try dsimp only at h)
    | with_reducible refine ⟨by assumption,?_⟩
    | with_reducible refine orL ?_
    | with_reducible refine .inr ?_
    | (with_reducible refine Ztc ?_);first | refine ⟨?_,True.intro⟩ | refine ⟨?_,?_⟩
    | refine ⟨by kernel_rfl,?_⟩
    | refine ⟨by decide,?_⟩
    | with_reducible refine Ztm h (λhp h=>?_)
    | intro fp
    | exact trivial
    | with_reducible exact Zsw h
    | (refine pS h (λe=>?_));subst e;(repeat (first | exact hK | exact ⟨⟨rfl,rfl⟩,hK.1 _ rfl⟩ | (refine pR hK (λe hK=>?_));subst e));done
    | refine Ztm h (λhp h=>?_)
    | refine ⟨by assumption,?_⟩
    | with_reducible refine pG h (λhp h=>?_) | with_reducible refine pA h (λx ha hb hx h=>?_) | with_reducible refine pB h (λx hb h=>?_)
    | refine pG h (λhp h=>?_)
    | fail
theorem ZnS (rec0:(List Zc)->Int->Option YW) (hrec:Sq 190 (ZcT rec0)):Sq 190 (ZcT (JK rec0)):=by
 refine Zf Zn (Zb hrec Zi) mixed {} (fn:=Tryz.f190) Tryz.func190 (by kernel_rfl) (by kernel_rfl) ?_;rintro ⟨list0,k0,⟨⟩⟩ K ⟨r,h,hK⟩
 change JK rec0 list0 k0=some r at h
 unfold JK at h
 conv=>whnf
 refine vAt h (λx0 he0a he0b he0x h=>?_)
 conv=>whnf
 refine Zph h (λh=>?_) (λh=>?_)
 conv=>whnf
 cases h;exact hK
 conv=>whnf
 refine Zfy h (λr0 hb1 h=>?_)
 conv=>whnf
 refine Zph h (λh=>?_) (λh=>?_)
 conv=>whnf
 refine ⟨by decide,?_⟩
 conv=>whnf
 refine ZqR h (λh=>?_) (λh=>?_)
 conv=>whnf
 cases h;exact hK
 conv=>whnf
 cases h;exact hK
 conv=>whnf
 refine ZqR h (λh=>?_) (λh=>?_)
 conv=>whnf
 cases h;exact hK
 conv=>whnf
 cases h;exact hK
theorem w76:Sq 190 c76:=by
 have hn:∀ n,Sq 190 (ZcT (JL n)):=by
  intro n;induction n with
  | zero =>
  refine Zf Zn Zi mixed {} (fn:=Tryz.f190) Tryz.func190 (by kernel_rfl) (by kernel_rfl) ?_;rintro ⟨list0,k0,⟨⟩⟩ K ⟨r,h,hK⟩;cases h
  | succ n ih=>exact ZnS _ ih
 refine ⟨(hn 0).1,?_⟩;rintro w S vs ⟨list0,k0,⟨⟩⟩ fp K h1 h0 h2 h3 h4 ⟨r,h,hK⟩;obtain ⟨n,hr⟩:=ZlX h;exact (hn n).2 w S vs _ fp K h1 h0 h2 h3 h4 ⟨r,hr,hK⟩
end Go.Proofs.YtepbknolmhmipaaGreatDoor
