/-
  The functions keep their contracts, if what they call does. Printed by program.
-/
import Derived.Test.YtepbknolmhmipaaGreatDoorM
import Derived.KernelRfl
namespace Go.Proofs.YtepbknolmhmipaaGreatDoor
open Go Go.Sx
set_option maxRecDepth 100000
set_option maxHeartbeats 100000000
set_option linter.unusedVariables false
set_option linter.unusedSimpArgs false
structure Ws0:Prop where
 w130:Sq 343 ZwF->Sq 346 c130
 w131:Sq 345 Zwz->Sq 209 Zws->Sq 346 c130->Sq 318 c131
 w178:Sq 207 c96->Sq 279 Zw3
 w163:Sq 322 c99->Sq 299 ZwW
 w146:Sq 109 c146
 w171:Sq 109 c146->Sq 212 c171
 w111:Sq 402 ZvV->Sq 209 Zws->Sq 390 Zwt
 w205:Sq 242 Zxg->Sq 243 c203->Sq 244 Zxh->Sq 211 ZwY->Sq 148 Zxi
 w147:Sq 207 c96->Sq 208 Zun
 w101:Sq 281 c97->Sq 282 Zwn->Sq 216 Zwo
 w116:Sq 388 Zwx->Sq 370 c116
 w103:Sq 369 Zwp
 w188:Sq 207 c96->Sq 284 Zw8
 w237:Sq 226 c236->Sq 227 Zer->Sq 228 ZLu
 w98:Sq 341 c98
 w154:Sq 218 c154
 w238:Sq 227 Zer->Sq 228 ZLu->Sq 126 ZLl
 w200:Sq 115 Zw2->Sq 116 Zw6->Sq 117 ZvY->Sq 120 Zw9->Sq 121 Zxc->Sq 124 Zxe->Sq 48 Zxf
 w202:Sq 242 Zxg
 w214:Sq 307 Zxm
 w125:Sq 373 c124->Sq 343 ZwC
 w195:Sq 221 c194->Sq 121 Zxc
 w144:Sq 277 c143->Sq 205 ZwO
 w194:Sq 122 c193->Sq 221 c194
 w139:Sq 276 c138->Sq 319 c139
 w35:Sq 310 c34->Sq 262 c35
 w53:Sq 239 c16->Sq 365 c53
 w7:Sq 59 c2->Sq 386 c6->Sq 363 c7
 w55:Sq 239 c16->Sq 335 c54->Sq 303 c55
 w3:Sq 362 c3
 w247:Sq 178 c38->Sq 92 c13->Sq 189 c21->Sq 313 ZLA
 w244:Sq 194 ZLn
 w37:Sq 250 c20->Sq 264 c37
 w36:Sq 189 c21->Sq 263 c36
 w18:Sq 292 c10->Sq 293 c12->Sq 146 c14->Sq 145 c17->Sq 235 c18
 w59:Sq 254 c56->Sq 255 c57->Sq 162 c58->Sq 156 c59
 w68:Sq 302 c68
 w74:Sq 160 c74
 w62:Sq 92 c13->Sq 189 c21->Sq 152 c62
 w46:Sq 193 c46
 w23:Sq 189 c21->Sq 188 c23
 w26:Sq 235 c18->Sq 59 c2->Sq 92 c13->Sq 236 c19->Sq 90 c25->Sq 138 c26
 w51:Sq 155 c51
 w81:Sq 17 c79->Sq 67 c78->Sq 174 c80->Sq 73 c81
set_option maxHeartbeats 100000000 in
theorem ws0:Ws0:=by
 refine ⟨(λq0=>Zf Zn (Zb q0 Zi) mixed {} Tryz.func346 (hvc:=?_)),
 (λq0 q1 q2=>Zf Zn (Zb q0 (Zb q1 (Zb q2 Zi))) mixed {loops:=[(0,[.reg 3 (.dat Iq),.reg 9 (.dat Iq)])],draws:=[(10,[],.u 0 7 (.alt 7 (.u 8 6 (.alt 14 (.o [15,16] .done) .done)) .done)),(12,[],.u 0 10 (.alt 10 (.u 11 4 (.op 16 (.a [15,17] (.o [18,19,20] .done)))) .done))]} Tryz.func318 (hvc:=?_)),
 (λq0=>Zf Zn (Zb q0 Zi) mixed {} Tryz.func279 (hvc:=?_)),
 (λq0=>Zf Zn (Zb q0 Zi) mixed {} Tryz.func299 (hvc:=?_)),
 (Zf Zn Zi mixed {loops:=[(0,[.reg 3 (.own (.ol 185 (.flat (ZhI)))),.reg 13 (.dat Iq)]),(2,[.reg 3 (.own (.ol 185 (.flat (ZhI)))),.reg 21 (.dat Iq)]),(4,[.reg 3 (.own (.ol 185 (.flat (ZhI)))),.reg 44 (.dat Iq)])]} Tryz.func109 (hvc:=?_)),
 (λq0=>Zf Zn (Zb q0 Zi) mixed {loops:=[(0,[.reg 5 (.own (.ol 2 (.flat Iq))),.reg 11 (.dat Iq)])]} Tryz.func212 (hvc:=?_)),
 (λq1 q0=>Zf Zn (Zb q1 (Zb q0 Zi)) mixed {} Tryz.func390 (hvc:=?_)),
 (λq2 q0 q1 q3=>Zf Zb7 (Zb q2 (Zb q0 (Zb q1 (Zb q3 Zi)))) mixed {loops:=[(0,[.reg 22 (.dat Iq),.cello 1003 3 (.ol 158 (Zdf))])],draws:=[(1,[],.o [0,1,3,4,6,7,9,10] (.alt 2 (.alt 5 (.alt 8 (.alt 11 (.op 12 (.a [13,14] .done)) (.a [13,11] (.op 12 (.d 14)))) (.a [13,8,11] (.op 12 (.d 14)))) (.a [13,5,8,11] (.op 12 (.d 14)))) (.a [13,2,5,8,11] (.op 12 (.d 14))))),(5,[],.u 0 8 (.o [9,10,12,13] (.a [8,11,14] (.op 15 (.a [16,17] (.op 18 (.d 19)))))))]} Tryz.func148 (hvc:=?_)),
 (λq0=>Zf Zn (Zb q0 Zi) mixed {loops:=[(0,[.reg 8 (.dat Iq)])]} Tryz.func208 (hvc:=?_)),
 (λq1 q0=>Zf Zn (Zb q1 (Zb q0 Zi)) mixed {loops:=[(0,[.reg 7 (.dat Iq)])]} Tryz.func216 (hvc:=?_)),
 (λq0=>Zf Zn (Zb q0 Zi) mixed {} Tryz.func370 (hvc:=?_)),
 (Zf Zn Zi mixed {} Tryz.func369 (hvc:=?_)),
 (λq0=>Zf Zn (Zb q0 Zi) mixed {} Tryz.func284 (hvc:=?_)),
 (λq0 q1=>Zf Zn (Zb q0 (Zb q1 Zi)) mixed {loops:=[(0,[.reg 13 (.dat Iq),.ent 0 (nat_lit 9) (.flat Zwh.ety)])]} Tryz.func228 (hvc:=?_)),
 (Zf Zn Zi mixed {} Tryz.func341 (hvc:=?_)),
 (Zf Zn Zi mixed {} Tryz.func218 (hvc:=?_)),
 (λq0 q1=>Zf Zn (Zb q0 (Zb q1 Zi)) mixed {} Tryz.func126 (hvc:=?_)),
 (λq2 q5 q1 q3 q0 q4=>Zf Zn (Zb q2 (Zb q5 (Zb q1 (Zb q3 (Zb q0 (Zb q4 Zi)))))) mixed {} Tryz.func48 (hvc:=?_)),
 (Zf Zn Zi mixed {} Tryz.func242 (hvc:=?_)),
 (Zf Zn Zi mixed {} Tryz.func307 (hvc:=?_)),
 (λq0=>Zf Zn (Zb q0 Zi) mixed {} Tryz.func343 (hvc:=?_)),
 (λq0=>Zf Zn (Zb q0 Zi) mixed {} Tryz.func121 (hvc:=?_)),
 (λq0=>Zf Zn (Zb q0 Zi) mixed {} Tryz.func205 (hvc:=?_)),
 (λq0=>Zf Zn (Zb q0 Zi) mixed {loops:=[(0,[.reg 8 (.dat Iq)])]} Tryz.func221 (hvc:=?_)),
 (λq0=>Zf Zn (Zb q0 Zi) mixed {loops:=[(0,[.reg 8 (.dat Iq)])]} Tryz.func319 (hvc:=?_)),
 (λq0=>Zf Zn (Zb q0 Zi) mixed {loops:=[(0,[.reg 3 (.dat Iq)]),(2,[.reg 4 (.dat Iq)])],draws:=[(9,[],.u 0 13 .done)]} Tryz.func262 (hvc:=?_)),
 (λq0=>Zf Zn (Zb q0 Zi) mixed {draws:=[(1,[],.o [0,1,3,4,6,7] (.a [2,5,8] (.op 9 (.d 10))))]} Tryz.func365 (hvc:=?_)),
 (λq1 q0=>Zf Zb7 (Zb q1 (Zb q0 Zi)) mixed {} Tryz.func363 (hvc:=?_)),
 (λq1 q0=>Zf Zb7 (Zb q1 (Zb q0 Zi)) mixed {loops:=[(0,[.reg 4 (.dat Iq),.cello 1003 3 (.ol 296 (Zup))])],draws:=[(1,[],.o [0,2,5,6,8,11,13] (.l [1,3,9,12,14] (.alt 4 (.alt 7 (.alt 10 (.op 15 (.a [16,17] .done)) (.a [16,10] (.op 15 (.d 17)))) (.a [16,7,10] (.op 15 (.d 17)))) (.a [16,4,7,10] (.op 15 (.d 17))))))]} Tryz.func303 (hvc:=?_)),
 (Zf Zn Zi mixed {loops:=[(0,[.reg 5 (.dat (.bool)),.reg 6 (.dat (.bool)),.reg 8 (.dat Iq)])],draws:=[(7,[],.u 0 17 .done),(8,[],.u 0 17 .done)]} Tryz.func362 (hvc:=?_)),
 (λq1 q0 q2=>Zf Zn (Zb q1 (Zb q0 (Zb q2 Zi))) mixed {} Tryz.func313 (hvc:=?_)),
 (Zf Zn Zi mixed {draws:=[(4,[],.u 0 17 .done)]} Tryz.func194 (hvc:=?_)),
 (λq0=>Zf Zn (Zb q0 Zi) mixed {loops:=[(0,[.reg 3 (.dat Iq)]),(2,[.reg 4 (.dat Iq)])],draws:=[(9,[],.u 0 9 .done)]} Tryz.func264 (hvc:=?_)),
 (λq0=>Zf Zn (Zb q0 Zi) mixed {loops:=[(0,[.reg 6 (.dat Iq)]),(2,[.reg 8 (.dat Iq)]),(4,[.reg 9 (.dat Iq)])],draws:=[(6,[],.u 0 6 (.alt 6 (.u 7 15 .done) .done))]} Tryz.func263 (hvc:=?_)),
 (λq2 q3 q1 q0=>Zf Zb7 (Zb q2 (Zb q3 (Zb q1 (Zb q0 Zi)))) mixed {loops:=[(0,[.reg 9 (.own (.ol 67 (Zql))),.reg 10 (.dat Iq),.cell 0 0 (.sl (.int .u8)),.cell 0 1 Iq,.cell 0 2 Iq])]} Tryz.func235 (hvc:=?_)),
 (λq0 q2 q1=>Zf Zb7 (Zb q0 (Zb q2 (Zb q1 Zi))) mixed {loops:=[(0,[.reg 4 (.dat Iq),.cello 1003 4 (.ol 67 (Zql))])],draws:=[(1,[],.o [0,1,3,4] (.alt 2 (.alt 5 (.op 6 (.a [7,8] .done)) (.a [7,5] (.op 6 (.d 8)))) (.a [7,2,5] (.op 6 (.d 8))))),(5,[],.u 0 7 (.a [7,8,9] (.op 10 (.d 11))))]} Tryz.func156 (hvc:=?_)),
 (Zf Zn Zi mixed {} Tryz.func302 (hvc:=?_)),
 (Zf Zb7 Zi mixed {draws:=[(3,[],.u 0 11 (.d 11))]} Tryz.func160 (hvc:=?_)),
 (λq0 q1=>Zf Zn (Zb q0 (Zb q1 Zi)) mixed {draws:=[(9,[],.u 0 4 (.alt 4 (.u 5 5 (.alt 10 (.u 11 13 (.alt 24 (.o [25,26] .done) .done)) .done)) .done))]} Tryz.func152 (hvc:=?_)),
 (Zf Zn Zi mixed {} Tryz.func193 (hvc:=?_)),
 (λq0=>Zf Zn (Zb q0 Zi) mixed {} Tryz.func188 (hvc:=?_)),
 (λq2 q3 q0 q4 q1=>Zf Zb7 (Zb q2 (Zb q3 (Zb q0 (Zb q4 (Zb q1 Zi))))) mixed {loops:=[(0,[.reg 9 (.dat Iq),.cell 1000 0 (.sl (.int .u8)),.cell 1000 1 Iq,.cell 1000 2 Iq,.cello 1008 0 (.ol 154 (.flat (Xh)))]),(2,[.reg 11 (.own (.ol 164 (.flat (Yx)))),.reg 12 (.own (.ol 164 (.flat (Yx)))),.reg 13 (.dat Iq),.cell 1000 0 (.sl (.int .u8)),.cell 1000 1 Iq,.cell 1000 2 Iq]),(5,[.reg 17 (.own (.ol 158 (Zdf))),.reg 18 (.dat Iq),.cell 1000 0 (.sl (.int .u8)),.cell 1000 1 Iq,.cell 1000 2 Iq])],draws:=[(17,[],.o [1,2] (.ld 4 (.alt 0 (.alt 3 (.a [5,6] (.op 7 (.d 8))) (.a [5,3,6] (.op 7 (.d 8)))) (.a [5,0,3,6] (.op 7 (.d 8)))))),(48,[],.op 0 (.alt 1 (.a [2,3] .done) (.a [2,1,3] .done)))]} Tryz.func138 (hvc:=?_)),
 (Zf Zn Zi mixed {loops:=[(0,[.reg 5 (.own (.ol 164 (.flat (Yx)))),.reg 6 (.dat Iq)])]} Tryz.func155 (hvc:=?_)),
 (λq0 q2 q1=>Zf Zb7 (Zb q0 (Zb q2 (Zb q1 Zi))) mixed {draws:=[(4,[],.o [0,1,4,5] (.alt 2 (.alt 3 (.a [6,7,8,9] (.op 10 .done)) (.alt 6 (.alt 3 (.a [7,8,9] (.op 10 .done)) (.a [7,3,8,9] (.op 10 .done))) .done)) (.a [3,2,6,7,8,9] (.op 10 .done))))]} Tryz.func73 (hvc:=?_))⟩
 all_goals
  intro a;repeat rcases a with ⟨_,a⟩
  rintro K ⟨r,h,hK⟩;repeat'
    conv=>whnf
    first
    | with_reducible refine Zsx ?_
    | with_reducible refine Zf3 (by assumption) (by assumption) (by assumption) ?_
    | with_reducible refine Zjl (by assumption) ?_
    | with_reducible refine Zgc (by assumption) ?_
    | (with_reducible refine shD ?_);first | refine Zph h (λh=>?_) (λh=>?_) | refine Ztl h (λh=>?_) (λh=>?_)
    | (with_reducible refine Ztb ?_);first | refine Zuv ?_ | refine Zpi ?_
    | (with_reducible refine Zwe ?_);first | refine ZqR h (λh=>?_) (λh=>?_) | refine Ztk h (λh=>?_) (λh=>?_)
    | (with_reducible refine Zta ?_);(refine ⟨λhd=>?_,?_⟩)<;>try subst hd
    | (with_reducible refine Zwg ?_);first | with_reducible refine Zfy h (λx hb h=>?_) | refine Zgc (by assumption) ?_ | with_reducible refine pG h (λhp h=>?_) | with_reducible refine pA h (λx ha hb hx h=>?_) | with_reducible refine pB h (λx hb h=>?_) | refine Zfy h (λx hb h=>?_)
    | (with_reducible refine Zwd ?_);first | with_reducible refine vAt h (λx ha hb hx h=>?_) | refine Zf3 (by assumption) (by assumption) (by assumption) ?_ | with_reducible refine pG h (λhp h=>?_) | with_reducible refine pA h (λx ha hb hx h=>?_) | with_reducible refine pB h (λx hb h=>?_) | refine vAt h (λx ha hb hx h=>?_)
    | (with_reducible refine Zs9 ?_);first | with_reducible refine ZoE h (λx hb h=>?_) | refine Zjl (by assumption) ?_ | with_reducible refine pG h (λhp h=>?_) | with_reducible refine pA h (λx ha hb hx h=>?_) | with_reducible refine pB h (λx hb h=>?_) | refine ZoE h (λx hb h=>?_)
    | with_reducible refine Zwf ?_
    | (with_reducible refine Zp6 ?_);refine Zqd h hK ?_;clear h hK;intro I μ v r h hK;(repeat rcases v with ⟨_,v⟩);(try dsimp only at h)
    | with_reducible refine ⟨by assumption,?_⟩
    | with_reducible refine orL ?_
    | with_reducible refine .inr ?_
    | (with_reducible refine Ztc ?_);first | refine ⟨?_,True.intro⟩ | refine ⟨?_,?_⟩
    | refine ⟨by kernel_rfl,?_⟩
    | refine ⟨by decide,?_⟩
    | with_reducible refine Ztm h (λhp h=>?_)
    | intro fp
    | exact trivial
    | with_reducible exact Zsw h
    | (refine pS h (λe=>?_));subst e;(repeat (first | exact hK | exact ⟨⟨rfl,rfl⟩,hK.1 _ rfl⟩ | (refine pR hK (λe hK=>?_));subst e));done
    | refine Ztm h (λhp h=>?_)
    | refine ⟨by assumption,?_⟩
    | with_reducible refine pG h (λhp h=>?_) | with_reducible refine pA h (λx ha hb hx h=>?_) | with_reducible refine pB h (λx hb h=>?_)
    | refine pG h (λhp h=>?_)
    | fail
theorem ZnS (rec0:(List Zc)->Int->Option YW) (hrec:Sq 190 (ZcT rec0)):Sq 190 (ZcT (JK rec0)):=by
 refine Zf Zn (Zb hrec Zi) mixed {} (fn:=Tryz.f190) Tryz.func190 (by kernel_rfl) (by kernel_rfl) ?_;rintro ⟨list0,k0,⟨⟩⟩ K ⟨r,h,hK⟩
 change JK rec0 list0 k0=some r at h
 unfold JK at h
 conv=>whnf
 refine vAt h (λx0 he0a he0b he0x h=>?_)
 conv=>whnf
 refine Zph h (λh=>?_) (λh=>?_)
 conv=>whnf
 cases h;exact hK
 conv=>whnf
 refine Zfy h (λr0 hb1 h=>?_)
 conv=>whnf
 refine Zph h (λh=>?_) (λh=>?_)
 conv=>whnf
 refine ⟨by decide,?_⟩
 conv=>whnf
 refine ZqR h (λh=>?_) (λh=>?_)
 conv=>whnf
 cases h;exact hK
 conv=>whnf
 cases h;exact hK
 conv=>whnf
 refine ZqR h (λh=>?_) (λh=>?_)
 conv=>whnf
 cases h;exact hK
 conv=>whnf
 cases h;exact hK
theorem w24:Sq 190 c24:=by
 have hn:∀ n,Sq 190 (ZcT (JL n)):=by
  intro n;induction n with
  | zero =>
  refine Zf Zn Zi mixed {} (fn:=Tryz.f190) Tryz.func190 (by kernel_rfl) (by kernel_rfl) ?_;rintro ⟨list0,k0,⟨⟩⟩ K ⟨r,h,hK⟩;cases h
  | succ n ih=>exact ZnS _ ih
 refine ⟨(hn 0).1,?_⟩;rintro w S vs ⟨list0,k0,⟨⟩⟩ fp K h1 h0 h2 h3 h4 ⟨r,h,hK⟩;obtain ⟨n,hr⟩:=ZlX h;exact (hn n).2 w S vs _ fp K h1 h0 h2 h3 h4 ⟨r,hr,hK⟩
end Go.Proofs.YtepbknolmhmipaaGreatDoor
