/-
  The functions keep their contracts, if what they call does. Printed by program.
-/
import Derived.Test.YtioiomifapgimaaGreatDoorM
import Derived.KernelRfl
namespace Go.Proofs.YtioiomifapgimaaGreatDoor
open Go Go.Sx
set_option maxRecDepth 100000
set_option maxHeartbeats 100000000
set_option linter.unusedVariables false
set_option linter.unusedSimpArgs false
structure Ws1:Prop where
 w123:Sq 277 ZzQ->Sq 278 c117->Sq 279 Zz0->Sq 280 Zz1->Sq 261 Zyq->Sq 33 c97->Sq 258 Zz2
 w142:Sq 216 ZAb->Sq 33 c97->Sq 124 c141->Sq 167 ZAe
 w179:Sq 36 ZAt->Sq 35 Zys
 w146:Sq 165 Zz9->Sq 166 ZAa->Sq 167 ZAe->Sq 168 c138->Sq 169 c145->Sq 121 c146
 w143:Sq 170 c143
 w156:Sq 33 c97->Sq 159 ZAi->Sq 109 c156
 w112:Sq 301 ZzU->Sq 70 c109->Sq 292 ZzV
 w149:Sq 71 c105->Sq 33 c97->Sq 171 c148->Sq 70 c109->Sq 122 ZAg
 w117:Sq 290 c116->Sq 278 c117
 w109:Sq 124 ZzS->Sq 70 c109
 w106:Sq 33 c97->Sq 125 ZzR
 w176:Sq 62 Zzj->Sq 63 ZAo->Sq 64 c171->Sq 65 c175->Sq 27 ZAr
 w166:Sq 164 ZAm
 w136:Sq 216 ZAb
 w157:Sq 109 c156->Sq 33 c97->Sq 108 c157
 w211:Sq 53 c210->Sq 20 ZAO
 w196:Sq 234 ZAE->Sq 196 c196
 w199:Sq 91 c198->Sq 50 ZAH
 w204:Sq 149 c203->Sq 94 ZAK
 w227:Sq 24 c227
 w225:Sq 22 ZAX
 w214:Sq 101 Zya
 w213:Sq 151 c212->Sq 152 c213
 w220:Sq 151 c212->Sq 99 ZAT
 w212:Sq 151 c212
 w6:Sq 222 c5->Sq 175 c6
 w7:Sq 174 c1->Sq 175 c6->Sq 131 c2->Sq 128 c7
 w10:Sq 131 c2->Sq 129 c10
 w9:Sq 74 c8->Sq 38 c9
 w0:Sq 221 c0
 w16:Sq 131 c2->Sq 78 c16
 w41:Sq 48 c40->Sq 17 c41
 w38:Sq 45 c29->Sq 46 c35->Sq 47 c37->Sq 16 c38
 w27:Sq 193 c21->Sq 194 c26->Sq 146 c22->Sq 143 c27
 w28:Sq 143 c27->Sq 85 c28
 w33:Sq 145 c33
 w24:Sq 266 c23->Sq 251 c24
 w37:Sq 89 c36->Sq 47 c37
 w159:Sq 158 ZAj->Sq 107 c159
 w116:Sq 300 ZzY->Sq 290 c116
 w100:Sq 263 ZzN
 w184:Sq 126 ZAu->Sq 127 c183->Sq 72 ZAw
 w51:Sq 248 c44->Sq 224 c42->Sq 42 c43->Sq 249 c49->Sq 250 c50->Sq 223 c51
 w43:Sq 42 c43
 w45:Sq 42 c43->Sq 302 c45
 w54:Sq 224 c42->Sq 178 c54
 w57:Sq 179 c56->Sq 134 c57
 w74:Sq 154 c72->Sq 179 c56->Sq 134 c57->Sq 183 c73->Sq 139 c74
 w86:Sq 226 c82->Sq 229 c83->Sq 228 c84->Sq 227 c85->Sq 187 c86
 w63:Sq 180 c63
 w64:Sq 136 c62->Sq 180 c63->Sq 135 c64
 w78:Sq 184 c76->Sq 185 c77->Sq 140 c78
 w93:Sq 140 c78->Sq 187 c86->Sq 189 c87->Sq 188 c88->Sq 190 c90->Sq 186 c80->Sq 192 c91->Sq 191 c92->Sq 142 c93
 w80:Sq 81 c67->Sq 225 c79->Sq 186 c80
 w91:Sq 186 c80->Sq 192 c91
 w81:Sq 140 c78->Sq 186 c80->Sq 141 c81
 w94:Sq 140 c78->Sq 141 c81->Sq 142 c93->Sq 84 c94
set_option maxHeartbeats 100000000 in
theorem ws1:Ws1:=by
 refine ⟨(λq4 q3 q2 q0 q1 q5=>Zf Zr (Zb q4 (Zb q3 (Zb q2 (Zb q0 (Zb q1 (Zb q5 Zi)))))) mixed {draws:=[(2,[],.u 0 12 (.alt 12 (.u 13 5 (.alt 18 (.u 19 11 (.alt 30 (.u 31 9 .done) .done)) .done)) .done)),(3,[],.o [0,1] (.alt 2 (.u 3 4 (.alt 7 (.u 8 6 (.alt 14 (.u 15 6 (.alt 21 (.o [22,23] .done) .done)) .done)) .done)) .done))]} Tryz.func258 (hvc:=?_)),
 (λq1 q2 q0=>Zf Zr (Zb q1 (Zb q2 (Zb q0 Zi))) mixed {draws:=[(1,[],.u 0 4 (.alt 4 (.op 5 (.alt 6 (.u 7 18 (.alt 25 (.o [26,27,28] .done) .done)) .done)) .done))]} Tryz.func167 (hvc:=?_)),
 (λq0=>Zf Zr (Zb q0 Zi) mixed {} Tryz.func35 (hvc:=?_)),
 (λq4 q2 q1 q3 q0=>Zf Zr (Zb q4 (Zb q2 (Zb q1 (Zb q3 (Zb q0 Zi))))) mixed {loops:=[(0,[.reg 25 (.dat Iq),.ent 2 (nat_lit 3) (.flat ZuH.ety)]),(2,[.reg 51 (.dat Iq),.ent 2 (nat_lit 3) (.flat ZuH.ety)])]} Tryz.func121 (hvc:=?_)),
 (Zf Zr Zi mixed {} Tryz.func170 (hvc:=?_)),
 (λq0 q1=>Zf Zr (Zb q0 (Zb q1 Zi)) mixed {} Tryz.func109 (hvc:=?_)),
 (λq1 q0=>Zf Zr (Zb q1 (Zb q0 Zi)) mixed {} Tryz.func292 (hvc:=?_)),
 (λq0 q3 q1 q2=>Zf Zr (Zb q0 (Zb q3 (Zb q1 (Zb q2 Zi)))) mixed {} Tryz.func122 (hvc:=?_)),
 (λq0=>Zf Zr (Zb q0 Zi) mixed {} Tryz.func278 (hvc:=?_)),
 (λq0=>Zf Zr (Zb q0 Zi) mixed {} Tryz.func70 (hvc:=?_)),
 (λq0=>Zf Zr (Zb q0 Zi) mixed {} Tryz.func125 (hvc:=?_)),
 (λq2 q0 q3 q1=>Zf Zr (Zb q2 (Zb q0 (Zb q3 (Zb q1 Zi)))) mixed {loops:=[(0,[.reg 4 (.own (.ol 2 (.flat Iq))),.reg 5 (.own (.ol 2 (.flat Iq))),.reg 16 (.dat Iq),.ent 0 (nat_lit 77) (Dp.ol (2:Go.TypeId) (Dp.flat (Ty.int IntKind.i64)))])]} Tryz.func27 (hvc:=?_)),
 (Zf Zr Zi mixed {loops:=[(0,[.reg 9 (.dat Iq),.reg 15 (.dat Iq)])]} Tryz.func164 (hvc:=?_)),
 (Zf Zr Zi mixed {} Tryz.func216 (hvc:=?_)),
 (λq0 q1=>Zf Zr (Zb q0 (Zb q1 Zi)) mixed {} Tryz.func108 (hvc:=?_)),
 (λq0=>Zf Zr (Zb q0 Zi) mixed {loops:=[(0,[.reg 5 (.dat Iq)])],draws:=[(6,[],.u 0 8 (.alt 8 (.op 9 .done) .done))]} Tryz.func20 (hvc:=?_)),
 (λq0=>Zf Zr (Zb q0 Zi) mixed {loops:=[(0,[.reg 5 (.dat Iq)])],draws:=[(6,[],.u 0 8 (.alt 8 (.op 9 .done) .done))]} Tryz.func196 (hvc:=?_)),
 (λq0=>Zf Zr (Zb q0 Zi) mixed {} Tryz.func50 (hvc:=?_)),
 (λq0=>Zf Zr (Zb q0 Zi) mixed {loops:=[(0,[.reg 5 (.dat Iq)])],draws:=[(6,[],.u 0 8 (.alt 8 (.op 9 .done) .done))]} Tryz.func94 (hvc:=?_)),
 (Zf Zr Zi mixed {loops:=[(0,[.reg 1 (.dat Iq),.reg 5 (.dat Iq)])]} Tryz.func24 (hvc:=?_)),
 (Zf YS Zi mixed {loops:=[(0,[.reg 1 (.dat Iq),.reg 5 (.dat Iq),.ent 0 (nat_lit 106) (.flat Zy)])]} Tryz.func22 (hvc:=?_)),
 (Zf YS Zi mixed {loops:=[(0,[.reg 1 (.dat Iq),.reg 5 (.dat Iq),.ent 0 (nat_lit 2) (.flat (Ty.int IntKind.i64))])]} Tryz.func101 (hvc:=?_)),
 (λq0=>Zf YS (Zb q0 Zi) mixed {loops:=[(0,[.reg 1 (.dat Iq),.reg 5 (.dat Iq),.ent 0 (nat_lit 241) (.flat Zdh)])]} Tryz.func152 (hvc:=?_)),
 (λq0=>Zf YS (Zb q0 Zi) mixed {loops:=[(0,[.reg 1 (.dat Iq),.reg 5 (.dat Iq),.ent 0 (nat_lit 9) (.flat Ty.str)])]} Tryz.func99 (hvc:=?_)),
 (Zf Zr Zi mixed {loops:=[(0,[.reg 0 (.dat Iq),.reg 3 (.dat (.str))])]} Tryz.func151 (hvc:=?_)),
 (λq0=>Zf Zr (Zb q0 Zi) mixed {loops:=[(0,[.reg 1 (.dat Iq),.reg 5 (.dat Iq)])]} Tryz.func175 (hvc:=?_)),
 (λq1 q2 q0=>Zf Zr (Zb q1 (Zb q2 (Zb q0 Zi))) mixed {} Tryz.func128 (hvc:=?_)),
 (λq0=>Zf Zr (Zb q0 Zi) mixed {} Tryz.func129 (hvc:=?_)),
 (λq0=>Zf Zr (Zb q0 Zi) mixed {} Tryz.func38 (hvc:=?_)),
 (Zf Zr Zi mixed {} Tryz.func221 (hvc:=?_)),
 (λq0=>Zf Zr (Zb q0 Zi) mixed {} Tryz.func78 (hvc:=?_)),
 (λq0=>Zf Zr (Zb q0 Zi) mixed {loops:=[(0,[.reg 4 (.dat Iq),.ent 0 (nat_lit 106) (.flat ZzG.ety)])]} Tryz.func17 (hvc:=?_)),
 (λq0 q1 q2=>Zf YS (Zb q0 (Zb q1 (Zb q2 Zi))) mixed {} Tryz.func16 (hvc:=?_)),
 (λq1 q2 q0=>Zf YS (Zb q1 (Zb q2 (Zb q0 Zi))) mixed {} Tryz.func143 (hvc:=?_)),
 (λq0=>Zf YS (Zb q0 Zi) mixed {loops:=[(0,[.reg 4 (.dat Iq),.ent 0 (nat_lit 139) Zod])]} Tryz.func85 (hvc:=?_)),
 (Zf Zr Zi mixed {} Tryz.func145 (hvc:=?_)),
 (λq0=>Zf YS (Zb q0 Zi) mixed {loops:=[(0,[.reg 4 (.dat Iq),.ent 0 (nat_lit 317) Zf1])]} Tryz.func251 (hvc:=?_)),
 (λq0=>Zf YS (Zb q0 Zi) mixed {loops:=[(0,[.reg 4 (.dat Iq),.ent 0 (nat_lit 162) Zof])]} Tryz.func47 (hvc:=?_)),
 (λq0=>Zf Zr (Zb q0 Zi) mixed {} Tryz.func107 (hvc:=?_)),
 (λq0=>Zf Zr (Zb q0 Zi) mixed {} Tryz.func290 (hvc:=?_)),
 (Zf Zr Zi mixed {loops:=[(0,[.reg 8 (.dat Iq)])]} Tryz.func263 (hvc:=?_)),
 (λq0 q1=>Zf YS (Zb q0 (Zb q1 Zi)) mixed {loops:=[(0,[.reg 7 (.dat Iq),.reg 8 (.dat Iq),.ent 0 (nat_lit 49) (.flat Yr)]),(2,[.reg 6 (.dat Iq),.ent 0 (nat_lit 49) (.flat Yr)]),(4,[.reg 7 (.dat Iq),.reg 8 (.dat Iq),.ent 0 (nat_lit 49) (.flat Yr)])]} Tryz.func72 (hvc:=?_)),
 (λq1 q2 q4 q3 q0=>Zf Zr (Zb q1 (Zb q2 (Zb q4 (Zb q3 (Zb q0 Zi))))) mixed {loops:=[(0,[.reg 5 (.dat Iq)]),(2,[.reg 7 (.dat Iq)]),(5,[.reg 9 (.dat Iq)])],draws:=[(13,[],.u 0 31 .done),(25,[],.u 0 26 .done)]} Tryz.func223 (hvc:=?_)),
 (Zf Zr Zi mixed {} Tryz.func42 (hvc:=?_)),
 (λq0=>Zf Zr (Zb q0 Zi) mixed {loops:=[(0,[.reg 3 (.dat Iq)])],draws:=[(4,[],.u 0 4 (.alt 4 (.u 5 17 .done) .done))]} Tryz.func302 (hvc:=?_)),
 (λq0=>Zf Zr (Zb q0 Zi) mixed {loops:=[(0,[.reg 3 (.dat Iq)]),(2,[.reg 4 (.dat Iq)])],draws:=[(9,[],.u 0 9 .done)]} Tryz.func178 (hvc:=?_)),
 (λq0=>Zf Zr (Zb q0 Zi) mixed {loops:=[(0,[.reg 5 (.own (.ol 2 (.flat Iq))),.reg 7 (.dat Iq)])]} Tryz.func134 (hvc:=?_)),
 (λq2 q0 q1 q3=>Zf Zr (Zb q2 (Zb q0 (Zb q1 (Zb q3 Zi)))) mixed {loops:=[(0,[.reg 9 (.dat Iq),.ent 2 (nat_lit 2) (.flat (Ty.int IntKind.i64))]),(2,[.reg 10 (.dat Iq),.ent 2 (nat_lit 2) (.flat (Ty.int IntKind.i64))])],draws:=[(8,[],.u 0 19 (.alt 19 (.o [20,21] (.d 22)) .done)),(12,[],.u 0 14 (.d 14))]} Tryz.func139 (hvc:=?_)),
 (λq1 q2 q0 q3=>Zf Zr (Zb q1 (Zb q2 (Zb q0 (Zb q3 Zi)))) mixed {loops:=[(0,[.reg 7 (.own (.ol 2 (.flat Iq))),.reg 8 (.dat Iq)])],draws:=[(5,[],.u 0 8 (.a [8,9,10,11,12] (.op 13 .done)))]} Tryz.func187 (hvc:=?_)),
 (Zf Zr Zi mixed {} Tryz.func180 (hvc:=?_)),
 (λq1 q0=>Zf Zr (Zb q1 (Zb q0 Zi)) mixed {loops:=[(0,[.reg 6 (.dat Iq),.ent 1 (nat_lit 2) (.flat ZqU.ety)]),(2,[.reg 7 (.dat (.bool)),.reg 8 (.dat Iq),.ent 1 (nat_lit 2) (.flat ZqU.ety)]),(4,[.reg 10 (.dat Iq),.reg 12 (.dat Iq)])]} Tryz.func135 (hvc:=?_)),
 (λq1 q0=>Zf Zr (Zb q1 (Zb q0 Zi)) mixed {draws:=[(3,[],.u 0 4 (.a [4,5] .done))]} Tryz.func140 (hvc:=?_)),
 (λq1 q0 q4 q3 q5 q7 q2 q6=>Zf Zr (Zb q1 (Zb q0 (Zb q4 (Zb q3 (Zb q5 (Zb q7 (Zb q2 (Zb q6 Zi)))))))) mixed {loops:=[(0,[.reg 9 (.dat Iq),.reg 10 (.dat Iq)])],draws:=[(8,[],.u 0 5 (.u 6 6 (.a [5,12] (.u 13 4 .done))))]} Tryz.func142 (hvc:=?_)),
 (λq0 q1=>Zf Zr (Zb q0 (Zb q1 Zi)) mixed {} Tryz.func186 (hvc:=?_)),
 (λq0=>Zf Zr (Zb q0 Zi) mixed {loops:=[(0,[.reg 7 (.dat Iq),.reg 8 (.dat Iq)])],draws:=[(5,[],.u 0 7 (.alt 7 (.u 8 4 .done) .done))]} Tryz.func192 (hvc:=?_)),
 (λq0 q1=>Zf Zr (Zb q0 (Zb q1 Zi)) mixed {loops:=[(0,[.reg 7 (.dat Iq),.reg 9 (.dat Iq)])],draws:=[(6,[],.u 0 7 (.alt 7 (.o [8,9,10] .done) .done))]} Tryz.func141 (hvc:=?_)),
 (λq0 q2 q1=>Zf Zr (Zb q0 (Zb q2 (Zb q1 Zi))) mixed {} Tryz.func84 (hvc:=?_))⟩
 all_goals
  intro a;repeat rcases a with ⟨_,a⟩
  rintro K ⟨r,h,hK⟩;repeat'
    conv=>whnf
    first
    | with_reducible refine Zu7 ?_
    | with_reducible refine ZgM (by assumption) (by assumption) (by assumption) ?_
    | with_reducible refine Qb (by assumption) ?_
    | with_reducible refine ZgU (by assumption) ?_
    | (with_reducible refine shD ?_);first | refine VB h (λh=>?_) (λh=>?_) | refine ZuL h (λh=>?_) (λh=>?_)
    | (with_reducible refine ZvU ?_);first | refine Zv6 ?_ | refine ZjM ?_
    | (with_reducible refine ZzB ?_);first | refine ZsS h (λh=>?_) (λh=>?_) | refine Zv5 h (λh=>?_) (λh=>?_)
    | (with_reducible refine ZvT ?_);(refine ⟨λhd=>?_,?_⟩)<;>try subst hd
    | (with_reducible refine ZzD ?_);first | with_reducible refine XZ h (λx hb h=>?_) | refine ZgU (by assumption) ?_ | with_reducible refine pG h (λhp h=>?_) | with_reducible refine pA h (λx ha hb hx h=>?_) | with_reducible refine pB h (λx hb h=>?_) | refine XZ h (λx hb h=>?_)
    | (with_reducible refine ZzA ?_);first | with_reducible refine vAt h (λx ha hb hx h=>?_) | refine ZgM (by assumption) (by assumption) (by assumption) ?_ | with_reducible refine pG h (λhp h=>?_) | with_reducible refine pA h (λx ha hb hx h=>?_) | with_reducible refine pB h (λx hb h=>?_) | refine vAt h (λx ha hb hx h=>?_)
    | (with_reducible refine ZvS ?_);first | with_reducible refine ZpZ h (λx hb h=>?_) | refine Qb (by assumption) ?_ | with_reducible refine pG h (λhp h=>?_) | with_reducible refine pA h (λx ha hb hx h=>?_) | with_reducible refine pB h (λx hb h=>?_) | refine ZpZ h (λx hb h=>?_)
    | with_reducible refine ZzC ?_
    | (with_reducible refine ZrX ?_);refine Zr5 h hK ?_;clear h hK;intro I μ v r h hK;(repeat rcases v with ⟨_,v⟩);(try dsimp only at h)
    | with_reducible refine ⟨by assumption,?_⟩
    | with_reducible refine orL ?_
    | with_reducible refine .inr ?_
    | (with_reducible refine ZvV ?_);first | refine ⟨?_,True.intro⟩ | refine ⟨?_,?_⟩
    | refine ⟨by kernel_rfl,?_⟩
    | refine ⟨by decide,?_⟩
    | with_reducible refine Zwz h (λhp h=>?_)
    | intro fp
    | exact trivial
    | with_reducible exact Zu5 h
    | (refine pS h (λe=>?_));subst e;(repeat (first | exact hK | exact ⟨⟨rfl,rfl⟩,hK.1 _ rfl⟩ | (refine pR hK (λe hK=>?_));subst e));done
    | refine Zwz h (λhp h=>?_)
    | refine ⟨by assumption,?_⟩
    | with_reducible refine pG h (λhp h=>?_) | with_reducible refine pA h (λx ha hb hx h=>?_) | with_reducible refine pB h (λx hb h=>?_)
    | refine pG h (λhp h=>?_)
    | fail
theorem ZmW (q1:Sq 136 c62) (q0:Sq 180 c63) (rec0:Ze->Int->(List Int)->Option (Int×(List Int))) (hrec:Sq 227 (ZbK rec0)):Sq 227 (ZbK (Xg rec0)):=by
 refine Zf YS (Zb hrec (Zb q1 (Zb q0 Zi))) mixed {loops:=[(0,[.reg 9 (.dat Iq),.reg 10 (.dat Iq),.reg 11 (.dat Iq),.ent 0 (nat_lit 2) (.flat (Ty.int IntKind.i64))])],draws:=[(10,[],.u 0 8 (.alt 8 (.o [9,10,11] .done) .done)),(12,[],.u 0 19 (.d 19))]} (fn:=Tryz.f227) Tryz.func227 (by kernel_rfl) (by kernel_rfl) ?_;rintro ⟨a0,a1,a2,⟨⟩⟩ K ⟨r,h,hK⟩
 change Xg rec0 a0 a1 a2=some r at h
 unfold Xg at h
 conv=>whnf
 refine vAt h (λx0 he0a he0b he0x h=>?_)
 conv=>whnf
 refine ⟨by kernel_rfl,?_⟩
 conv=>whnf
 refine ⟨he0a,he0b,Qb he0x ?_⟩
 conv=>whnf
 refine VB h (λh=>?_) (λh=>?_)
 conv=>whnf
 refine ⟨he0a,he0b,Qb he0x ?_⟩
 conv=>whnf
 refine ⟨by kernel_rfl,?_⟩
 conv=>whnf
 refine ⟨he0a,he0b,Qb he0x ?_⟩
 conv=>whnf
 cases h;exact hK
 conv=>whnf
 refine XZ h (λl28Gate0 hb1 h=>?_)
 conv=>whnf
 refine XZ h (λl28Inputs0 hb2 h=>?_)
 conv=>whnf
 refine ZoW h ?_;rintro I3 μ3 ⟨v0,v1,v2,l0,⟨⟩⟩ zs3 h hI3 hR3
 change XP a0 a1 rec0 l28Gate0 l28Inputs0 v0 v1 v2 l0=some zs3 at h
 unfold XP at h
 conv=>whnf
 refine VB h (λh=>?_) (λh=>?_)
 conv=>whnf
 refine ⟨by kernel_rfl,?_⟩
 conv=>whnf
 refine vAt h (λx1 he4a he4b he4x h=>?_)
 conv=>whnf
 refine XZ h (λr0 hb5 h=>?_)
 conv=>whnf
 refine ⟨trivial,?_⟩
 conv=>whnf
 cases h;exact ⟨⟨rfl,rfl⟩,hI3 _ rfl⟩
 conv=>whnf
 refine ⟨by kernel_rfl,?_⟩
 conv=>whnf
 refine vAt h (λx1 he6a he6b he6x h=>?_)
 conv=>whnf
 refine vAt h (λx2 he7a he7b he7x h=>?_)
 conv=>whnf
 refine vAt h (λx3 he8a he8b he8x h=>?_)
 conv=>whnf
 refine vAt h (λx4 he9a he9b he9x h=>?_)
 conv=>whnf
 refine ⟨by kernel_rfl,?_⟩
 conv=>whnf
 refine ⟨by decide,?_⟩
 conv=>whnf
 refine ⟨he9a,he9b,Qb he9x ?_⟩
 conv=>whnf
 refine ⟨trivial,?_⟩
 conv=>whnf
 refine vAt h (λx5 he10a he10b he10x h=>?_)
 conv=>whnf
 refine ⟨by kernel_rfl,?_⟩
 conv=>whnf
 refine ⟨he10a,he10b,Qb he10x ?_⟩
 conv=>whnf
 cases h;obtain rfl:=hR3 _ rfl;exact hK
theorem w85 (q1:Sq 136 c62) (q0:Sq 180 c63):Sq 227 c85:=by
 have hn:∀ n,Sq 227 (ZbK (Xb n)):=by
  intro n;induction n with
  | zero =>
  refine Zf YS Zi mixed {loops:=[(0,[.reg 9 (.dat Iq),.reg 10 (.dat Iq),.reg 11 (.dat Iq),.ent 0 (nat_lit 2) (.flat (Ty.int IntKind.i64))])],draws:=[(10,[],.u 0 8 (.alt 8 (.o [9,10,11] .done) .done)),(12,[],.u 0 19 (.d 19))]} (fn:=Tryz.f227) Tryz.func227 (by kernel_rfl) (by kernel_rfl) ?_;rintro ⟨a0,a1,a2,⟨⟩⟩ K ⟨r,h,hK⟩;cases h
  | succ n ih=>exact ZmW q1 q0 _ ih
 refine ⟨(hn 0).1,?_⟩;rintro w S vs ⟨a0,a1,a2,⟨⟩⟩ fp K h1 h0 h2 h3 h4 ⟨r,h,hK⟩;obtain ⟨n,hr⟩:=Zmv h;exact (hn n).2 w S vs _ fp K h1 h0 h2 h3 h4 ⟨r,hr,hK⟩
end Go.Proofs.YtioiomifapgimaaGreatDoor
