/-
  The functions keep their contracts, if what they call does. Printed by program.
-/
import Derived.Test.YtioiomifapgimaaGreatDoorM
import Derived.KernelRfl
namespace Go.Proofs.YtioiomifapgimaaGreatDoor
open Go Go.Sx
set_option maxRecDepth 100000
set_option maxHeartbeats 100000000
set_option linter.unusedVariables false
set_option linter.unusedSimpArgs false
structure Ws2:Prop where
 w89:Sq 215 c56->Sq 166 c89
 w93:Sq 168 c92->Sq 217 c93
 w92:Sq 218 c91->Sq 33 c51->Sq 168 c92
 w165:Sq 32 c107->Sq 28 c131->Sq 33 c51->Sq 26 ZzY->Sq 27 c130->Sq 29 Zz7->Sq 10 ZAl
 w97:Sq 170 c97
 w66:Sq 301 c65->Sq 70 c63->Sq 292 c66
 w164:Sq 26 ZzY->Sq 27 c130->Sq 9 c164
 w102:Sq 33 c51->Sq 171 Zyp
 w115:Sq 32 c107->Sq 60 ZzX->Sq 61 ZzS->Sq 26 ZzY
 w120:Sq 164 Zz0
 w109:Sq 159 c109
 w53:Sq 257 c53
 w119:Sq 62 c117->Sq 213 ZzZ->Sq 113 c119
 w51:Sq 33 c51
 w126:Sq 117 Zz4
 w84:Sq 281 c83->Sq 259 c84
 w112:Sq 108 ZzU->Sq 158 ZzV
 w83:Sq 282 c82->Sq 281 c83
 w67:Sq 293 c67
 w34:Sq 176 c31->Sq 177 c32->Sq 178 c33->Sq 132 c34
 w31:Sq 223 c30->Sq 176 c31
 w35:Sq 42 c22->Sq 133 c35
 w45:Sq 41 c43->Sq 81 c44->Sq 105 c45
 w26:Sq 296 c25->Sq 283 c26
 w22:Sq 42 c22
 w28:Sq 42 c22->Sq 265 c27->Sq 249 c28
 w9:Sq 102 c2->Sq 236 c7->Sq 199 c9
 w6:Sq 268 c5->Sq 253 c6
 w29:Sq 250 c29
 w3:Sq 235 c3
 w38:Sq 132 c34->Sq 179 c13->Sq 42 c22->Sq 182 c38
 w12:Sq 102 c2->Sq 200 c11->Sq 156 c12
 w37:Sq 179 c13->Sq 181 c37
 w14:Sq 179 c13->Sq 134 c14
 w17:Sq 102 c2->Sq 201 c15->Sq 154 c16->Sq 157 c17
 w148:Sq 229 c148
 w43:Sq 79 c36->Sq 80 c42->Sq 41 c43
 w151:Sq 226 Zyr->Sq 229 c148->Sq 228 ZAg->Sq 227 ZAh->Sq 187 Zzh
 w144:Sq 225 ZAf
 w147:Sq 226 Zyr
 w158:Sq 140 c143->Sq 187 Zzh->Sq 189 c152->Sq 188 Zzi->Sq 190 ZAi->Sq 186 c145->Sq 192 c156->Sq 191 c157->Sq 142 ZAj
 w155:Sq 230 c154->Sq 190 ZAi
 w161:Sq 44 c160->Sq 84 c159->Sq 67 ZAk
 w160:Sq 83 ZAd->Sq 84 c159->Sq 44 c160
set_option maxHeartbeats 100000000 in
theorem ws2:Ws2:=by
 refine ⟨(λq0=>Zf Zr (Zb q0 Zi) mixed {loops:=[(0,[.reg 3 (.own (.ol 9 (.flat (.str)))),.reg 12 (.dat Iq)]),(2,[.reg 4 (.own (.ol 9 (.flat (.str)))),.reg 25 (.dat Iq)])]} Tryz.func166 (hvc:=?_)),
 (λq0=>Zf Zr (Zb q0 Zi) mixed {} Tryz.func217 (hvc:=?_)),
 (λq0 q1=>Zf Zr (Zb q0 (Zb q1 Zi)) mixed {} Tryz.func168 (hvc:=?_)),
 (λq4 q1 q5 q3 q2 q0=>Zf Zr (Zb q4 (Zb q1 (Zb q5 (Zb q3 (Zb q2 (Zb q0 Zi)))))) mixed {} Tryz.func10 (hvc:=?_)),
 (Zf Zr Zi mixed {} Tryz.func170 (hvc:=?_)),
 (λq1 q0=>Zf Zr (Zb q1 (Zb q0 Zi)) mixed {} Tryz.func292 (hvc:=?_)),
 (λq1 q0=>Zf Zr (Zb q1 (Zb q0 Zi)) mixed {} Tryz.func9 (hvc:=?_)),
 (λq0=>Zf Zr (Zb q0 Zi) mixed {loops:=[(0,[.reg 8 (.dat Iq)])]} Tryz.func171 (hvc:=?_)),
 (λq2 q0 q1=>Zf Zr (Zb q2 (Zb q0 (Zb q1 Zi))) mixed {loops:=[(1,[.reg 35 (.dat Iq),.entm 1 (ZqS.ty) (ZqS.ety)])],draws:=[(10,[],.u 0 9 (.d 9))]} Tryz.func26 (hvc:=?_)),
 (Zf Zr Zi mixed {loops:=[(0,[.reg 9 (.dat Iq),.reg 15 (.dat Iq)])]} Tryz.func164 (hvc:=?_)),
 (Zf Zr Zi mixed {loops:=[(0,[.reg 0 (.dat Iq),.reg 1 (.dat Iq)])],draws:=[(2,[],.u 0 6 .done)]} Tryz.func159 (hvc:=?_)),
 (Zf Zr Zi mixed {} Tryz.func257 (hvc:=?_)),
 (λq0 q1=>Zf Zr (Zb q0 (ZjY (ZnI YS (Zb q1 (ZjY (ZnI YS Zi mixed {draws:=[(0,[],.u 0 5 (.a [5,6,7] .done))]} Tryz.func163 (by kernel_rfl) (by kernel_rfl)) Zi)) mixed {loops:=[(0,[.reg 13 (.dat Iq),.cello 3 0 (.ol 2 (.flat Iq))]),(2,[.reg 19 (.dat Iq),.entm 5 (ZqT.ty) (ZqT.ety)])]} Tryz.func162 (by kernel_rfl) (by kernel_rfl)) Zi)) mixed {draws:=[(1,[],.o [0,2] (.alt 1 (.o [3,4,5] .done) .done))]} Tryz.func113 (hvc:=?_)),
 (Zf Zr Zi mixed {} Tryz.func33 (hvc:=?_)),
 (Zf Zr Zi mixed {} Tryz.func117 (hvc:=?_)),
 (λq0=>Zf Zr (Zb q0 Zi) mixed {} Tryz.func259 (hvc:=?_)),
 (λq0=>Zf Zr (Zb q0 Zi) mixed {loops:=[(0,[.reg 8 (.dat Iq)])]} Tryz.func158 (hvc:=?_)),
 (λq0=>Zf Zr (Zb q0 Zi) mixed {loops:=[(0,[.reg 8 (.dat Iq)])]} Tryz.func281 (hvc:=?_)),
 (Zf Zr Zi mixed {loops:=[(0,[.reg 3 (.dat Iq),.reg 4 (.dat Iq)])]} Tryz.func293 (hvc:=?_)),
 (λq0 q1 q2=>Zf Zr (Zb q0 (Zb q1 (Zb q2 Zi))) mixed {loops:=[(0,[.reg 5 (.own (.ol 9 (.flat (.str)))),.reg 6 (.dat Iq)]),(2,[.reg 7 (.own (.ol 9 (.flat (.str)))),.reg 8 (.dat Iq)]),(4,[.reg 10 (.dat Iq),.ent 6 (nat_lit 2) (.flat ZqU.ety)]),(6,[.reg 12 (.dat Iq),.ent 6 (nat_lit 2) (.flat ZqU.ety)]),(8,[.reg 13 (.dat Iq)])]} Tryz.func132 (hvc:=?_)),
 (λq0=>Zf Zr (Zb q0 Zi) mixed {loops:=[(0,[.reg 3 (.dat Iq)]),(2,[.reg 4 (.dat Iq)])],draws:=[(9,[],.u 0 13 .done)]} Tryz.func176 (hvc:=?_)),
 (λq0=>Zf Zr (Zb q0 Zi) mixed {loops:=[(0,[.reg 6 (.dat Iq)]),(2,[.reg 7 (.dat Iq)])]} Tryz.func133 (hvc:=?_)),
 (λq1 q0=>Zf Zr (Zb q1 (Zb q0 Zi)) mixed {} Tryz.func105 (hvc:=?_)),
 (λq0=>Zf Zr (Zb q0 Zi) mixed {loops:=[(0,[.reg 5 (.dat Iq),.cell 1004 0 Iq,.cell 1004 1 Iq])],draws:=[(3,[],.u 0 9 (.a [9,10] .done)),(7,[],.u 0 9 (.d 9)),(8,[],.u 0 9 (.d 9))]} Tryz.func283 (hvc:=?_)),
 (Zf Zr Zi mixed {} Tryz.func42 (hvc:=?_)),
 (λq1 q0=>Zf Zr (Zb q1 (Zb q0 Zi)) mixed {} Tryz.func249 (hvc:=?_)),
 (λq1 q0=>Zf YS (Zb q1 (Zb q0 Zi)) mixed {} Tryz.func199 (hvc:=?_)),
 (λq0=>Zf YS (Zb q0 Zi) mixed {draws:=[(2,[],.o [1,2] (.ld 0 (.a [3,4] (.op 5 .done))))]} Tryz.func253 (hvc:=?_)),
 (Zf Zr Zi mixed {loops:=[(0,[.reg 4 (.dat Iq),.ent 1 (nat_lit 2) (.flat ZqU.ety)])]} Tryz.func250 (hvc:=?_)),
 (Zf Zr Zi mixed {loops:=[(0,[.reg 5 (.dat (.bool)),.reg 6 (.dat (.bool)),.reg 8 (.dat Iq)])],draws:=[(7,[],.u 0 17 .done),(8,[],.u 0 17 .done)]} Tryz.func235 (hvc:=?_)),
 (λq1 q0 q2=>Zf Zr (Zb q1 (Zb q0 (Zb q2 Zi))) mixed {} Tryz.func182 (hvc:=?_)),
 (λq1 q0=>Zf YS (Zb q1 (Zb q0 Zi)) mixed {loops:=[(0,[.reg 9 (.own (.ol 82 (ZbQ))),.reg 10 (.own (.ol 9 (.flat (.str)))),.reg 11 (.dat Iq),.cell 1000 0 (.sl (.int .u8)),.cell 1000 1 Iq,.cell 1000 2 Iq]),(2,[.reg 14 (.dat Iq),.cell 1000 0 (.sl (.int .u8)),.cell 1000 1 Iq,.cell 1000 2 Iq,.cello 1013 2 (.ol 2 (.flat Iq))]),(4,[.reg 16 (.dat Iq),.cell 1000 0 (.sl (.int .u8)),.cell 1000 1 Iq,.cell 1000 2 Iq,.ent 9 (nat_lit 82) (Dp.pair (Dp.flat Ty.str) (Dp.pair (Dp.flat (Ty.int IntKind.i64)) (Dp.pair (Dp.ol (2:Go.TypeId) (Dp.flat (Ty.int IntKind.i64))) (Dp.flat Ty.unit))))])],draws:=[(27,[],.u 0 4 (.u 5 4 (.alt 4 (.alt 9 (.o [10,11] (.d 12)) .done) (.alt 9 (.op 10 (.alt 4 (.op 11 (.d 12)) .done)) .done))))]} Tryz.func156 (hvc:=?_)),
 (λq0=>Zf Zr (Zb q0 Zi) mixed {loops:=[(0,[.reg 6 (.dat Iq)])]} Tryz.func181 (hvc:=?_)),
 (λq0=>Zf Zr (Zb q0 Zi) mixed {loops:=[(0,[.reg 5 (.own (.ol 2 (.flat Iq))),.reg 7 (.dat Iq)])]} Tryz.func134 (hvc:=?_)),
 (λq1 q0 q2=>Zf Zr (Zb q1 (Zb q0 (Zb q2 Zi))) mixed {loops:=[(0,[.reg 6 (.dat Iq),.cell 1000 0 (.sl (.int .u8)),.cell 1000 1 Iq,.cell 1000 2 Iq,.cello 1005 0 (.ol (nat_lit 2) (.flat (Ty.int IntKind.i64))),.cello 1005 1 (.ol (nat_lit 2) (.flat (Ty.int IntKind.i64))),.cello 1005 2 (.ol (nat_lit 2) (.flat (Ty.int IntKind.i64))),.cello 1005 3 (.ol (nat_lit 2) (.flat (Ty.int IntKind.i64)))]),(2,[.reg 8 (.dat Iq),.cell 1000 0 (.sl (.int .u8)),.cell 1000 1 Iq,.cell 1000 2 Iq,.ent 10 (nat_lit 2) (.flat (Ty.int IntKind.i64))])],draws:=[(6,[],.o [0,1,3,4,8,11,15,18,22] (.l [9,16,23] (.a [2,5,6,7,10,12,13,14,17,19,20,21] (.op 24 (.d 25))))),(10,[],.op 0 (.u 2 5 (.ld 1 (.alt 7 (.op 8 (.d 9)) .done))))]} Tryz.func157 (hvc:=?_)),
 (Zf Zr Zi mixed {loops:=[(0,[.reg 0 (.dat Iq),.reg 5 (.own (.ol 2 (.flat Iq))),.reg 6 (.dat Iq)])]} Tryz.func229 (hvc:=?_)),
 (λq1 q0=>Zf Zr (Zb q1 (Zb q0 Zi)) mixed {} Tryz.func41 (hvc:=?_)),
 (λq1 q2 q0 q3=>Zf Zr (Zb q1 (Zb q2 (Zb q0 (Zb q3 Zi)))) mixed {loops:=[(0,[.reg 7 (.own (.ol 2 (.flat Iq))),.reg 8 (.dat Iq)])],draws:=[(5,[],.u 0 8 (.a [8,9,10,11,12] (.op 13 .done)))]} Tryz.func187 (hvc:=?_)),
 (Zf Zr Zi mixed {loops:=[(0,[.reg 5 (.dat Iq)])]} Tryz.func225 (hvc:=?_)),
 (Zf Zr Zi mixed {loops:=[(0,[.reg 3 (.dat Iq),.reg 4 (.dat Iq)])]} Tryz.func226 (hvc:=?_)),
 (λq1 q0 q4 q3 q5 q7 q2 q6=>Zf Zr (Zb q1 (Zb q0 (Zb q4 (Zb q3 (Zb q5 (Zb q7 (Zb q2 (Zb q6 Zi)))))))) mixed {loops:=[(0,[.reg 9 (.dat Iq),.reg 10 (.dat Iq)])],draws:=[(8,[],.u 0 5 (.u 6 6 (.a [5,12] (.u 13 4 .done))))]} Tryz.func142 (hvc:=?_)),
 (λq0=>Zf Zr (Zb q0 Zi) mixed {loops:=[(0,[.reg 9 (.dat Iq),.reg 10 (.dat Iq)])]} Tryz.func190 (hvc:=?_)),
 (λq1 q0=>Zf Zr (Zb q1 (Zb q0 Zi)) mixed {draws:=[(4,[],.o [0,1,2] (.u 4 5 (.o [11,12] (.a [3,9] (.o [10,13] (.d 14))))))]} Tryz.func67 (hvc:=?_)),
 (λq0 q1=>Zf Zr (Zb q0 (Zb q1 Zi)) mixed {} Tryz.func44 (hvc:=?_))⟩
 all_goals
  intro a;repeat rcases a with ⟨_,a⟩
  rintro K ⟨r,h,hK⟩;repeat'
    conv=>whnf
    first
    | with_reducible refine Zu7 ?_
    | with_reducible refine ZgM (by assumption) (by assumption) (by assumption) ?_
    | with_reducible refine Qb (by assumption) ?_
    | with_reducible refine ZgU (by assumption) ?_
    | (with_reducible refine shD ?_);first | refine VB h (λh=>?_) (λh=>?_) | refine ZuL h (λh=>?_) (λh=>?_)
    | (with_reducible refine ZvU ?_);first | refine Zv6 ?_ | refine ZjM ?_
    | (with_reducible refine ZzB ?_);first | refine ZsS h (λh=>?_) (λh=>?_) | refine Zv5 h (λh=>?_) (λh=>?_)
    | (with_reducible refine ZvT ?_);(refine ⟨λhd=>?_,?_⟩)<;>try subst hd
    | (with_reducible refine ZzD ?_);first | with_reducible refine XZ h (λx hb h=>?_) | refine ZgU (by assumption) ?_ | with_reducible refine pG h (λhp h=>?_) | with_reducible refine pA h (λx ha hb hx h=>?_) | with_reducible refine pB h (λx hb h=>?_) | refine XZ h (λx hb h=>?_)
    | (with_reducible refine ZzA ?_);first | with_reducible refine vAt h (λx ha hb hx h=>?_) | refine ZgM (by assumption) (by assumption) (by assumption) ?_ | with_reducible refine pG h (λhp h=>?_) | with_reducible refine pA h (λx ha hb hx h=>?_) | with_reducible refine pB h (λx hb h=>?_) | refine vAt h (λx ha hb hx h=>?_)
    | (with_reducible refine ZvS ?_);first | with_reducible refine ZpZ h (λx hb h=>?_) | refine Qb (by assumption) ?_ | with_reducible refine pG h (λhp h=>?_) | with_reducible refine pA h (λx ha hb hx h=>?_) | with_reducible refine pB h (λx hb h=>?_) | refine ZpZ h (λx hb h=>?_)
    | with_reducible refine ZzC ?_
    | (with_reducible refine ZrX ?_);refine Zr5 h hK ?_;clear h hK;intro I μ v r h hK;(repeat rcases v with ⟨_,v⟩);(try dsimp only at h)
    | with_reducible refine ⟨by assumption,?_⟩
    | with_reducible refine orL ?_
    | with_reducible refine .inr ?_
    | (with_reducible refine ZvV ?_);first | refine ⟨?_,True.intro⟩ | refine ⟨?_,?_⟩
    | refine ⟨by kernel_rfl,?_⟩
    | refine ⟨by decide,?_⟩
    | with_reducible refine Zwz h (λhp h=>?_)
    | intro fp
    | exact trivial
    | with_reducible exact Zu5 h
    | (refine pS h (λe=>?_));subst e;(repeat (first | exact hK | exact ⟨⟨rfl,rfl⟩,hK.1 _ rfl⟩ | (refine pR hK (λe hK=>?_));subst e));done
    | refine Zwz h (λhp h=>?_)
    | refine ⟨by assumption,?_⟩
    | with_reducible refine pG h (λhp h=>?_) | with_reducible refine pA h (λx ha hb hx h=>?_) | with_reducible refine pB h (λx hb h=>?_)
    | refine pG h (λhp h=>?_)
    | fail
theorem ZmX (q1:Sq 136 c39) (q0:Sq 180 c40) (rec0:Ze->Int->(List Bool)->(List Bool)->Option ((List Bool)×(List Bool))) (hrec:Sq 184 (ZbL rec0)):Sq 184 (ZbL (Xh rec0)):=by
 refine Zf YS (Zb hrec (Zb q1 (Zb q0 Zi))) mixed {loops:=[(0,[.reg 10 (.dat Iq),.ent 0 (nat_lit 4) (.flat Ty.bool),.ent 1 (nat_lit 4) (.flat Ty.bool)])],draws:=[(10,[],.u 0 7 (.d 7))]} (fn:=Tryz.f184) Tryz.func184 (by kernel_rfl) (by kernel_rfl) ?_;rintro ⟨b0,net0,marks0,seen0,⟨⟩⟩ K ⟨r,h,hK⟩
 change Xh rec0 b0 net0 marks0 seen0=some r at h
 unfold Xh at h
 conv=>whnf
 refine vAt h (λx0 he0a he0b he0x h=>?_)
 conv=>whnf
 refine ⟨by kernel_rfl,?_⟩
 conv=>whnf
 refine ⟨he0a,he0b,Qb he0x ?_⟩
 conv=>whnf
 refine ZsS h (λh=>?_) (λh=>?_)
 conv=>whnf
 cases h;exact hK
 conv=>whnf
 refine ⟨he0a,he0b,Qb he0x ?_⟩
 conv=>whnf
 refine ⟨by kernel_rfl,?_⟩
 conv=>whnf
 refine ⟨by decide,?_⟩
 conv=>whnf
 refine ⟨he0a,he0b,Qb he0x ?_⟩
 conv=>whnf
 refine XZ h (λl28Gate0 hb1 h=>?_)
 conv=>whnf
 refine VB h (λh=>?_) (λh=>?_)
 conv=>whnf
 refine vAt h (λx1 he2a he2b he2x h=>?_)
 conv=>whnf
 refine ⟨by kernel_rfl,?_⟩
 conv=>whnf
 refine ⟨by decide,?_⟩
 conv=>whnf
 refine ⟨he2a,he2b,Qb he2x ?_⟩
 conv=>whnf
 cases h;exact hK
 conv=>whnf
 refine XZ h (λl28Inputs0 hb3 h=>?_)
 conv=>whnf
 refine ZoW h ?_;rintro I4 μ4 ⟨i0,l0,l1,⟨⟩⟩ zs4 h hI4 hR4
 change Xm b0 rec0 l28Inputs0 i0 l0 l1=some zs4 at h
 unfold Xm at h
 conv=>whnf
 refine VB h (λh=>?_) (λh=>?_)
 conv=>whnf
 refine ⟨by kernel_rfl,?_⟩
 conv=>whnf
 refine vAt h (λx1 he5a he5b he5x h=>?_)
 conv=>whnf
 refine XZ h (λr0 hb6 h=>?_)
 conv=>whnf
 refine ⟨trivial,?_⟩
 conv=>whnf
 cases h;exact ⟨⟨rfl,rfl⟩,hI4 _ rfl⟩
 conv=>whnf
 cases h;obtain rfl:=hR4 _ rfl;exact hK
theorem ZGM (q1:Sq 136 c39) (q0:Sq 180 c40):Sq 184 c141:=by
 have hn:∀ n,Sq 184 (ZbL (Xc n)):=by
  intro n;induction n with
  | zero =>
  refine Zf YS Zi mixed {loops:=[(0,[.reg 10 (.dat Iq),.ent 0 (nat_lit 4) (.flat Ty.bool),.ent 1 (nat_lit 4) (.flat Ty.bool)])],draws:=[(10,[],.u 0 7 (.d 7))]} (fn:=Tryz.f184) Tryz.func184 (by kernel_rfl) (by kernel_rfl) ?_;rintro ⟨b0,net0,marks0,seen0,⟨⟩⟩ K ⟨r,h,hK⟩;cases h
  | succ n ih=>exact ZmX q1 q0 _ ih
 refine ⟨(hn 0).1,?_⟩;rintro w S vs ⟨b0,net0,marks0,seen0,⟨⟩⟩ fp K h1 h0 h2 h3 h4 ⟨r,h,hK⟩;obtain ⟨n,hr⟩:=Zmv h;exact (hn n).2 w S vs _ fp K h1 h0 h2 h3 h4 ⟨r,hr,hK⟩
end Go.Proofs.YtioiomifapgimaaGreatDoor
