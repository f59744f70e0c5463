/-
  The functions keep their contracts, if what they call does. Printed by program.
-/
import Derived.Test.YtioiomifapgimaaGreatDoorM
import Derived.KernelRfl
namespace Go.Proofs.YtioiomifapgimaaGreatDoor
open Go Go.Sx
set_option maxRecDepth 100000
set_option maxHeartbeats 100000000
set_option linter.unusedVariables false
set_option linter.unusedSimpArgs false
structure Ws0:Prop where
 w175:Sq 117 ZAp->Sq 118 Zyr->Sq 119 c173->Sq 120 ZAq->Sq 65 c175
 w131:Sq 259 c130->Sq 262 c131
 w128:Sq 282 Zz5
 w135:Sq 215 Zyp->Sq 166 ZAa
 w139:Sq 168 c138->Sq 217 c139
 w134:Sq 214 Zz8->Sq 215 Zyp->Sq 165 Zz9
 w148:Sq 33 c97->Sq 171 c148
 w102:Sq 242 c98->Sq 246 ZzO->Sq 215 Zyp
 w114:Sq 292 ZzV->Sq 293 ZzW->Sq 291 ZzX
 w161:Sq 32 Zzi->Sq 60 c160->Sq 61 c154->Sq 26 ZAk
 w171:Sq 64 c171
 w168:Sq 116 c168
 w167:Sq 164 ZAm->Sq 114 c167
 w169:Sq 115 ZAn
 w104:Sq 277 ZzQ
 w110:Sq 306 ZzT
 w99:Sq 257 c99
 w153:Sq 68 ZAh->Sq 69 c152->Sq 71 c105->Sq 70 c109->Sq 32 Zzi
 w165:Sq 62 Zzj->Sq 213 c164->Sq 113 ZAl
 w162:Sq 110 c162
 w160:Sq 61 c154->Sq 107 c159->Sq 60 c160
 w97:Sq 33 c97
 w210:Sq 96 ZAN->Sq 53 c210
 w208:Sq 50 ZAH->Sq 51 ZAL->Sq 52 ZAM->Sq 19 c208
 w197:Sq 195 ZAD->Sq 196 c196->Sq 150 Zx9->Sq 147 ZAF
 w198:Sq 147 ZAF->Sq 91 c198
 w209:Sq 96 ZAN
 w190:Sq 233 ZAC
 w193:Sq 150 Zx9->Sq 267 c193
 w217:Sq 151 c212->Sq 152 c213->Sq 153 ZAQ->Sq 101 Zya->Sq 97 ZAR
 w219:Sq 151 c212->Sq 101 Zya->Sq 98 ZAS
 w218:Sq 97 ZAR->Sq 54 c218
 w18:Sq 38 c9->Sq 39 c15->Sq 40 c17->Sq 13 c18
 w11:Sq 129 c10->Sq 75 c11
 w14:Sq 130 c13->Sq 77 c14
 w20:Sq 231 c20
 w21:Sq 231 c20->Sq 193 c21
 w130:Sq 281 Zz6->Sq 259 c130
 w141:Sq 172 ZAd->Sq 124 c141
 w145:Sq 219 ZAf->Sq 169 c145
 w101:Sq 263 ZzN->Sq 246 ZzO
 w125:Sq 260 c124->Sq 281 Zz3
 w144:Sq 170 c143->Sq 219 ZAf
 w59:Sq 132 c55->Sq 134 c57->Sq 133 c58->Sq 79 c59
 w69:Sq 42 c43->Sq 137 c68->Sq 82 c69
 w52:Sq 223 c51->Sq 176 c52
 w46:Sq 302 c45->Sq 42 c43->Sq 296 c46
 w92:Sq 191 c92
 w61:Sq 132 c55->Sq 179 c56->Sq 42 c43->Sq 182 c61
 w60:Sq 179 c56->Sq 181 c60
 w53:Sq 42 c43->Sq 177 c53
 w87:Sq 226 c82->Sq 189 c87
 w77:Sq 185 c77
 w82:Sq 226 c82
set_option maxHeartbeats 100000000 in
theorem ws0:Ws0:=by
 refine ⟨(λq0 q1 q2 q3=>Zf Zr (Zb q0 (Zb q1 (Zb q2 (Zb q3 Zi)))) mixed {loops:=[(0,[.reg 27 (.dat Iq),.ent 2 (nat_lit 2) (.flat (Ty.int IntKind.i64))]),(2,[.reg 10 (.dat Iq),.ent 2 (nat_lit 2) (.flat (Ty.int IntKind.i64))])],draws:=[(7,[],.u 0 16 (.alt 16 (.o [17,18] (.d 19)) .done)),(12,[],.u 0 14 (.d 14))]} Tryz.func65 (hvc:=?_)),
 (λq0=>Zf Zr (Zb q0 Zi) mixed {} Tryz.func262 (hvc:=?_)),
 (Zf Zr Zi mixed {} Tryz.func282 (hvc:=?_)),
 (λq0=>Zf Zr (Zb q0 Zi) mixed {loops:=[(0,[.reg 3 (.own (.ol 9 (.flat (.str)))),.reg 12 (.dat Iq)]),(2,[.reg 4 (.own (.ol 9 (.flat (.str)))),.reg 25 (.dat Iq)])]} Tryz.func166 (hvc:=?_)),
 (λq0=>Zf Zr (Zb q0 Zi) mixed {} Tryz.func217 (hvc:=?_)),
 (λq1 q0=>Zf Zr (Zb q1 (Zb q0 Zi)) mixed {loops:=[(0,[.reg 3 (.own (.ol 9 (.flat (.str)))),.reg 9 (.dat Iq)])]} Tryz.func165 (hvc:=?_)),
 (λq0=>Zf Zr (Zb q0 Zi) mixed {loops:=[(0,[.reg 8 (.dat Iq)])]} Tryz.func171 (hvc:=?_)),
 (λq1 q0=>Zf Zr (Zb q1 (Zb q0 Zi)) mixed {loops:=[(0,[.reg 7 (.dat Iq)])]} Tryz.func215 (hvc:=?_)),
 (λq1 q0=>Zf Zr (Zb q1 (Zb q0 Zi)) mixed {} Tryz.func291 (hvc:=?_)),
 (λq2 q0 q1=>Zf Zr (Zb q2 (Zb q0 (Zb q1 Zi))) mixed {loops:=[(1,[.reg 35 (.dat Iq),.entm 1 (ZqS.ty) (ZqS.ety)])],draws:=[(10,[],.u 0 9 (.d 9))]} Tryz.func26 (hvc:=?_)),
 (Zf Zr Zi mixed {loops:=[(0,[.reg 5 (.dat Iq),.reg 10 (.dat Iq)])]} Tryz.func64 (hvc:=?_)),
 (Zf Zr Zi mixed {loops:=[(0,[.reg 7 (.dat Iq),.reg 12 (.dat Iq)])]} Tryz.func116 (hvc:=?_)),
 (λq0=>Zf Zr (Zb q0 Zi) mixed {loops:=[(0,[.reg 9 (.dat Iq),.reg 14 (.dat Iq)])]} Tryz.func114 (hvc:=?_)),
 (Zf Zr Zi mixed {draws:=[(1,[],.u 0 8 .done)]} Tryz.func115 (hvc:=?_)),
 (Zf Zr Zi mixed {} Tryz.func277 (hvc:=?_)),
 (Zf Zr Zi mixed {loops:=[(0,[.reg 3 (.dat Iq)])],draws:=[(4,[],.u 0 10 .done)]} Tryz.func306 (hvc:=?_)),
 (Zf Zr Zi mixed {} Tryz.func257 (hvc:=?_)),
 (λq3 q2 q0 q1=>Zf Zr (Zb q3 (Zb q2 (Zb q0 (Zb q1 Zi)))) mixed {} Tryz.func32 (hvc:=?_)),
 (λq0 q1=>Zf Zr (Zb q0 (ZjY (ZnI YS (Zb q1 (ZjY (ZnI YS Zi mixed {draws:=[(0,[],.u 0 5 (.a [5,6,7] .done))]} Tryz.func163 (by kernel_rfl) (by kernel_rfl)) Zi)) mixed {loops:=[(0,[.reg 13 (.dat Iq),.cello 3 0 (.ol 2 (.flat Iq))]),(2,[.reg 19 (.dat Iq),.entm 5 (ZqT.ty) (ZqT.ety)])]} Tryz.func162 (by kernel_rfl) (by kernel_rfl)) Zi)) mixed {draws:=[(1,[],.o [0,2] (.alt 1 (.o [3,4,5] .done) .done))]} Tryz.func113 (hvc:=?_)),
 (Zf Zr Zi mixed {draws:=[(1,[],.u 0 17 .done)]} Tryz.func110 (hvc:=?_)),
 (λq1 q0=>Zf Zr (Zb q1 (Zb q0 Zi)) mixed {} Tryz.func60 (hvc:=?_)),
 (Zf Zr Zi mixed {} Tryz.func33 (hvc:=?_)),
 (λq0=>Zf Zr (Zb q0 Zi) mixed {} Tryz.func53 (hvc:=?_)),
 (λq0 q1 q2=>Zf Zr (Zb q0 (Zb q1 (Zb q2 Zi))) mixed {} Tryz.func19 (hvc:=?_)),
 (λq1 q2 q0=>Zf Zr (Zb q1 (Zb q2 (Zb q0 Zi))) mixed {} Tryz.func147 (hvc:=?_)),
 (λq0=>Zf Zr (Zb q0 Zi) mixed {loops:=[(0,[.reg 5 (.dat Iq)])],draws:=[(6,[],.u 0 8 (.alt 8 (.op 9 .done) .done))]} Tryz.func91 (hvc:=?_)),
 (Zf Zr Zi mixed {} Tryz.func96 (hvc:=?_)),
 (Zf Zr Zi mixed {} Tryz.func233 (hvc:=?_)),
 (λq0=>Zf Zr (Zb q0 Zi) mixed {} Tryz.func267 (hvc:=?_)),
 (λq1 q2 q3 q0=>Zf YS (Zb q1 (Zb q2 (Zb q3 (Zb q0 Zi)))) mixed {loops:=[(0,[.reg 1 (.dat Iq),.reg 5 (.dat Iq),.ent 0 (nat_lit 139) (Dp.pair (Dp.flat Ty.str) (Dp.pair (Dp.flat (Ty.int IntKind.i64)) (Dp.pair (Dp.ol (241:Go.TypeId) (Dp.flat Zdh)) (Dp.pair (Dp.ol (274:Go.TypeId) ZuV) (Dp.pair (Dp.ol (2:Go.TypeId) (Dp.flat (Ty.int IntKind.i64))) (Dp.pair (Dp.flat (Ty.int IntKind.i64)) (Dp.pair (Dp.flat (Ty.int IntKind.i64)) (Dp.flat Ty.unit))))))))])]} Tryz.func97 (hvc:=?_)),
 (λq1 q0=>Zf YS (Zb q1 (Zb q0 Zi)) mixed {loops:=[(0,[.reg 1 (.dat Iq),.reg 5 (.dat Iq),.ent 0 (nat_lit 82) (Dp.pair (Dp.flat Ty.str) (Dp.pair (Dp.flat (Ty.int IntKind.i64)) (Dp.pair (Dp.ol (2:Go.TypeId) (Dp.flat (Ty.int IntKind.i64))) (Dp.flat Ty.unit))))])]} Tryz.func98 (hvc:=?_)),
 (λq0=>Zf YS (Zb q0 Zi) mixed {} Tryz.func54 (hvc:=?_)),
 (λq0 q1 q2=>Zf Zr (Zb q0 (Zb q1 (Zb q2 Zi))) mixed {} Tryz.func13 (hvc:=?_)),
 (λq0=>Zf Zr (Zb q0 Zi) mixed {loops:=[(0,[.reg 1 (.dat Iq),.reg 5 (.dat Iq)])]} Tryz.func75 (hvc:=?_)),
 (λq0=>Zf Zr (Zb q0 Zi) mixed {loops:=[(0,[.reg 1 (.dat Iq),.reg 5 (.dat Iq)])]} Tryz.func77 (hvc:=?_)),
 (Zf Zr Zi mixed {} Tryz.func231 (hvc:=?_)),
 (λq0=>Zf Zr (Zb q0 Zi) mixed {loops:=[(0,[.reg 4 (.dat Iq),.ent 0 (nat_lit 241) (.flat Zv3.ety)])]} Tryz.func193 (hvc:=?_)),
 (λq0=>Zf Zr (Zb q0 Zi) mixed {} Tryz.func259 (hvc:=?_)),
 (λq0=>Zf Zr (Zb q0 Zi) mixed {} Tryz.func124 (hvc:=?_)),
 (λq0=>Zf Zr (Zb q0 Zi) mixed {} Tryz.func169 (hvc:=?_)),
 (λq0=>Zf Zr (Zb q0 Zi) mixed {} Tryz.func246 (hvc:=?_)),
 (λq0=>Zf Zr (Zb q0 Zi) mixed {loops:=[(0,[.reg 8 (.dat Iq)])]} Tryz.func281 (hvc:=?_)),
 (λq0=>Zf Zr (Zb q0 Zi) mixed {loops:=[(0,[.reg 8 (.dat Iq)])]} Tryz.func219 (hvc:=?_)),
 (λq0 q1 q2=>Zf Zr (Zb q0 (Zb q1 (Zb q2 Zi))) mixed {loops:=[(0,[.reg 3 (.dat Iq)])],draws:=[(6,[],.u 0 8 (.alt 8 (.op 9 (.alt 10 (.op 11 .done) .done)) .done))]} Tryz.func79 (hvc:=?_)),
 (λq1 q0=>Zf Zr (Zb q1 (Zb q0 Zi)) mixed {} Tryz.func82 (hvc:=?_)),
 (λq0=>Zf Zr (Zb q0 Zi) mixed {loops:=[(0,[.reg 3 (.dat Iq)]),(2,[.reg 4 (.dat Iq)])],draws:=[(9,[],.u 0 13 .done)]} Tryz.func176 (hvc:=?_)),
 (λq0 q1=>Zf Zr (Zb q0 (Zb q1 Zi)) mixed {loops:=[(0,[.reg 3 (.dat Iq)])]} Tryz.func296 (hvc:=?_)),
 (Zf Zr Zi mixed {} Tryz.func191 (hvc:=?_)),
 (λq1 q0 q2=>Zf Zr (Zb q1 (Zb q0 (Zb q2 Zi))) mixed {} Tryz.func182 (hvc:=?_)),
 (λq0=>Zf Zr (Zb q0 Zi) mixed {loops:=[(0,[.reg 6 (.dat Iq)])]} Tryz.func181 (hvc:=?_)),
 (λq0=>Zf Zr (Zb q0 Zi) mixed {loops:=[(0,[.reg 6 (.dat Iq)]),(2,[.reg 8 (.dat Iq)]),(4,[.reg 9 (.dat Iq)])],draws:=[(6,[],.u 0 6 (.alt 6 (.u 7 15 .done) .done))]} Tryz.func177 (hvc:=?_)),
 (λq0=>Zf Zr (Zb q0 Zi) mixed {} Tryz.func189 (hvc:=?_)),
 (Zf Zr Zi mixed {loops:=[(0,[.reg 3 (.own (.ol 2 (.flat Iq))),.reg 4 (.dat Iq)])]} Tryz.func185 (hvc:=?_)),
 (Zf Zr Zi mixed {loops:=[(0,[.reg 3 (.dat Iq),.reg 4 (.dat Iq)])]} Tryz.func226 (hvc:=?_))⟩
 all_goals
  intro a;repeat rcases a with ⟨_,a⟩
  rintro K ⟨r,h,hK⟩;repeat'
    conv=>whnf
    first
    | with_reducible refine Zu7 ?_
    | with_reducible refine ZgM (by assumption) (by assumption) (by assumption) ?_
    | with_reducible refine Qb (by assumption) ?_
    | with_reducible refine ZgU (by assumption) ?_
    | (with_reducible refine shD ?_);first | refine VB h (λh=>?_) (λh=>?_) | refine ZuL h (λh=>?_) (λh=>?_)
    | (with_reducible refine ZvU ?_);first | refine Zv6 ?_ | refine ZjM ?_
    | (with_reducible refine ZzB ?_);first | refine ZsS h (λh=>?_) (λh=>?_) | refine Zv5 h (λh=>?_) (λh=>?_)
    | (with_reducible refine ZvT ?_);(refine ⟨λhd=>?_,?_⟩)<;>try subst hd
    | (with_reducible refine ZzD ?_);first | with_reducible refine XZ h (λx hb h=>?_) | refine ZgU (by assumption) ?_ | with_reducible refine pG h (λhp h=>?_) | with_reducible refine pA h (λx ha hb hx h=>?_) | with_reducible refine pB h (λx hb h=>?_) | refine XZ h (λx hb h=>?_)
    | (with_reducible refine ZzA ?_);first | with_reducible refine vAt h (λx ha hb hx h=>?_) | refine ZgM (by assumption) (by assumption) (by assumption) ?_ | with_reducible refine pG h (λhp h=>?_) | with_reducible refine pA h (λx ha hb hx h=>?_) | with_reducible refine pB h (λx hb h=>?_) | refine vAt h (λx ha hb hx h=>?_)
    | (with_reducible refine ZvS ?_);first | with_reducible refine ZpZ h (λx hb h=>?_) | refine Qb (by assumption) ?_ | with_reducible refine pG h (λhp h=>?_) | with_reducible refine pA h (λx ha hb hx h=>?_) | with_reducible refine pB h (λx hb h=>?_) | refine ZpZ h (λx hb h=>?_)
    | with_reducible refine ZzC ?_
    | (with_reducible refine ZrX ?_);refine Zr5 h hK ?_;clear h hK;intro I μ v r h hK;(repeat rcases v with ⟨_,v⟩);(try dsimp only at h)
    | with_reducible refine ⟨by assumption,?_⟩
    | with_reducible refine orL ?_
    | with_reducible refine .inr ?_
    | (with_reducible refine ZvV ?_);first | refine ⟨?_,True.intro⟩ | refine ⟨?_,?_⟩
    | refine ⟨by kernel_rfl,?_⟩
    | refine ⟨by decide,?_⟩
    | with_reducible refine Zwz h (λhp h=>?_)
    | intro fp
    | exact trivial
    | with_reducible exact Zu5 h
    | (refine pS h (λe=>?_));subst e;(repeat (first | exact hK | exact ⟨⟨rfl,rfl⟩,hK.1 _ rfl⟩ | (refine pR hK (λe hK=>?_));subst e));done
    | refine Zwz h (λhp h=>?_)
    | refine ⟨by assumption,?_⟩
    | with_reducible refine pG h (λhp h=>?_) | with_reducible refine pA h (λx ha hb hx h=>?_) | with_reducible refine pB h (λx hb h=>?_)
    | refine pG h (λhp h=>?_)
    | fail
theorem XV (q1:Sq 35 Zys) (q0:Sq 173 c182) (rec0:(List Zj)->Int->Int->Int->Unit->Option (List Zj)) (hrec:Sq 127 (ZW rec0)):Sq 127 (ZW (Zp rec0)):=by
 refine Zf YS (Zb hrec (Zb q1 (Zb q0 Zi))) mixed {loops:=[(0,[.reg 10 (.dat Iq),.reg 11 (.dat Iq)]),(2,[.reg 13 (.dat Iq),.ent 0 (nat_lit 49) (.flat Yr)]),(4,[.reg 14 (.dat Iq),.reg 15 (.dat Iq)]),(6,[.reg 17 (.dat Iq),.ent 0 (nat_lit 49) (.flat Yr)]),(8,[.reg 20 (.dat Iq),.reg 21 (.dat Iq)])],draws:=[(5,[],.u 0 9 (.alt 9 (.op 10 .done) .done)),(11,[],.u 0 15 (.alt 15 (.op 16 (.d 17)) .done)),(17,[],.u 0 9 (.alt 9 (.o [10,11] .done) .done)),(23,[],.u 0 15 (.alt 15 (.op 16 (.d 17)) .done)),(35,[],.u 0 11 (.alt 11 (.o [12,13] .done) .done))]} (fn:=Tryz.f127) Tryz.func127 (by kernel_rfl) (by kernel_rfl) ?_;rintro ⟨a0,a1,a2,a3,a4,⟨⟩⟩ K ⟨r,h,hK⟩
 change Zp rec0 a0 a1 a2 a3 a4=some r at h
 unfold Zp at h
 conv=>whnf
 refine VB h (λh=>?_) (λh=>?_)
 conv=>whnf
 refine ZoW h ?_;rintro I0 μ0 ⟨v0,v1,⟨⟩⟩ zs0 h hI0 hR0
 change Zw a0 a1 v0 v1=some zs0 at h
 unfold Zw at h
 conv=>whnf
 refine VB h (λh=>?_) (λh=>?_)
 conv=>whnf
 refine ⟨by decide,?_⟩
 conv=>whnf
 refine ⟨by kernel_rfl,?_⟩
 conv=>whnf
 refine vAt h (λx0 he1a he1b he1x h=>?_)
 conv=>whnf
 refine ⟨by kernel_rfl,?_⟩
 conv=>whnf
 refine ⟨he1a,he1b,Qb he1x ?_⟩
 conv=>whnf
 refine vAt h (λx1 he2a he2b he2x h=>?_)
 conv=>whnf
 refine ⟨by kernel_rfl,?_⟩
 conv=>whnf
 refine ⟨he2a,he2b,Qb he2x ?_⟩
 conv=>whnf
 refine XZ h (λc1_0 hb3 h=>?_)
 conv=>whnf
 refine ⟨trivial,?_⟩
 conv=>whnf
 refine VB h (λh=>?_) (λh=>?_)
 conv=>whnf
 cases h;exact ⟨⟨rfl,rfl⟩,hI0 _ rfl⟩
 conv=>whnf
 cases h;exact ⟨⟨rfl,rfl⟩,hI0 _ rfl⟩
 conv=>whnf
 refine ZoW h ?_;rintro I4 μ4 ⟨v2,l0,⟨⟩⟩ zs4 h hI4 hR4
 change Zz v0 v2 l0=some zs4 at h
 unfold Zz at h
 conv=>whnf
 refine VB h (λh=>?_) (λh=>?_)
 conv=>whnf
 refine ⟨by kernel_rfl,?_⟩
 conv=>whnf
 refine vAt h (λx0 he5a he5b he5x h=>?_)
 conv=>whnf
 refine ⟨by kernel_rfl,?_⟩
 conv=>whnf
 refine ⟨he5a,he5b,Qb he5x ?_⟩
 conv=>whnf
 refine vAt h (λx1 he6a he6b he6x h=>?_)
 conv=>whnf
 refine ⟨by kernel_rfl,?_⟩
 conv=>whnf
 refine ⟨he6a,he6b,Qb he6x ?_⟩
 conv=>whnf
 refine ⟨he6a,he6b,Qb he6x ?_⟩
 conv=>whnf
 refine ⟨by kernel_rfl,?_⟩
 conv=>whnf
 refine ⟨by decide,?_⟩
 conv=>whnf
 refine ⟨he6a,he6b,Qb he6x ?_⟩
 conv=>whnf
 refine vAt h (λx2 he7a he7b he7x h=>?_)
 conv=>whnf
 refine ⟨by kernel_rfl,?_⟩
 conv=>whnf
 refine ⟨by decide,?_⟩
 conv=>whnf
 refine ⟨he7a,he7b,Qb he7x ?_⟩
 conv=>whnf
 refine ⟨trivial,?_⟩
 conv=>whnf
 cases h;exact ⟨⟨rfl,rfl⟩,hI4 _ rfl⟩
 conv=>whnf
 cases h;obtain rfl:=hR4 _ rfl;obtain rfl:=hR0 _ rfl;exact hK
 conv=>whnf
 refine VB h (λh=>?_) (λh=>?_)
 conv=>whnf
 refine ZoW h ?_;rintro I8 μ8 ⟨v0,v1,⟨⟩⟩ zs8 h hI8 hR8
 change Zx a0 a2 v0 v1=some zs8 at h
 unfold Zx at h
 conv=>whnf
 refine VB h (λh=>?_) (λh=>?_)
 conv=>whnf
 refine ⟨by decide,?_⟩
 conv=>whnf
 refine ⟨by kernel_rfl,?_⟩
 conv=>whnf
 refine vAt h (λx0 he9a he9b he9x h=>?_)
 conv=>whnf
 refine ⟨by kernel_rfl,?_⟩
 conv=>whnf
 refine ⟨he9a,he9b,Qb he9x ?_⟩
 conv=>whnf
 refine vAt h (λx1 he10a he10b he10x h=>?_)
 conv=>whnf
 refine ⟨by kernel_rfl,?_⟩
 conv=>whnf
 refine ⟨he10a,he10b,Qb he10x ?_⟩
 conv=>whnf
 refine XZ h (λc1_0 hb11 h=>?_)
 conv=>whnf
 refine ⟨trivial,?_⟩
 conv=>whnf
 refine ZjM ?_;refine VB h (λh=>?_) (λh=>?_)
 conv=>whnf
 cases h;exact ⟨⟨rfl,rfl⟩,hI8 _ rfl⟩
 conv=>whnf
 cases h;exact ⟨⟨rfl,rfl⟩,hI8 _ rfl⟩
 conv=>whnf
 refine ZoW h ?_;rintro I12 μ12 ⟨v2,l0,⟨⟩⟩ zs12 h hI12 hR12
 change ZA v0 v2 l0=some zs12 at h
 unfold ZA at h
 conv=>whnf
 refine VB h (λh=>?_) (λh=>?_)
 conv=>whnf
 refine ⟨by kernel_rfl,?_⟩
 conv=>whnf
 refine vAt h (λx0 he13a he13b he13x h=>?_)
 conv=>whnf
 refine ⟨by kernel_rfl,?_⟩
 conv=>whnf
 refine ⟨he13a,he13b,Qb he13x ?_⟩
 conv=>whnf
 refine vAt h (λx1 he14a he14b he14x h=>?_)
 conv=>whnf
 refine ⟨by kernel_rfl,?_⟩
 conv=>whnf
 refine ⟨he14a,he14b,Qb he14x ?_⟩
 conv=>whnf
 refine ⟨he14a,he14b,Qb he14x ?_⟩
 conv=>whnf
 refine ⟨by kernel_rfl,?_⟩
 conv=>whnf
 refine ⟨by decide,?_⟩
 conv=>whnf
 refine ⟨he14a,he14b,Qb he14x ?_⟩
 conv=>whnf
 refine vAt h (λx2 he15a he15b he15x h=>?_)
 conv=>whnf
 refine ⟨by kernel_rfl,?_⟩
 conv=>whnf
 refine ⟨by decide,?_⟩
 conv=>whnf
 refine ⟨he15a,he15b,Qb he15x ?_⟩
 conv=>whnf
 refine ⟨trivial,?_⟩
 conv=>whnf
 cases h;exact ⟨⟨rfl,rfl⟩,hI12 _ rfl⟩
 conv=>whnf
 cases h;obtain rfl:=hR12 _ rfl;obtain rfl:=hR8 _ rfl;exact hK
 conv=>whnf
 refine ⟨by decide,?_⟩
 conv=>whnf
 refine VB h (λh=>?_) (λh=>?_)
 conv=>whnf
 refine ZoW h ?_;rintro I16 μ16 ⟨v0,v1,⟨⟩⟩ zs16 h hI16 hR16
 change Zk a0 a1 a2 a3 rec0 v0 v1=some zs16 at h
 unfold Zk at h
 conv=>whnf
 refine VB h (λh=>?_) (λh=>?_)
 conv=>whnf
 refine ⟨by decide,?_⟩
 conv=>whnf
 refine ⟨by kernel_rfl,?_⟩
 conv=>whnf
 refine vAt h (λx0 he17a he17b he17x h=>?_)
 conv=>whnf
 refine ⟨by kernel_rfl,?_⟩
 conv=>whnf
 refine ⟨he17a,he17b,Qb he17x ?_⟩
 conv=>whnf
 refine vAt h (λx1 he18a he18b he18x h=>?_)
 conv=>whnf
 refine ⟨by kernel_rfl,?_⟩
 conv=>whnf
 refine ⟨he18a,he18b,Qb he18x ?_⟩
 conv=>whnf
 refine XZ h (λc1_0 hb19 h=>?_)
 conv=>whnf
 refine ⟨trivial,?_⟩
 conv=>whnf
 refine ZjM ?_;refine VB h (λh=>?_) (λh=>?_)
 conv=>whnf
 cases h;exact ⟨⟨rfl,rfl⟩,hI16 _ rfl⟩
 conv=>whnf
 cases h;exact ⟨⟨rfl,rfl⟩,hI16 _ rfl⟩
 conv=>whnf
 refine VB h (λh=>?_) (λh=>?_)
 conv=>whnf
 refine VB h (λh=>?_) (λh=>?_)
 conv=>whnf
 refine XZ h (λc1_0 hb20 h=>?_)
 conv=>whnf
 refine VB h (λh=>?_) (λh=>?_)
 conv=>whnf
 refine VB h (λh=>?_) (λh=>?_)
 conv=>whnf
 refine XZ h (λr0 hb21 h=>?_)
 conv=>whnf
 refine VB h (λh=>?_) (λh=>?_)
 conv=>whnf
 refine VB h (λh=>?_) (λh=>?_)
 conv=>whnf
 refine XZ h (λr1 hb22 h=>?_)
 conv=>whnf
 cases h;obtain rfl:=hR16 _ rfl;exact hK
 conv=>whnf
 cases h;obtain rfl:=hR16 _ rfl;exact hK
 conv=>whnf
 cases h;obtain rfl:=hR16 _ rfl;exact hK
 conv=>whnf
 refine VB h (λh=>?_) (λh=>?_)
 conv=>whnf
 refine VB h (λh=>?_) (λh=>?_)
 conv=>whnf
 refine XZ h (λr0 hb23 h=>?_)
 conv=>whnf
 cases h;obtain rfl:=hR16 _ rfl;exact hK
 conv=>whnf
 cases h;obtain rfl:=hR16 _ rfl;exact hK
 conv=>whnf
 cases h;obtain rfl:=hR16 _ rfl;exact hK
 conv=>whnf
 refine VB h (λh=>?_) (λh=>?_)
 conv=>whnf
 refine VB h (λh=>?_) (λh=>?_)
 conv=>whnf
 refine XZ h (λr0 hb24 h=>?_)
 conv=>whnf
 cases h;obtain rfl:=hR16 _ rfl;exact hK
 conv=>whnf
 cases h;obtain rfl:=hR16 _ rfl;exact hK
 conv=>whnf
 cases h;obtain rfl:=hR16 _ rfl;exact hK
 conv=>whnf
 refine VB h (λh=>?_) (λh=>?_)
 conv=>whnf
 refine VB h (λh=>?_) (λh=>?_)
 conv=>whnf
 refine XZ h (λr0 hb25 h=>?_)
 conv=>whnf
 refine VB h (λh=>?_) (λh=>?_)
 conv=>whnf
 refine VB h (λh=>?_) (λh=>?_)
 conv=>whnf
 refine XZ h (λr1 hb26 h=>?_)
 conv=>whnf
 cases h;obtain rfl:=hR16 _ rfl;exact hK
 conv=>whnf
 cases h;obtain rfl:=hR16 _ rfl;exact hK
 conv=>whnf
 cases h;obtain rfl:=hR16 _ rfl;exact hK
 conv=>whnf
 refine VB h (λh=>?_) (λh=>?_)
 conv=>whnf
 refine VB h (λh=>?_) (λh=>?_)
 conv=>whnf
 refine XZ h (λr0 hb27 h=>?_)
 conv=>whnf
 cases h;obtain rfl:=hR16 _ rfl;exact hK
 conv=>whnf
 cases h;obtain rfl:=hR16 _ rfl;exact hK
 conv=>whnf
 cases h;obtain rfl:=hR16 _ rfl;exact hK
 conv=>whnf
 refine VB h (λh=>?_) (λh=>?_)
 conv=>whnf
 refine VB h (λh=>?_) (λh=>?_)
 conv=>whnf
 refine XZ h (λr0 hb28 h=>?_)
 conv=>whnf
 cases h;obtain rfl:=hR16 _ rfl;exact hK
 conv=>whnf
 cases h;obtain rfl:=hR16 _ rfl;exact hK
 conv=>whnf
 cases h;obtain rfl:=hR16 _ rfl;exact hK
 conv=>whnf
 refine VB h (λh=>?_) (λh=>?_)
 conv=>whnf
 refine VB h (λh=>?_) (λh=>?_)
 conv=>whnf
 refine XZ h (λr0 hb29 h=>?_)
 conv=>whnf
 refine VB h (λh=>?_) (λh=>?_)
 conv=>whnf
 refine VB h (λh=>?_) (λh=>?_)
 conv=>whnf
 refine XZ h (λr1 hb30 h=>?_)
 conv=>whnf
 cases h;obtain rfl:=hR16 _ rfl;exact hK
 conv=>whnf
 cases h;obtain rfl:=hR16 _ rfl;exact hK
 conv=>whnf
 cases h;obtain rfl:=hR16 _ rfl;exact hK
 conv=>whnf
 refine VB h (λh=>?_) (λh=>?_)
 conv=>whnf
 refine VB h (λh=>?_) (λh=>?_)
 conv=>whnf
 refine XZ h (λr0 hb31 h=>?_)
 conv=>whnf
 cases h;obtain rfl:=hR16 _ rfl;exact hK
 conv=>whnf
 cases h;obtain rfl:=hR16 _ rfl;exact hK
 conv=>whnf
 cases h;obtain rfl:=hR16 _ rfl;exact hK
 conv=>whnf
 refine VB h (λh=>?_) (λh=>?_)
 conv=>whnf
 refine VB h (λh=>?_) (λh=>?_)
 conv=>whnf
 refine XZ h (λr0 hb32 h=>?_)
 conv=>whnf
 cases h;obtain rfl:=hR16 _ rfl;exact hK
 conv=>whnf
 cases h;obtain rfl:=hR16 _ rfl;exact hK
 conv=>whnf
 cases h;obtain rfl:=hR16 _ rfl;exact hK
 conv=>whnf
 refine ZoW h ?_;rintro I33 μ33 ⟨v0,v1,⟨⟩⟩ zs33 h hI33 hR33
 change Zk a0 a1 a2 a3 rec0 v0 v1=some zs33 at h
 unfold Zk at h
 conv=>whnf
 refine VB h (λh=>?_) (λh=>?_)
 conv=>whnf
 refine ⟨by decide,?_⟩
 conv=>whnf
 refine ⟨by kernel_rfl,?_⟩
 conv=>whnf
 refine vAt h (λx0 he34a he34b he34x h=>?_)
 conv=>whnf
 refine ⟨by kernel_rfl,?_⟩
 conv=>whnf
 refine ⟨he34a,he34b,Qb he34x ?_⟩
 conv=>whnf
 refine vAt h (λx1 he35a he35b he35x h=>?_)
 conv=>whnf
 refine ⟨by kernel_rfl,?_⟩
 conv=>whnf
 refine ⟨he35a,he35b,Qb he35x ?_⟩
 conv=>whnf
 refine XZ h (λc1_0 hb36 h=>?_)
 conv=>whnf
 refine ⟨trivial,?_⟩
 conv=>whnf
 refine ZjM ?_;refine VB h (λh=>?_) (λh=>?_)
 conv=>whnf
 cases h;exact ⟨⟨rfl,rfl⟩,hI33 _ rfl⟩
 conv=>whnf
 cases h;exact ⟨⟨rfl,rfl⟩,hI33 _ rfl⟩
 conv=>whnf
 refine VB h (λh=>?_) (λh=>?_)
 conv=>whnf
 refine VB h (λh=>?_) (λh=>?_)
 conv=>whnf
 refine XZ h (λc1_0 hb37 h=>?_)
 conv=>whnf
 refine VB h (λh=>?_) (λh=>?_)
 conv=>whnf
 refine VB h (λh=>?_) (λh=>?_)
 conv=>whnf
 refine XZ h (λr0 hb38 h=>?_)
 conv=>whnf
 refine VB h (λh=>?_) (λh=>?_)
 conv=>whnf
 refine VB h (λh=>?_) (λh=>?_)
 conv=>whnf
 refine XZ h (λr1 hb39 h=>?_)
 conv=>whnf
 cases h;obtain rfl:=hR33 _ rfl;exact hK
 conv=>whnf
 cases h;obtain rfl:=hR33 _ rfl;exact hK
 conv=>whnf
 cases h;obtain rfl:=hR33 _ rfl;exact hK
 conv=>whnf
 refine VB h (λh=>?_) (λh=>?_)
 conv=>whnf
 refine VB h (λh=>?_) (λh=>?_)
 conv=>whnf
 refine XZ h (λr0 hb40 h=>?_)
 conv=>whnf
 cases h;obtain rfl:=hR33 _ rfl;exact hK
 conv=>whnf
 cases h;obtain rfl:=hR33 _ rfl;exact hK
 conv=>whnf
 cases h;obtain rfl:=hR33 _ rfl;exact hK
 conv=>whnf
 refine VB h (λh=>?_) (λh=>?_)
 conv=>whnf
 refine VB h (λh=>?_) (λh=>?_)
 conv=>whnf
 refine XZ h (λr0 hb41 h=>?_)
 conv=>whnf
 cases h;obtain rfl:=hR33 _ rfl;exact hK
 conv=>whnf
 cases h;obtain rfl:=hR33 _ rfl;exact hK
 conv=>whnf
 cases h;obtain rfl:=hR33 _ rfl;exact hK
 conv=>whnf
 refine VB h (λh=>?_) (λh=>?_)
 conv=>whnf
 refine VB h (λh=>?_) (λh=>?_)
 conv=>whnf
 refine XZ h (λr0 hb42 h=>?_)
 conv=>whnf
 refine VB h (λh=>?_) (λh=>?_)
 conv=>whnf
 refine VB h (λh=>?_) (λh=>?_)
 conv=>whnf
 refine XZ h (λr1 hb43 h=>?_)
 conv=>whnf
 cases h;obtain rfl:=hR33 _ rfl;exact hK
 conv=>whnf
 cases h;obtain rfl:=hR33 _ rfl;exact hK
 conv=>whnf
 cases h;obtain rfl:=hR33 _ rfl;exact hK
 conv=>whnf
 refine VB h (λh=>?_) (λh=>?_)
 conv=>whnf
 refine VB h (λh=>?_) (λh=>?_)
 conv=>whnf
 refine XZ h (λr0 hb44 h=>?_)
 conv=>whnf
 cases h;obtain rfl:=hR33 _ rfl;exact hK
 conv=>whnf
 cases h;obtain rfl:=hR33 _ rfl;exact hK
 conv=>whnf
 cases h;obtain rfl:=hR33 _ rfl;exact hK
 conv=>whnf
 refine VB h (λh=>?_) (λh=>?_)
 conv=>whnf
 refine VB h (λh=>?_) (λh=>?_)
 conv=>whnf
 refine XZ h (λr0 hb45 h=>?_)
 conv=>whnf
 cases h;obtain rfl:=hR33 _ rfl;exact hK
 conv=>whnf
 cases h;obtain rfl:=hR33 _ rfl;exact hK
 conv=>whnf
 cases h;obtain rfl:=hR33 _ rfl;exact hK
 conv=>whnf
 refine VB h (λh=>?_) (λh=>?_)
 conv=>whnf
 refine VB h (λh=>?_) (λh=>?_)
 conv=>whnf
 refine XZ h (λr0 hb46 h=>?_)
 conv=>whnf
 refine VB h (λh=>?_) (λh=>?_)
 conv=>whnf
 refine VB h (λh=>?_) (λh=>?_)
 conv=>whnf
 refine XZ h (λr1 hb47 h=>?_)
 conv=>whnf
 cases h;obtain rfl:=hR33 _ rfl;exact hK
 conv=>whnf
 cases h;obtain rfl:=hR33 _ rfl;exact hK
 conv=>whnf
 cases h;obtain rfl:=hR33 _ rfl;exact hK
 conv=>whnf
 refine VB h (λh=>?_) (λh=>?_)
 conv=>whnf
 refine VB h (λh=>?_) (λh=>?_)
 conv=>whnf
 refine XZ h (λr0 hb48 h=>?_)
 conv=>whnf
 cases h;obtain rfl:=hR33 _ rfl;exact hK
 conv=>whnf
 cases h;obtain rfl:=hR33 _ rfl;exact hK
 conv=>whnf
 cases h;obtain rfl:=hR33 _ rfl;exact hK
 conv=>whnf
 refine VB h (λh=>?_) (λh=>?_)
 conv=>whnf
 refine VB h (λh=>?_) (λh=>?_)
 conv=>whnf
 refine XZ h (λr0 hb49 h=>?_)
 conv=>whnf
 cases h;obtain rfl:=hR33 _ rfl;exact hK
 conv=>whnf
 cases h;obtain rfl:=hR33 _ rfl;exact hK
 conv=>whnf
 cases h;obtain rfl:=hR33 _ rfl;exact hK
theorem ZDW (q1:Sq 35 Zys) (q0:Sq 173 c182):Sq 127 c183:=by
 have hn:∀ n,Sq 127 (ZW (Zl n)):=by
  intro n;induction n with
  | zero =>
  refine Zf YS Zi mixed {loops:=[(0,[.reg 10 (.dat Iq),.reg 11 (.dat Iq)]),(2,[.reg 13 (.dat Iq),.ent 0 (nat_lit 49) (.flat Yr)]),(4,[.reg 14 (.dat Iq),.reg 15 (.dat Iq)]),(6,[.reg 17 (.dat Iq),.ent 0 (nat_lit 49) (.flat Yr)]),(8,[.reg 20 (.dat Iq),.reg 21 (.dat Iq)])],draws:=[(5,[],.u 0 9 (.alt 9 (.op 10 .done) .done)),(11,[],.u 0 15 (.alt 15 (.op 16 (.d 17)) .done)),(17,[],.u 0 9 (.alt 9 (.o [10,11] .done) .done)),(23,[],.u 0 15 (.alt 15 (.op 16 (.d 17)) .done)),(35,[],.u 0 11 (.alt 11 (.o [12,13] .done) .done))]} (fn:=Tryz.f127) Tryz.func127 (by kernel_rfl) (by kernel_rfl) ?_;rintro ⟨a0,a1,a2,a3,a4,⟨⟩⟩ K ⟨r,h,hK⟩;cases h
  | succ n ih=>exact XV q1 q0 _ ih
 refine ⟨(hn 0).1,?_⟩;rintro w S vs ⟨a0,a1,a2,a3,a4,⟨⟩⟩ fp K h1 h0 h2 h3 h4 ⟨r,h,hK⟩;obtain ⟨n,hr⟩:=Zmv h;exact (hn n).2 w S vs _ fp K h1 h0 h2 h3 h4 ⟨r,hr,hK⟩
end Go.Proofs.YtioiomifapgimaaGreatDoor
