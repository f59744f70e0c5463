/-
  The functions keep their contracts, if what they call does. Printed by program.
-/
import Derived.Test.YtioiomifapgimaaGreatDoorM
import Derived.KernelRfl
namespace Go.Proofs.YtioiomifapgimaaGreatDoor
open Go Go.Sx
set_option maxRecDepth 100000
set_option maxHeartbeats 100000000
set_option linter.unusedVariables false
set_option linter.unusedSimpArgs false
structure Ws0:Prop where
 w129:Sq 117 Zz4->Sq 118 ZzO->Sq 119 c127->Sq 120 Zz5->Sq 65 Zz6
 w74:Sq 294 c73->Sq 279 c74
 w82:Sq 282 c82
 w77:Sq 277 c58->Sq 278 c71->Sq 279 c74->Sq 280 c76->Sq 261 c75->Sq 33 c51->Sq 258 c77
 w86:Sq 261 c75->Sq 70 c63->Sq 262 c85->Sq 245 c86
 w128:Sq 120 Zz5
 w127:Sq 118 ZzO->Sq 119 c127
 w104:Sq 121 ZzN->Sq 118 ZzO->Sq 122 ZzP->Sq 68 ZzQ
 w87:Sq 242 c52->Sq 243 c57->Sq 244 c81->Sq 33 c51->Sq 245 c86->Sq 214 c87
 w124:Sq 113 c119->Sq 114 Zyq->Sq 116 Zz1->Sq 115 Zz2->Sq 63 c124
 w132:Sq 66 c105->Sq 29 Zz7
 w121:Sq 164 Zz0->Sq 114 Zyq
 w123:Sq 115 Zz2
 w58:Sq 277 c58
 w64:Sq 306 c64
 w52:Sq 33 c51->Sq 255 ZhZ->Sq 256 Zd0->Sq 242 c52
 w91:Sq 218 c91
 w116:Sq 110 c116
 w117:Sq 110 c116->Sq 111 Zlx->Sq 112 ZhY->Sq 62 c117
 w95:Sq 172 c94->Sq 124 c95
 w99:Sq 219 c98->Sq 169 c99
 w94:Sq 217 c93->Sq 172 c94
 w174:Sq 72 c173->Sq 34 ZAq
 w135:Sq 41 c43->Sq 81 c44->Sq 82 Zz9->Sq 42 c22->Sq 43 ZAa
 w25:Sq 302 c24->Sq 42 c22->Sq 296 c25
 w140:Sq 138 ZAc->Sq 139 c139->Sq 83 ZAd
 w163:Sq 30 ZAb->Sq 31 c162->Sq 8 Zzj
 w1:Sq 57 c1
 w21:Sq 224 c21
 w138:Sq 183 c138
 w33:Sq 224 c21->Sq 178 c33
 w18:Sq 155 c10->Sq 156 c12->Sq 134 c14->Sq 157 c17->Sq 104 c18
 w15:Sq 201 c15
 w152:Sq 226 Zyr->Sq 189 c152
 w40:Sq 180 c40
 w149:Sq 228 ZAg
 w143:Sq 184 c141->Sq 185 ZAe->Sq 140 c143
 w145:Sq 81 c44->Sq 225 ZAf->Sq 186 c145
 w156:Sq 186 c145->Sq 192 c156
 w47:Sq 137 c46->Sq 106 c47
 w136:Sq 41 c43->Sq 43 ZAa->Sq 30 ZAb
set_option maxHeartbeats 100000000 in
theorem ws0:Ws0:=by
 refine ⟨(λq0 q1 q2 q3=>Zf Zr (Zb q0 (Zb q1 (Zb q2 (Zb q3 Zi)))) mixed {loops:=[(0,[.reg 27 (.dat Iq),.ent 2 (nat_lit 2) (.flat (Ty.int IntKind.i64))]),(2,[.reg 10 (.dat Iq),.ent 2 (nat_lit 2) (.flat (Ty.int IntKind.i64))])],draws:=[(7,[],.u 0 16 (.alt 16 (.o [17,18] (.d 19)) .done)),(12,[],.u 0 14 (.d 14))]} Tryz.func65 (hvc:=?_)),
 (λq0=>Zf Zr (Zb q0 Zi) mixed {} Tryz.func279 (hvc:=?_)),
 (Zf Zr Zi mixed {} Tryz.func282 (hvc:=?_)),
 (λq4 q3 q2 q0 q1 q5=>Zf Zr (Zb q4 (Zb q3 (Zb q2 (Zb q0 (Zb q1 (Zb q5 Zi)))))) mixed {draws:=[(2,[],.u 0 12 (.alt 12 (.u 13 5 (.alt 18 (.u 19 11 (.alt 30 (.u 31 9 .done) .done)) .done)) .done)),(3,[],.o [0,1] (.alt 2 (.u 3 4 (.alt 7 (.u 8 6 (.alt 14 (.u 15 6 (.alt 21 (.o [22,23] .done) .done)) .done)) .done)) .done))]} Tryz.func258 (hvc:=?_)),
 (λq0 q1 q2=>Zf Zr (Zb q0 (Zb q1 (Zb q2 Zi))) mixed {loops:=[(0,[.reg 3 (.dat Iq),.reg 9 (.dat Iq)])],draws:=[(10,[],.u 0 7 (.alt 7 (.u 8 6 (.alt 14 (.o [15,16] .done) .done)) .done)),(12,[],.u 0 10 (.alt 10 (.u 11 4 (.op 16 (.a [15,17] (.o [18,19,20] .done)))) .done))]} Tryz.func245 (hvc:=?_)),
 (Zf Zr Zi mixed {draws:=[(3,[],.u 0 18 .done)]} Tryz.func120 (hvc:=?_)),
 (λq0=>Zf Zr (Zb q0 Zi) mixed {loops:=[(0,[.reg 5 (.own (.ol 2 (.flat Iq))),.reg 11 (.dat Iq)])]} Tryz.func119 (hvc:=?_)),
 (λq1 q0 q2=>Zf Zr (Zb q1 (Zb q0 (Zb q2 Zi))) mixed {loops:=[(0,[.reg 32 (.dat Iq),.ent 1 (nat_lit 2) (.flat ZqU.ety)]),(2,[.reg 50 (.dat Iq)])],draws:=[(13,[],.u 0 5 (.alt 5 (.op 6 .done) .done))]} Tryz.func68 (hvc:=?_)),
 (λq3 q2 q1 q4 q0=>Zf Zr (Zb q3 (Zb q2 (Zb q1 (Zb q4 (Zb q0 Zi))))) mixed {} Tryz.func214 (hvc:=?_)),
 (λq2 q0 q1 q3=>Zf Zr (Zb q2 (Zb q0 (Zb q1 (Zb q3 Zi)))) mixed {loops:=[(0,[.reg 9 (.dat Iq),.reg 27 (.dat Iq)])],draws:=[(9,[],.u 0 5 (.o [6,7,8,10,11] (.alt 5 (.o [9,12,13,14] .done) .done)))]} Tryz.func63 (hvc:=?_)),
 (λq0=>Zf Zr (Zb q0 Zi) mixed {draws:=[(4,[],.u 0 14 (.d 14))]} Tryz.func29 (hvc:=?_)),
 (λq0=>Zf Zr (Zb q0 Zi) mixed {loops:=[(0,[.reg 9 (.dat Iq),.reg 14 (.dat Iq)])]} Tryz.func114 (hvc:=?_)),
 (Zf Zr Zi mixed {draws:=[(1,[],.u 0 8 .done)]} Tryz.func115 (hvc:=?_)),
 (Zf Zr Zi mixed {} Tryz.func277 (hvc:=?_)),
 (Zf Zr Zi mixed {loops:=[(0,[.reg 3 (.dat Iq)])],draws:=[(4,[],.u 0 10 .done)]} Tryz.func306 (hvc:=?_)),
 (λq2 q1 q0=>Zf Zr (Zb q2 (Zb q1 (Zb q0 Zi))) mixed {} Tryz.func242 (hvc:=?_)),
 (Zf Zr Zi mixed {} Tryz.func218 (hvc:=?_)),
 (Zf Zr Zi mixed {draws:=[(1,[],.u 0 17 .done)]} Tryz.func110 (hvc:=?_)),
 (λq0 q2 q1=>Zf YS (Zb q0 (Zb q2 (Zb q1 Zi))) mixed {loops:=[(0,[.reg 20 (.dat Iq),.ent 0 (nat_lit 77) (Dp.ol (2:Go.TypeId) (Dp.flat (Ty.int IntKind.i64)))]),(2,[.reg 6 (.own (.ol 2 (.flat Iq))),.reg 41 (.dat Iq),.ent 0 (nat_lit 77) (Dp.ol (2:Go.TypeId) (Dp.flat (Ty.int IntKind.i64)))])]} Tryz.func62 (hvc:=?_)),
 (λq0=>Zf Zr (Zb q0 Zi) mixed {} Tryz.func124 (hvc:=?_)),
 (λq0=>Zf Zr (Zb q0 Zi) mixed {} Tryz.func169 (hvc:=?_)),
 (λq0=>Zf Zr (Zb q0 Zi) mixed {loops:=[(0,[.reg 8 (.dat Iq)])]} Tryz.func172 (hvc:=?_)),
 (λq0=>Zf YS (Zb q0 Zi) mixed {} Tryz.func34 (hvc:=?_)),
 (λq2 q0 q1 q3=>Zf Zr (Zb q2 (Zb q0 (Zb q1 (Zb q3 Zi)))) mixed {loops:=[(0,[.reg 5 (.dat Iq)])]} Tryz.func43 (hvc:=?_)),
 (λq0 q1=>Zf Zr (Zb q0 (Zb q1 Zi)) mixed {loops:=[(0,[.reg 3 (.dat Iq)])]} Tryz.func296 (hvc:=?_)),
 (λq1 q0=>Zf Zr (Zb q1 (Zb q0 Zi)) mixed {} Tryz.func83 (hvc:=?_)),
 (λq1 q0=>Zf Zr (Zb q1 (Zb q0 Zi)) mixed {} Tryz.func8 (hvc:=?_)),
 (Zf Zr Zi mixed {loops:=[(0,[.reg 4 (.dat Iq),.cell 1007 2 Iq])],draws:=[(5,[],.u 0 10 (.alt 10 (.u 11 4 (.d 15)) .done))]} Tryz.func57 (hvc:=?_)),
 (Zf Zr Zi mixed {loops:=[(0,[.reg 3 (.dat Iq)])]} Tryz.func224 (hvc:=?_)),
 (Zf Zr Zi mixed {draws:=[(3,[],.u 0 18 .done)]} Tryz.func183 (hvc:=?_)),
 (λq0=>Zf Zr (Zb q0 Zi) mixed {loops:=[(0,[.reg 3 (.dat Iq)]),(2,[.reg 4 (.dat Iq)])],draws:=[(9,[],.u 0 9 .done)]} Tryz.func178 (hvc:=?_)),
 (λq2 q3 q1 q0=>Zf YS (Zb q2 (Zb q3 (Zb q1 (Zb q0 Zi)))) mixed {loops:=[(0,[.reg 9 (.own (.ol 162 (Zof))),.reg 10 (.dat Iq),.cell 0 0 (.sl (.int .u8)),.cell 0 1 Iq,.cell 0 2 Iq])]} Tryz.func104 (hvc:=?_)),
 (Zf Zr Zi mixed {} Tryz.func201 (hvc:=?_)),
 (λq0=>Zf Zr (Zb q0 Zi) mixed {} Tryz.func189 (hvc:=?_)),
 (Zf Zr Zi mixed {} Tryz.func180 (hvc:=?_)),
 (Zf Zr Zi mixed {loops:=[(0,[.reg 8 (.dat Iq),.ent 1 (nat_lit 2) (.flat ZqU.ety)]),(2,[.reg 9 (.dat Iq),.ent 1 (nat_lit 2) (.flat ZqU.ety)])],draws:=[(9,[],.u 0 10 (.d 10))]} Tryz.func228 (hvc:=?_)),
 (λq1 q0=>Zf Zr (Zb q1 (Zb q0 Zi)) mixed {draws:=[(3,[],.u 0 4 (.a [4,5] .done))]} Tryz.func140 (hvc:=?_)),
 (λq0 q1=>Zf Zr (Zb q0 (Zb q1 Zi)) mixed {} Tryz.func186 (hvc:=?_)),
 (λq0=>Zf Zr (Zb q0 Zi) mixed {loops:=[(0,[.reg 7 (.dat Iq),.reg 8 (.dat Iq)])],draws:=[(5,[],.u 0 7 (.alt 7 (.u 8 4 .done) .done))]} Tryz.func192 (hvc:=?_)),
 (λq0=>Zf Zr (Zb q0 Zi) mixed {draws:=[(2,[],.u 0 7 (.a [7,8] .done))]} Tryz.func106 (hvc:=?_)),
 (λq1 q0=>Zf Zr (Zb q1 (Zb q0 Zi)) mixed {} Tryz.func30 (hvc:=?_))⟩
 all_goals
  intro a;repeat rcases a with ⟨_,a⟩
  rintro K ⟨r,h,hK⟩;repeat'
    conv=>whnf
    first
    | with_reducible refine Zu7 ?_
    | with_reducible refine ZgM (by assumption) (by assumption) (by assumption) ?_
    | with_reducible refine Qb (by assumption) ?_
    | with_reducible refine ZgU (by assumption) ?_
    | (with_reducible refine shD ?_);first | refine VB h (λh=>?_) (λh=>?_) | refine ZuL h (λh=>?_) (λh=>?_)
    | (with_reducible refine ZvU ?_);first | refine Zv6 ?_ | refine ZjM ?_
    | (with_reducible refine ZzB ?_);first | refine ZsS h (λh=>?_) (λh=>?_) | refine Zv5 h (λh=>?_) (λh=>?_)
    | (with_reducible refine ZvT ?_);(refine ⟨λhd=>?_,?_⟩)<;>try subst hd
    | (with_reducible refine ZzD ?_);first | with_reducible refine XZ h (λx hb h=>?_) | refine ZgU (by assumption) ?_ | with_reducible refine pG h (λhp h=>?_) | with_reducible refine pA h (λx ha hb hx h=>?_) | with_reducible refine pB h (λx hb h=>?_) | refine XZ h (λx hb h=>?_)
    | (with_reducible refine ZzA ?_);first | with_reducible refine vAt h (λx ha hb hx h=>?_) | refine ZgM (by assumption) (by assumption) (by assumption) ?_ | with_reducible refine pG h (λhp h=>?_) | with_reducible refine pA h (λx ha hb hx h=>?_) | with_reducible refine pB h (λx hb h=>?_) | refine vAt h (λx ha hb hx h=>?_)
    | (with_reducible refine ZvS ?_);first | with_reducible refine ZpZ h (λx hb h=>?_) | refine Qb (by assumption) ?_ | with_reducible refine pG h (λhp h=>?_) | with_reducible refine pA h (λx ha hb hx h=>?_) | with_reducible refine pB h (λx hb h=>?_) | refine ZpZ h (λx hb h=>?_)
    | with_reducible refine ZzC ?_
    | (with_reducible refine ZrX ?_);refine Zr5 h hK ?_;clear h hK;intro I μ v r h hK;(repeat rcases v with ⟨_,v⟩);(try dsimp only at h)
    | with_reducible refine ⟨by assumption,?_⟩
    | with_reducible refine orL ?_
    | with_reducible refine .inr ?_
    | (with_reducible refine ZvV ?_);first | refine ⟨?_,True.intro⟩ | refine ⟨?_,?_⟩
    | refine ⟨by kernel_rfl,?_⟩
    | refine ⟨by decide,?_⟩
    | with_reducible refine Zwz h (λhp h=>?_)
    | intro fp
    | exact trivial
    | with_reducible exact Zu5 h
    | (refine pS h (λe=>?_));subst e;(repeat (first | exact hK | exact ⟨⟨rfl,rfl⟩,hK.1 _ rfl⟩ | (refine pR hK (λe hK=>?_));subst e));done
    | refine Zwz h (λhp h=>?_)
    | refine ⟨by assumption,?_⟩
    | with_reducible refine pG h (λhp h=>?_) | with_reducible refine pA h (λx ha hb hx h=>?_) | with_reducible refine pB h (λx hb h=>?_)
    | refine pG h (λhp h=>?_)
    | fail
theorem XV (q1:Sq 35 c168) (q0:Sq 173 c171) (rec0:(List Zj)->Int->Int->Int->Unit->Option (List Zj)) (hrec:Sq 127 (ZW rec0)):Sq 127 (ZW (Zp rec0)):=by
 refine Zf YS (Zb hrec (Zb q1 (Zb q0 Zi))) mixed {loops:=[(0,[.reg 10 (.dat Iq),.reg 11 (.dat Iq)]),(2,[.reg 13 (.dat Iq),.ent 0 (nat_lit 49) (.flat Yr)]),(4,[.reg 14 (.dat Iq),.reg 15 (.dat Iq)]),(6,[.reg 17 (.dat Iq),.ent 0 (nat_lit 49) (.flat Yr)]),(8,[.reg 20 (.dat Iq),.reg 21 (.dat Iq)])],draws:=[(5,[],.u 0 9 (.alt 9 (.op 10 .done) .done)),(11,[],.u 0 15 (.alt 15 (.op 16 (.d 17)) .done)),(17,[],.u 0 9 (.alt 9 (.o [10,11] .done) .done)),(23,[],.u 0 15 (.alt 15 (.op 16 (.d 17)) .done)),(35,[],.u 0 11 (.alt 11 (.o [12,13] .done) .done))]} (fn:=Tryz.f127) Tryz.func127 (by kernel_rfl) (by kernel_rfl) ?_;rintro ⟨a0,a1,a2,a3,a4,⟨⟩⟩ K ⟨r,h,hK⟩
 change Zp rec0 a0 a1 a2 a3 a4=some r at h
 unfold Zp at h
 conv=>whnf
 refine VB h (λh=>?_) (λh=>?_)
 conv=>whnf
 refine ZoW h ?_;rintro I0 μ0 ⟨v0,v1,⟨⟩⟩ zs0 h hI0 hR0
 change Zw a0 a1 v0 v1=some zs0 at h
 unfold Zw at h
 conv=>whnf
 refine VB h (λh=>?_) (λh=>?_)
 conv=>whnf
 refine ⟨by decide,?_⟩
 conv=>whnf
 refine ⟨by kernel_rfl,?_⟩
 conv=>whnf
 refine vAt h (λx0 he1a he1b he1x h=>?_)
 conv=>whnf
 refine ⟨by kernel_rfl,?_⟩
 conv=>whnf
 refine ⟨he1a,he1b,Qb he1x ?_⟩
 conv=>whnf
 refine vAt h (λx1 he2a he2b he2x h=>?_)
 conv=>whnf
 refine ⟨by kernel_rfl,?_⟩
 conv=>whnf
 refine ⟨he2a,he2b,Qb he2x ?_⟩
 conv=>whnf
 refine XZ h (λc1_0 hb3 h=>?_)
 conv=>whnf
 refine ⟨trivial,?_⟩
 conv=>whnf
 refine VB h (λh=>?_) (λh=>?_)
 conv=>whnf
 cases h;exact ⟨⟨rfl,rfl⟩,hI0 _ rfl⟩
 conv=>whnf
 cases h;exact ⟨⟨rfl,rfl⟩,hI0 _ rfl⟩
 conv=>whnf
 refine ZoW h ?_;rintro I4 μ4 ⟨v2,l0,⟨⟩⟩ zs4 h hI4 hR4
 change Zz v0 v2 l0=some zs4 at h
 unfold Zz at h
 conv=>whnf
 refine VB h (λh=>?_) (λh=>?_)
 conv=>whnf
 refine ⟨by kernel_rfl,?_⟩
 conv=>whnf
 refine vAt h (λx0 he5a he5b he5x h=>?_)
 conv=>whnf
 refine ⟨by kernel_rfl,?_⟩
 conv=>whnf
 refine ⟨he5a,he5b,Qb he5x ?_⟩
 conv=>whnf
 refine vAt h (λx1 he6a he6b he6x h=>?_)
 conv=>whnf
 refine ⟨by kernel_rfl,?_⟩
 conv=>whnf
 refine ⟨he6a,he6b,Qb he6x ?_⟩
 conv=>whnf
 refine ⟨he6a,he6b,Qb he6x ?_⟩
 conv=>whnf
 refine ⟨by kernel_rfl,?_⟩
 conv=>whnf
 refine ⟨by decide,?_⟩
 conv=>whnf
 refine ⟨he6a,he6b,Qb he6x ?_⟩
 conv=>whnf
 refine vAt h (λx2 he7a he7b he7x h=>?_)
 conv=>whnf
 refine ⟨by kernel_rfl,?_⟩
 conv=>whnf
 refine ⟨by decide,?_⟩
 conv=>whnf
 refine ⟨he7a,he7b,Qb he7x ?_⟩
 conv=>whnf
 refine ⟨trivial,?_⟩
 conv=>whnf
 cases h;exact ⟨⟨rfl,rfl⟩,hI4 _ rfl⟩
 conv=>whnf
 cases h;obtain rfl:=hR4 _ rfl;obtain rfl:=hR0 _ rfl;exact hK
 conv=>whnf
 refine VB h (λh=>?_) (λh=>?_)
 conv=>whnf
 refine ZoW h ?_;rintro I8 μ8 ⟨v0,v1,⟨⟩⟩ zs8 h hI8 hR8
 change Zx a0 a2 v0 v1=some zs8 at h
 unfold Zx at h
 conv=>whnf
 refine VB h (λh=>?_) (λh=>?_)
 conv=>whnf
 refine ⟨by decide,?_⟩
 conv=>whnf
 refine ⟨by kernel_rfl,?_⟩
 conv=>whnf
 refine vAt h (λx0 he9a he9b he9x h=>?_)
 conv=>whnf
 refine ⟨by kernel_rfl,?_⟩
 conv=>whnf
 refine ⟨he9a,he9b,Qb he9x ?_⟩
 conv=>whnf
 refine vAt h (λx1 he10a he10b he10x h=>?_)
 conv=>whnf
 refine ⟨by kernel_rfl,?_⟩
 conv=>whnf
 refine ⟨he10a,he10b,Qb he10x ?_⟩
 conv=>whnf
 refine XZ h (λc1_0 hb11 h=>?_)
 conv=>whnf
 refine ⟨trivial,?_⟩
 conv=>whnf
 refine ZjM ?_;refine VB h (λh=>?_) (λh=>?_)
 conv=>whnf
 cases h;exact ⟨⟨rfl,rfl⟩,hI8 _ rfl⟩
 conv=>whnf
 cases h;exact ⟨⟨rfl,rfl⟩,hI8 _ rfl⟩
 conv=>whnf
 refine ZoW h ?_;rintro I12 μ12 ⟨v2,l0,⟨⟩⟩ zs12 h hI12 hR12
 change ZA v0 v2 l0=some zs12 at h
 unfold ZA at h
 conv=>whnf
 refine VB h (λh=>?_) (λh=>?_)
 conv=>whnf
 refine ⟨by kernel_rfl,?_⟩
 conv=>whnf
 refine vAt h (λx0 he13a he13b he13x h=>?_)
 conv=>whnf
 refine ⟨by kernel_rfl,?_⟩
 conv=>whnf
 refine ⟨he13a,he13b,Qb he13x ?_⟩
 conv=>whnf
 refine vAt h (λx1 he14a he14b he14x h=>?_)
 conv=>whnf
 refine ⟨by kernel_rfl,?_⟩
 conv=>whnf
 refine ⟨he14a,he14b,Qb he14x ?_⟩
 conv=>whnf
 refine ⟨he14a,he14b,Qb he14x ?_⟩
 conv=>whnf
 refine ⟨by kernel_rfl,?_⟩
 conv=>whnf
 refine ⟨by decide,?_⟩
 conv=>whnf
 refine ⟨he14a,he14b,Qb he14x ?_⟩
 conv=>whnf
 refine vAt h (λx2 he15a he15b he15x h=>?_)
 conv=>whnf
 refine ⟨by kernel_rfl,?_⟩
 conv=>whnf
 refine ⟨by decide,?_⟩
 conv=>whnf
 refine ⟨he15a,he15b,Qb he15x ?_⟩
 conv=>whnf
 refine ⟨trivial,?_⟩
 conv=>whnf
 cases h;exact ⟨⟨rfl,rfl⟩,hI12 _ rfl⟩
 conv=>whnf
 cases h;obtain rfl:=hR12 _ rfl;obtain rfl:=hR8 _ rfl;exact hK
 conv=>whnf
 refine ⟨by decide,?_⟩
 conv=>whnf
 refine VB h (λh=>?_) (λh=>?_)
 conv=>whnf
 refine ZoW h ?_;rintro I16 μ16 ⟨v0,v1,⟨⟩⟩ zs16 h hI16 hR16
 change Zk a0 a1 a2 a3 rec0 v0 v1=some zs16 at h
 unfold Zk at h
 conv=>whnf
 refine VB h (λh=>?_) (λh=>?_)
 conv=>whnf
 refine ⟨by decide,?_⟩
 conv=>whnf
 refine ⟨by kernel_rfl,?_⟩
 conv=>whnf
 refine vAt h (λx0 he17a he17b he17x h=>?_)
 conv=>whnf
 refine ⟨by kernel_rfl,?_⟩
 conv=>whnf
 refine ⟨he17a,he17b,Qb he17x ?_⟩
 conv=>whnf
 refine vAt h (λx1 he18a he18b he18x h=>?_)
 conv=>whnf
 refine ⟨by kernel_rfl,?_⟩
 conv=>whnf
 refine ⟨he18a,he18b,Qb he18x ?_⟩
 conv=>whnf
 refine XZ h (λc1_0 hb19 h=>?_)
 conv=>whnf
 refine ⟨trivial,?_⟩
 conv=>whnf
 refine ZjM ?_;refine VB h (λh=>?_) (λh=>?_)
 conv=>whnf
 cases h;exact ⟨⟨rfl,rfl⟩,hI16 _ rfl⟩
 conv=>whnf
 cases h;exact ⟨⟨rfl,rfl⟩,hI16 _ rfl⟩
 conv=>whnf
 refine VB h (λh=>?_) (λh=>?_)
 conv=>whnf
 refine VB h (λh=>?_) (λh=>?_)
 conv=>whnf
 refine XZ h (λc1_0 hb20 h=>?_)
 conv=>whnf
 refine VB h (λh=>?_) (λh=>?_)
 conv=>whnf
 refine VB h (λh=>?_) (λh=>?_)
 conv=>whnf
 refine XZ h (λr0 hb21 h=>?_)
 conv=>whnf
 refine VB h (λh=>?_) (λh=>?_)
 conv=>whnf
 refine VB h (λh=>?_) (λh=>?_)
 conv=>whnf
 refine XZ h (λr1 hb22 h=>?_)
 conv=>whnf
 cases h;obtain rfl:=hR16 _ rfl;exact hK
 conv=>whnf
 cases h;obtain rfl:=hR16 _ rfl;exact hK
 conv=>whnf
 cases h;obtain rfl:=hR16 _ rfl;exact hK
 conv=>whnf
 refine VB h (λh=>?_) (λh=>?_)
 conv=>whnf
 refine VB h (λh=>?_) (λh=>?_)
 conv=>whnf
 refine XZ h (λr0 hb23 h=>?_)
 conv=>whnf
 cases h;obtain rfl:=hR16 _ rfl;exact hK
 conv=>whnf
 cases h;obtain rfl:=hR16 _ rfl;exact hK
 conv=>whnf
 cases h;obtain rfl:=hR16 _ rfl;exact hK
 conv=>whnf
 refine VB h (λh=>?_) (λh=>?_)
 conv=>whnf
 refine VB h (λh=>?_) (λh=>?_)
 conv=>whnf
 refine XZ h (λr0 hb24 h=>?_)
 conv=>whnf
 cases h;obtain rfl:=hR16 _ rfl;exact hK
 conv=>whnf
 cases h;obtain rfl:=hR16 _ rfl;exact hK
 conv=>whnf
 cases h;obtain rfl:=hR16 _ rfl;exact hK
 conv=>whnf
 refine VB h (λh=>?_) (λh=>?_)
 conv=>whnf
 refine VB h (λh=>?_) (λh=>?_)
 conv=>whnf
 refine XZ h (λr0 hb25 h=>?_)
 conv=>whnf
 refine VB h (λh=>?_) (λh=>?_)
 conv=>whnf
 refine VB h (λh=>?_) (λh=>?_)
 conv=>whnf
 refine XZ h (λr1 hb26 h=>?_)
 conv=>whnf
 cases h;obtain rfl:=hR16 _ rfl;exact hK
 conv=>whnf
 cases h;obtain rfl:=hR16 _ rfl;exact hK
 conv=>whnf
 cases h;obtain rfl:=hR16 _ rfl;exact hK
 conv=>whnf
 refine VB h (λh=>?_) (λh=>?_)
 conv=>whnf
 refine VB h (λh=>?_) (λh=>?_)
 conv=>whnf
 refine XZ h (λr0 hb27 h=>?_)
 conv=>whnf
 cases h;obtain rfl:=hR16 _ rfl;exact hK
 conv=>whnf
 cases h;obtain rfl:=hR16 _ rfl;exact hK
 conv=>whnf
 cases h;obtain rfl:=hR16 _ rfl;exact hK
 conv=>whnf
 refine VB h (λh=>?_) (λh=>?_)
 conv=>whnf
 refine VB h (λh=>?_) (λh=>?_)
 conv=>whnf
 refine XZ h (λr0 hb28 h=>?_)
 conv=>whnf
 cases h;obtain rfl:=hR16 _ rfl;exact hK
 conv=>whnf
 cases h;obtain rfl:=hR16 _ rfl;exact hK
 conv=>whnf
 cases h;obtain rfl:=hR16 _ rfl;exact hK
 conv=>whnf
 refine VB h (λh=>?_) (λh=>?_)
 conv=>whnf
 refine VB h (λh=>?_) (λh=>?_)
 conv=>whnf
 refine XZ h (λr0 hb29 h=>?_)
 conv=>whnf
 refine VB h (λh=>?_) (λh=>?_)
 conv=>whnf
 refine VB h (λh=>?_) (λh=>?_)
 conv=>whnf
 refine XZ h (λr1 hb30 h=>?_)
 conv=>whnf
 cases h;obtain rfl:=hR16 _ rfl;exact hK
 conv=>whnf
 cases h;obtain rfl:=hR16 _ rfl;exact hK
 conv=>whnf
 cases h;obtain rfl:=hR16 _ rfl;exact hK
 conv=>whnf
 refine VB h (λh=>?_) (λh=>?_)
 conv=>whnf
 refine VB h (λh=>?_) (λh=>?_)
 conv=>whnf
 refine XZ h (λr0 hb31 h=>?_)
 conv=>whnf
 cases h;obtain rfl:=hR16 _ rfl;exact hK
 conv=>whnf
 cases h;obtain rfl:=hR16 _ rfl;exact hK
 conv=>whnf
 cases h;obtain rfl:=hR16 _ rfl;exact hK
 conv=>whnf
 refine VB h (λh=>?_) (λh=>?_)
 conv=>whnf
 refine VB h (λh=>?_) (λh=>?_)
 conv=>whnf
 refine XZ h (λr0 hb32 h=>?_)
 conv=>whnf
 cases h;obtain rfl:=hR16 _ rfl;exact hK
 conv=>whnf
 cases h;obtain rfl:=hR16 _ rfl;exact hK
 conv=>whnf
 cases h;obtain rfl:=hR16 _ rfl;exact hK
 conv=>whnf
 refine ZoW h ?_;rintro I33 μ33 ⟨v0,v1,⟨⟩⟩ zs33 h hI33 hR33
 change Zk a0 a1 a2 a3 rec0 v0 v1=some zs33 at h
 unfold Zk at h
 conv=>whnf
 refine VB h (λh=>?_) (λh=>?_)
 conv=>whnf
 refine ⟨by decide,?_⟩
 conv=>whnf
 refine ⟨by kernel_rfl,?_⟩
 conv=>whnf
 refine vAt h (λx0 he34a he34b he34x h=>?_)
 conv=>whnf
 refine ⟨by kernel_rfl,?_⟩
 conv=>whnf
 refine ⟨he34a,he34b,Qb he34x ?_⟩
 conv=>whnf
 refine vAt h (λx1 he35a he35b he35x h=>?_)
 conv=>whnf
 refine ⟨by kernel_rfl,?_⟩
 conv=>whnf
 refine ⟨he35a,he35b,Qb he35x ?_⟩
 conv=>whnf
 refine XZ h (λc1_0 hb36 h=>?_)
 conv=>whnf
 refine ⟨trivial,?_⟩
 conv=>whnf
 refine ZjM ?_;refine VB h (λh=>?_) (λh=>?_)
 conv=>whnf
 cases h;exact ⟨⟨rfl,rfl⟩,hI33 _ rfl⟩
 conv=>whnf
 cases h;exact ⟨⟨rfl,rfl⟩,hI33 _ rfl⟩
 conv=>whnf
 refine VB h (λh=>?_) (λh=>?_)
 conv=>whnf
 refine VB h (λh=>?_) (λh=>?_)
 conv=>whnf
 refine XZ h (λc1_0 hb37 h=>?_)
 conv=>whnf
 refine VB h (λh=>?_) (λh=>?_)
 conv=>whnf
 refine VB h (λh=>?_) (λh=>?_)
 conv=>whnf
 refine XZ h (λr0 hb38 h=>?_)
 conv=>whnf
 refine VB h (λh=>?_) (λh=>?_)
 conv=>whnf
 refine VB h (λh=>?_) (λh=>?_)
 conv=>whnf
 refine XZ h (λr1 hb39 h=>?_)
 conv=>whnf
 cases h;obtain rfl:=hR33 _ rfl;exact hK
 conv=>whnf
 cases h;obtain rfl:=hR33 _ rfl;exact hK
 conv=>whnf
 cases h;obtain rfl:=hR33 _ rfl;exact hK
 conv=>whnf
 refine VB h (λh=>?_) (λh=>?_)
 conv=>whnf
 refine VB h (λh=>?_) (λh=>?_)
 conv=>whnf
 refine XZ h (λr0 hb40 h=>?_)
 conv=>whnf
 cases h;obtain rfl:=hR33 _ rfl;exact hK
 conv=>whnf
 cases h;obtain rfl:=hR33 _ rfl;exact hK
 conv=>whnf
 cases h;obtain rfl:=hR33 _ rfl;exact hK
 conv=>whnf
 refine VB h (λh=>?_) (λh=>?_)
 conv=>whnf
 refine VB h (λh=>?_) (λh=>?_)
 conv=>whnf
 refine XZ h (λr0 hb41 h=>?_)
 conv=>whnf
 cases h;obtain rfl:=hR33 _ rfl;exact hK
 conv=>whnf
 cases h;obtain rfl:=hR33 _ rfl;exact hK
 conv=>whnf
 cases h;obtain rfl:=hR33 _ rfl;exact hK
 conv=>whnf
 refine VB h (λh=>?_) (λh=>?_)
 conv=>whnf
 refine VB h (λh=>?_) (λh=>?_)
 conv=>whnf
 refine XZ h (λr0 hb42 h=>?_)
 conv=>whnf
 refine VB h (λh=>?_) (λh=>?_)
 conv=>whnf
 refine VB h (λh=>?_) (λh=>?_)
 conv=>whnf
 refine XZ h (λr1 hb43 h=>?_)
 conv=>whnf
 cases h;obtain rfl:=hR33 _ rfl;exact hK
 conv=>whnf
 cases h;obtain rfl:=hR33 _ rfl;exact hK
 conv=>whnf
 cases h;obtain rfl:=hR33 _ rfl;exact hK
 conv=>whnf
 refine VB h (λh=>?_) (λh=>?_)
 conv=>whnf
 refine VB h (λh=>?_) (λh=>?_)
 conv=>whnf
 refine XZ h (λr0 hb44 h=>?_)
 conv=>whnf
 cases h;obtain rfl:=hR33 _ rfl;exact hK
 conv=>whnf
 cases h;obtain rfl:=hR33 _ rfl;exact hK
 conv=>whnf
 cases h;obtain rfl:=hR33 _ rfl;exact hK
 conv=>whnf
 refine VB h (λh=>?_) (λh=>?_)
 conv=>whnf
 refine VB h (λh=>?_) (λh=>?_)
 conv=>whnf
 refine XZ h (λr0 hb45 h=>?_)
 conv=>whnf
 cases h;obtain rfl:=hR33 _ rfl;exact hK
 conv=>whnf
 cases h;obtain rfl:=hR33 _ rfl;exact hK
 conv=>whnf
 cases h;obtain rfl:=hR33 _ rfl;exact hK
 conv=>whnf
 refine VB h (λh=>?_) (λh=>?_)
 conv=>whnf
 refine VB h (λh=>?_) (λh=>?_)
 conv=>whnf
 refine XZ h (λr0 hb46 h=>?_)
 conv=>whnf
 refine VB h (λh=>?_) (λh=>?_)
 conv=>whnf
 refine VB h (λh=>?_) (λh=>?_)
 conv=>whnf
 refine XZ h (λr1 hb47 h=>?_)
 conv=>whnf
 cases h;obtain rfl:=hR33 _ rfl;exact hK
 conv=>whnf
 cases h;obtain rfl:=hR33 _ rfl;exact hK
 conv=>whnf
 cases h;obtain rfl:=hR33 _ rfl;exact hK
 conv=>whnf
 refine VB h (λh=>?_) (λh=>?_)
 conv=>whnf
 refine VB h (λh=>?_) (λh=>?_)
 conv=>whnf
 refine XZ h (λr0 hb48 h=>?_)
 conv=>whnf
 cases h;obtain rfl:=hR33 _ rfl;exact hK
 conv=>whnf
 cases h;obtain rfl:=hR33 _ rfl;exact hK
 conv=>whnf
 cases h;obtain rfl:=hR33 _ rfl;exact hK
 conv=>whnf
 refine VB h (λh=>?_) (λh=>?_)
 conv=>whnf
 refine VB h (λh=>?_) (λh=>?_)
 conv=>whnf
 refine XZ h (λr0 hb49 h=>?_)
 conv=>whnf
 cases h;obtain rfl:=hR33 _ rfl;exact hK
 conv=>whnf
 cases h;obtain rfl:=hR33 _ rfl;exact hK
 conv=>whnf
 cases h;obtain rfl:=hR33 _ rfl;exact hK
theorem ZGO (q1:Sq 35 c168) (q0:Sq 173 c171):Sq 127 ZAp:=by
 have hn:∀ n,Sq 127 (ZW (Zl n)):=by
  intro n;induction n with
  | zero =>
  refine Zf YS Zi mixed {loops:=[(0,[.reg 10 (.dat Iq),.reg 11 (.dat Iq)]),(2,[.reg 13 (.dat Iq),.ent 0 (nat_lit 49) (.flat Yr)]),(4,[.reg 14 (.dat Iq),.reg 15 (.dat Iq)]),(6,[.reg 17 (.dat Iq),.ent 0 (nat_lit 49) (.flat Yr)]),(8,[.reg 20 (.dat Iq),.reg 21 (.dat Iq)])],draws:=[(5,[],.u 0 9 (.alt 9 (.op 10 .done) .done)),(11,[],.u 0 15 (.alt 15 (.op 16 (.d 17)) .done)),(17,[],.u 0 9 (.alt 9 (.o [10,11] .done) .done)),(23,[],.u 0 15 (.alt 15 (.op 16 (.d 17)) .done)),(35,[],.u 0 11 (.alt 11 (.o [12,13] .done) .done))]} (fn:=Tryz.f127) Tryz.func127 (by kernel_rfl) (by kernel_rfl) ?_;rintro ⟨a0,a1,a2,a3,a4,⟨⟩⟩ K ⟨r,h,hK⟩;cases h
  | succ n ih=>exact XV q1 q0 _ ih
 refine ⟨(hn 0).1,?_⟩;rintro w S vs ⟨a0,a1,a2,a3,a4,⟨⟩⟩ fp K h1 h0 h2 h3 h4 ⟨r,h,hK⟩;obtain ⟨n,hr⟩:=Zmv h;exact (hn n).2 w S vs _ fp K h1 h0 h2 h3 h4 ⟨r,hr,hK⟩
theorem ZE4 (rec0:Int->Option (List UInt8)) (hrec:Sq 200 (ZEo rec0)):Sq 200 (ZEo (ZD1 rec0)):=by
 refine Zf Zr (Zb hrec Zi) mixed {draws:=[(5,[],.o [0,1,3,4,5] (.alt 2 (.a [6,7,8] (.o [9,10] .done)) (.alt 6 (.alt 2 (.a [7,8] (.o [9,10] .done)) (.alt 7 (.alt 2 (.alt 8 (.o [9,10] .done) .done) (.a [8,2] (.o [9,10] .done))) .done)) .done)))]} (fn:=Tryz.f200) Tryz.func200 (by kernel_rfl) (by kernel_rfl) ?_;rintro ⟨n0,⟨⟩⟩ K ⟨r,h,hK⟩
 change ZD1 rec0 n0=some r at h
 unfold ZD1 at h
 conv=>whnf
 refine VB h (λh=>?_) (λh=>?_)
 conv=>whnf
 refine XZ h (λr0 hb0 h=>?_)
 conv=>whnf
 refine Zwz h (λhp1 h=>?_)
 conv=>whnf
 cases h;exact hK
 conv=>whnf
 refine VB h (λh=>?_) (λh=>?_)
 conv=>whnf
 cases h;exact hK
 focus
  conv=>whnf
  refine ⟨by kernel_rfl,?_⟩
  conv=>whnf
  refine ⟨by decide,?_⟩
  conv=>whnf
  refine ⟨by decide,?_⟩
  conv=>whnf
  obtain ⟨r0,hb2,h⟩:=Option.bind_eq_some_iff.1 h;obtain ⟨hp3,h⟩:=guardE h;refine ⟨?_,?_⟩;rotate_left
  focus
   conv=>whnf
   refine ⟨?_,?_⟩;rotate_left
   focus
    conv=>whnf
    refine ⟨?_,?_⟩;rotate_left
    focus
     conv=>whnf
     refine ⟨_,hb2,?_⟩
     conv=>whnf
     refine ⟨hp3,?_⟩
     conv=>whnf
     refine ⟨trivial,?_⟩
    rotate_right
    focus
     conv=>whnf
     refine ⟨_,hb2,?_⟩
     conv=>whnf
     refine ⟨hp3,?_⟩
     conv=>whnf
     refine ⟨trivial,?_⟩
   rotate_right
   focus
    conv=>whnf
    refine ⟨_,hb2,?_⟩
    conv=>whnf
    refine ⟨hp3,?_⟩
    conv=>whnf
    refine ⟨trivial,?_⟩
  rotate_right
  focus
   conv=>whnf
   refine ⟨_,hb2,?_⟩
   conv=>whnf
   refine ⟨hp3,?_⟩
   conv=>whnf
   refine ⟨trivial,?_⟩
  all_goals
   conv=>whnf
   cases h;exact hK
theorem w11:Sq 200 c11:=by
 have hn:∀ n,Sq 200 (ZEo (ZD3 n)):=by
  intro n;induction n with
  | zero =>
  refine Zf Zr Zi mixed {draws:=[(5,[],.o [0,1,3,4,5] (.alt 2 (.a [6,7,8] (.o [9,10] .done)) (.alt 6 (.alt 2 (.a [7,8] (.o [9,10] .done)) (.alt 7 (.alt 2 (.alt 8 (.o [9,10] .done) .done) (.a [8,2] (.o [9,10] .done))) .done)) .done)))]} (fn:=Tryz.f200) Tryz.func200 (by kernel_rfl) (by kernel_rfl) ?_;rintro ⟨n0,⟨⟩⟩ K ⟨r,h,hK⟩;cases h
  | succ n ih=>exact ZE4 _ ih
 refine ⟨(hn 0).1,?_⟩;rintro w S vs ⟨n0,⟨⟩⟩ fp K h1 h0 h2 h3 h4 ⟨r,h,hK⟩;obtain ⟨n,hr⟩:=Zmv h;exact (hn n).2 w S vs _ fp K h1 h0 h2 h3 h4 ⟨r,hr,hK⟩
end Go.Proofs.YtioiomifapgimaaGreatDoor
