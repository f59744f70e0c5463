/-
  The functions keep their contracts, if what they call does. Printed by program.
-/
import Derived.Test.YtioiomifapgimaaGreatDoorM
import Derived.KernelRfl
namespace Go.Proofs.YtioiomifapgimaaGreatDoor
open Go Go.Sx
set_option maxRecDepth 100000
set_option maxHeartbeats 100000000
set_option linter.unusedVariables false
set_option linter.unusedSimpArgs false
structure Ws1:Prop where
 w167:Sq 73 ZAm->Sq 36 c167
 w81:Sq 258 c77->Sq 259 c80->Sq 244 c81
 w78:Sq 260 c78
 w75:Sq 257 c53->Sq 261 c75
 w101:Sq 118 ZzO
 w176:Sq 32 c107->Sq 33 c51->Sq 26 ZzY->Sq 27 c130->Sq 34 ZAq->Sq 37 c175->Sq 11 ZAr
 w168:Sq 36 c167->Sq 35 c168
 w88:Sq 214 c87->Sq 215 c56->Sq 165 c88
 w103:Sq 71 c59->Sq 33 c51->Sq 171 Zyp->Sq 70 c63->Sq 122 ZzP
 w177:Sq 7 Zz8->Sq 12 ZAs
 w56:Sq 242 c52->Sq 246 c55->Sq 215 c56
 w71:Sq 290 c70->Sq 278 c71
 w68:Sq 292 c66->Sq 293 c67->Sq 291 c68
 w63:Sq 124 c62->Sq 70 c63
 w130:Sq 62 c117->Sq 63 c124->Sq 64 Zz3->Sq 65 Zz6->Sq 27 c130
 w131:Sq 28 c131
 w59:Sq 71 c59
 w114:Sq 61 ZzS->Sq 107 ZzW->Sq 60 ZzX
 w106:Sq 66 c105->Sq 71 c59->Sq 69 ZzR
 w0:Sq 5 c0
 w80:Sq 281 c79->Sq 259 c80
 w70:Sq 300 c69->Sq 290 c70
 w62:Sq 172 c61->Sq 124 c62
 w69:Sq 291 c68->Sq 300 c69
 w61:Sq 125 c60->Sq 172 c61
 w98:Sq 170 c97->Sq 219 c98
 w171:Sq 220 ZAo->Sq 173 c171
 w134:Sq 42 c22->Sq 137 c46->Sq 82 Zz9
 w24:Sq 42 c22->Sq 302 c24
 w5:Sq 284 c4->Sq 102 c2->Sq 268 c5
 w4:Sq 102 c2->Sq 284 c4
 w16:Sq 154 c16
 w7:Sq 102 c2->Sq 253 c6->Sq 236 c7
 w23:Sq 224 c21->Sq 42 c22->Sq 248 c23
 w32:Sq 42 c22->Sq 177 c32
 w13:Sq 179 c13
 w137:Sq 79 c36->Sq 42 c22->Sq 138 ZAc
 w19:Sq 102 c2->Sq 104 c18->Sq 154 c16->Sq 103 c19
 w139:Sq 154 c16->Sq 179 c13->Sq 134 c14->Sq 183 c138->Sq 139 c139
 w20:Sq 102 c2->Sq 103 c19->Sq 104 c18->Sq 58 c20
 w39:Sq 181 c37->Sq 182 c38->Sq 136 c39
 w41:Sq 136 c39->Sq 180 c40->Sq 135 c41
 w142:Sq 185 ZAe
 w44:Sq 136 c39->Sq 81 c44
 w154:Sq 186 c145->Sq 230 c154
set_option maxHeartbeats 100000000 in
theorem ws1:Ws1:=by
 refine ⟨(λq0=>Zf Zr (Zb q0 Zi) mixed {} Tryz.func36 (hvc:=?_)),
 (λq1 q0=>Zf Zr (Zb q1 (Zb q0 Zi)) mixed {loops:=[(0,[.reg 8 (.dat Iq)])]} Tryz.func244 (hvc:=?_)),
 (Zf Zr Zi mixed {} Tryz.func260 (hvc:=?_)),
 (λq0=>Zf Zr (Zb q0 Zi) mixed {} Tryz.func261 (hvc:=?_)),
 (Zf Zr Zi mixed {loops:=[(0,[.reg 3 (.own (.ol 196 (.flat (ZmR)))),.reg 13 (.dat Iq)]),(2,[.reg 3 (.own (.ol 196 (.flat (ZmR)))),.reg 21 (.dat Iq)]),(4,[.reg 3 (.own (.ol 196 (.flat (ZmR)))),.reg 44 (.dat Iq)])]} Tryz.func118 (hvc:=?_)),
 (λq4 q5 q3 q2 q0 q1=>Zf ZuF (Zb q4 (Zb q5 (Zb q3 (Zb q2 (Zb q0 (Zb q1 Zi)))))) mixed {loops:=[(0,[.reg 14 (.own (.ol 49 (.flat (Yr)))),.reg 44 (.dat Iq)])]} Tryz.func11 (hvc:=?_)),
 (λq0=>Zf Zr (Zb q0 Zi) mixed {} Tryz.func35 (hvc:=?_)),
 (λq1 q0=>Zf Zr (Zb q1 (Zb q0 Zi)) mixed {loops:=[(0,[.reg 3 (.own (.ol 9 (.flat (.str)))),.reg 9 (.dat Iq)])]} Tryz.func165 (hvc:=?_)),
 (λq0 q3 q1 q2=>Zf Zr (Zb q0 (Zb q3 (Zb q1 (Zb q2 Zi)))) mixed {} Tryz.func122 (hvc:=?_)),
 (λq0=>Zf Zr (Zb q0 Zi) mixed {} Tryz.func12 (hvc:=?_)),
 (λq1 q0=>Zf Zr (Zb q1 (Zb q0 Zi)) mixed {loops:=[(0,[.reg 7 (.dat Iq)])]} Tryz.func215 (hvc:=?_)),
 (λq0=>Zf Zr (Zb q0 Zi) mixed {} Tryz.func278 (hvc:=?_)),
 (λq1 q0=>Zf Zr (Zb q1 (Zb q0 Zi)) mixed {} Tryz.func291 (hvc:=?_)),
 (λq0=>Zf Zr (Zb q0 Zi) mixed {} Tryz.func70 (hvc:=?_)),
 (λq2 q0 q3 q1=>Zf Zr (Zb q2 (Zb q0 (Zb q3 (Zb q1 Zi)))) mixed {loops:=[(0,[.reg 4 (.own (.ol 2 (.flat Iq))),.reg 5 (.own (.ol 2 (.flat Iq))),.reg 16 (.dat Iq),.ent 0 (nat_lit 77) (Dp.ol (2:Go.TypeId) (Dp.flat (Ty.int IntKind.i64)))])]} Tryz.func27 (hvc:=?_)),
 (Zf Zr Zi mixed {} Tryz.func28 (hvc:=?_)),
 (Zf Zr Zi mixed {} Tryz.func71 (hvc:=?_)),
 (λq1 q0=>Zf Zr (Zb q1 (Zb q0 Zi)) mixed {} Tryz.func60 (hvc:=?_)),
 (λq0 q1=>Zf Zr (Zb q0 (Zb q1 (ZjY (ZnI YS Zi mixed {draws:=[(1,[],.u 0 17 .done)]} Tryz.func110 (by kernel_rfl) (by kernel_rfl)) (ZjY (ZnI YS (ZjY (ZnI YS (ZjY (ZnI YS Zi mixed {} Tryz.func123 (by kernel_rfl) (by kernel_rfl)) Zi) mixed {loops:=[(0,[.reg 8 (.dat Iq)])]} Tryz.func172 (by kernel_rfl) (by kernel_rfl)) Zi) mixed {} Tryz.func124 (by kernel_rfl) (by kernel_rfl)) Zi)))) mixed {loops:=[(0,[.reg 24 (.dat Iq),.ent 1 (nat_lit 2) (.flat ZqU.ety)]),(2,[.reg 38 (.dat Iq),.ent 1 (nat_lit 2) (.flat ZqU.ety)]),(4,[.cello 1018 6 (.ol 2 (.flat Iq)),.ent 3 (nat_lit 4) (.flat ZuG.ety)]),(6,[.reg 91 (.dat Iq),.cello 1018 6 (.ol (nat_lit 2) (.flat (Ty.int IntKind.i64))),.ent 3 (nat_lit 4) (.flat ZuG.ety)])],draws:=[(1,[],.u 0 4 (.alt 4 (.op 5 (.alt 6 (.op 7 .done) .done)) .done)),(11,[],.u 0 14 (.d 14)),(15,[],.u 0 11 .done)]} Tryz.func69 (hvc:=?_)),
 (Zf Zr Zi mixed {} Tryz.func5 (hvc:=?_)),
 (λq0=>Zf Zr (Zb q0 Zi) mixed {} Tryz.func259 (hvc:=?_)),
 (λq0=>Zf Zr (Zb q0 Zi) mixed {} Tryz.func290 (hvc:=?_)),
 (λq0=>Zf Zr (Zb q0 Zi) mixed {} Tryz.func124 (hvc:=?_)),
 (λq0=>Zf Zr (Zb q0 Zi) mixed {loops:=[(0,[.reg 8 (.dat Iq)])]} Tryz.func300 (hvc:=?_)),
 (λq0=>Zf Zr (Zb q0 Zi) mixed {loops:=[(0,[.reg 8 (.dat Iq)])]} Tryz.func172 (hvc:=?_)),
 (λq0=>Zf Zr (Zb q0 Zi) mixed {loops:=[(0,[.reg 8 (.dat Iq)])]} Tryz.func219 (hvc:=?_)),
 (λq0=>Zf YS (Zb q0 Zi) mixed {loops:=[(0,[.reg 10 (.dat Iq),.reg 11 (.dat Iq),.ent 0 (nat_lit 49) (.flat Yr)])]} Tryz.func173 (hvc:=?_)),
 (λq1 q0=>Zf Zr (Zb q1 (Zb q0 Zi)) mixed {} Tryz.func82 (hvc:=?_)),
 (λq0=>Zf Zr (Zb q0 Zi) mixed {loops:=[(0,[.reg 3 (.dat Iq)])],draws:=[(4,[],.u 0 4 (.alt 4 (.u 5 17 .done) .done))]} Tryz.func302 (hvc:=?_)),
 (λq0 q1=>Zf Zr (Zb q0 (Zb q1 Zi)) mixed {loops:=[(0,[.reg 7 (.own (.ol 2 (.flat Iq))),.reg 9 (.dat Iq),.cell 1000 0 (.sl (.int .u8)),.cell 1000 1 Iq,.cell 1000 2 Iq])],draws:=[(10,[],.u 0 5 (.op 6 (.alt 5 (.alt 7 (.o [8,9,10] .done) .done) (.a [7,5] (.o [8,9,10] .done))))),(12,[],.u 0 6 (.op 7 (.alt 6 (.alt 8 (.o [9,10,11] .done) .done) (.a [8,6] (.o [9,10,11] .done)))))]} Tryz.func268 (hvc:=?_)),
 (λq0=>Zf Zr (Zb q0 Zi) mixed {loops:=[(0,[.reg 5 (.own (.ol 2 (.flat Iq))),.reg 6 (.dat Iq),.reg 7 (.dat Iq),.cell 0 0 (.sl (.int .u8)),.cell 0 1 Iq,.cell 0 2 Iq])]} Tryz.func284 (hvc:=?_)),
 (Zf Zr Zi mixed {} Tryz.func154 (hvc:=?_)),
 (λq1 q0=>Zf YS (Zb q1 (Zb q0 Zi)) mixed {} Tryz.func236 (hvc:=?_)),
 (λq0 q1=>Zf Zr (Zb q0 (Zb q1 Zi)) mixed {loops:=[(0,[.reg 5 (.dat Iq),.reg 6 (.dat Iq)]),(2,[.reg 8 (.dat Iq)])],draws:=[(12,[],.u 0 9 .done)]} Tryz.func248 (hvc:=?_)),
 (λq0=>Zf Zr (Zb q0 Zi) mixed {loops:=[(0,[.reg 6 (.dat Iq)]),(2,[.reg 8 (.dat Iq)]),(4,[.reg 9 (.dat Iq)])],draws:=[(6,[],.u 0 6 (.alt 6 (.u 7 15 .done) .done))]} Tryz.func177 (hvc:=?_)),
 (Zf Zr Zi mixed {loops:=[(0,[.reg 3 (.own (.ol 255 (.flat (Zdu)))),.reg 4 (.dat Iq)]),(2,[.reg 3 (.own (.ol 255 (.flat (Zdu)))),.reg 6 (.dat Iq)]),(4,[.reg 3 (.own (.ol 255 (.flat (Zdu)))),.reg 7 (.dat Iq)])],draws:=[(13,[],.u 0 16 (.a [16,17] (.op 18 .done)))]} Tryz.func179 (hvc:=?_)),
 (λq0 q1=>Zf Zr (Zb q0 (Zb q1 Zi)) mixed {} Tryz.func138 (hvc:=?_)),
 (λq0 q1 q2=>Zf YS (Zb q0 (Zb q1 (Zb q2 Zi))) mixed {draws:=[(7,[],.op 0 (.u 2 7 (.ld 1 (.alt 9 (.a [10,11] (.o [12,13] (.d 14))) (.a [10,9,11] (.o [12,13] (.d 14))))))),(11,[],.o [0,2,7] (.ld 1 (.o [3,4] (.alt 5 (.alt 6 (.alt 8 (.o [9,10,11] (.d 12)) .done) (.a [8,6] (.o [9,10,11] (.d 12)))) (.alt 6 (.alt 5 (.alt 8 (.o [9,10,11] (.d 12)) .done) (.alt 8 (.o [9,10] (.alt 5 (.op 11 (.d 12)) .done)) .done)) (.alt 8 (.alt 5 (.alt 6 (.o [9,10,11] (.d 12)) .done) (.alt 6 (.o [9,10] (.alt 5 (.op 11 (.d 12)) .done)) .done)) .done)))))),(13,[],.o [0,2,6,8,14] (.ld 1 (.o [3,4] (.ld 7 (.o [9,10] (.alt 5 (.alt 11 (.o [12,13] (.alt 15 (.o [16,17] (.d 18)) .done)) (.alt 15 (.op 16 (.alt 11 (.o [12,13,17] (.d 18)) .done)) .done)) (.alt 11 (.o [12,13] (.alt 5 (.alt 15 (.o [16,17] (.d 18)) .done) (.alt 15 (.op 16 (.alt 5 (.op 17 (.d 18)) .done)) .done))) (.alt 15 (.op 16 (.alt 5 (.alt 11 (.o [12,13,17] (.d 18)) .done) (.alt 11 (.o [12,13] (.alt 5 (.op 17 (.d 18)) .done)) .done))) .done))))))))]} Tryz.func103 (hvc:=?_)),
 (λq2 q0 q1 q3=>Zf Zr (Zb q2 (Zb q0 (Zb q1 (Zb q3 Zi)))) mixed {loops:=[(0,[.reg 9 (.dat Iq),.ent 2 (nat_lit 2) (.flat (Ty.int IntKind.i64))]),(2,[.reg 10 (.dat Iq),.ent 2 (nat_lit 2) (.flat (Ty.int IntKind.i64))])],draws:=[(8,[],.u 0 19 (.alt 19 (.o [20,21] (.d 22)) .done)),(12,[],.u 0 14 (.d 14))]} Tryz.func139 (hvc:=?_)),
 (λq1 q0 q2=>Zf YS (Zb q1 (Zb q0 (Zb q2 Zi))) mixed {} Tryz.func58 (hvc:=?_)),
 (λq0 q1=>Zf Zr (Zb q0 (Zb q1 Zi)) mixed {} Tryz.func136 (hvc:=?_)),
 (λq1 q0=>Zf Zr (Zb q1 (Zb q0 Zi)) mixed {loops:=[(0,[.reg 6 (.dat Iq),.ent 1 (nat_lit 2) (.flat ZqU.ety)]),(2,[.reg 7 (.dat (.bool)),.reg 8 (.dat Iq),.ent 1 (nat_lit 2) (.flat ZqU.ety)]),(4,[.reg 10 (.dat Iq),.reg 12 (.dat Iq)])]} Tryz.func135 (hvc:=?_)),
 (Zf Zr Zi mixed {loops:=[(0,[.reg 3 (.own (.ol 2 (.flat Iq))),.reg 4 (.dat Iq)])]} Tryz.func185 (hvc:=?_)),
 (λq0=>Zf Zr (Zb q0 Zi) mixed {loops:=[(0,[.reg 3 (.own (.ol 2 (.flat Iq))),.reg 4 (.dat Iq)])]} Tryz.func81 (hvc:=?_)),
 (λq0=>Zf Zr (Zb q0 Zi) mixed {loops:=[(0,[.reg 3 (.dat Iq),.reg 9 (.dat Iq),.reg 10 (.dat Iq)])],draws:=[(5,[],.u 0 6 (.alt 6 (.op 7 (.a [8,9] .done)) (.a [8,6] (.op 7 (.d 9)))))]} Tryz.func230 (hvc:=?_))⟩
 all_goals
  intro a;repeat rcases a with ⟨_,a⟩
  rintro K ⟨r,h,hK⟩;repeat'
    conv=>whnf
    first
    | with_reducible refine Zu7 ?_
    | with_reducible refine ZgM (by assumption) (by assumption) (by assumption) ?_
    | with_reducible refine Qb (by assumption) ?_
    | with_reducible refine ZgU (by assumption) ?_
    | (with_reducible refine shD ?_);first | refine VB h (λh=>?_) (λh=>?_) | refine ZuL h (λh=>?_) (λh=>?_)
    | (with_reducible refine ZvU ?_);first | refine Zv6 ?_ | refine ZjM ?_
    | (with_reducible refine ZzB ?_);first | refine ZsS h (λh=>?_) (λh=>?_) | refine Zv5 h (λh=>?_) (λh=>?_)
    | (with_reducible refine ZvT ?_);(refine ⟨λhd=>?_,?_⟩)<;>try subst hd
    | (with_reducible refine ZzD ?_);first | with_reducible refine XZ h (λx hb h=>?_) | refine ZgU (by assumption) ?_ | with_reducible refine pG h (λhp h=>?_) | with_reducible refine pA h (λx ha hb hx h=>?_) | with_reducible refine pB h (λx hb h=>?_) | refine XZ h (λx hb h=>?_)
    | (with_reducible refine ZzA ?_);first | with_reducible refine vAt h (λx ha hb hx h=>?_) | refine ZgM (by assumption) (by assumption) (by assumption) ?_ | with_reducible refine pG h (λhp h=>?_) | with_reducible refine pA h (λx ha hb hx h=>?_) | with_reducible refine pB h (λx hb h=>?_) | refine vAt h (λx ha hb hx h=>?_)
    | (with_reducible refine ZvS ?_);first | with_reducible refine ZpZ h (λx hb h=>?_) | refine Qb (by assumption) ?_ | with_reducible refine pG h (λhp h=>?_) | with_reducible refine pA h (λx ha hb hx h=>?_) | with_reducible refine pB h (λx hb h=>?_) | refine ZpZ h (λx hb h=>?_)
    | with_reducible refine ZzC ?_
    | (with_reducible refine ZrX ?_);refine Zr5 h hK ?_;clear h hK;intro I μ v r h hK;(repeat rcases v with ⟨_,v⟩);(try dsimp only at h)
    | with_reducible refine ⟨by assumption,?_⟩
    | with_reducible refine orL ?_
    | with_reducible refine .inr ?_
    | (with_reducible refine ZvV ?_);first | refine ⟨?_,True.intro⟩ | refine ⟨?_,?_⟩
    | refine ⟨by kernel_rfl,?_⟩
    | refine ⟨by decide,?_⟩
    | with_reducible refine Zwz h (λhp h=>?_)
    | intro fp
    | exact trivial
    | with_reducible exact Zu5 h
    | (refine pS h (λe=>?_));subst e;(repeat (first | exact hK | exact ⟨⟨rfl,rfl⟩,hK.1 _ rfl⟩ | (refine pR hK (λe hK=>?_));subst e));done
    | refine Zwz h (λhp h=>?_)
    | refine ⟨by assumption,?_⟩
    | with_reducible refine pG h (λhp h=>?_) | with_reducible refine pA h (λx ha hb hx h=>?_) | with_reducible refine pB h (λx hb h=>?_)
    | refine pG h (λhp h=>?_)
    | fail
end Go.Proofs.YtioiomifapgimaaGreatDoor
