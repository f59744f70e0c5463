/-
  The functions keep their contracts, if what they call does. Printed by program.
-/
import Derived.Test.YtioiomifapgimaaGreatDoorM
import Derived.KernelRfl
namespace Go.Proofs.YtioiomifapgimaaGreatDoor
open Go Go.Sx
set_option maxRecDepth 100000
set_option maxHeartbeats 100000000
set_option linter.unusedVariables false
set_option linter.unusedSimpArgs false
structure Ws2:Prop where
 w178:Sq 73 ZAs->Sq 36 ZAt
 w177:Sq 73 ZAs
 w127:Sq 258 Zz2->Sq 259 Zz4->Sq 244 c127
 w124:Sq 260 c124
 w120:Sq 294 c119->Sq 279 Zz0
 w122:Sq 261 Zyq->Sq 33 c97->Sq 280 Zz1
 w132:Sq 261 Zyq->Sq 70 c109->Sq 262 c131->Sq 245 Zz7
 w133:Sq 242 c98->Sq 243 ZzP->Sq 244 c127->Sq 33 c97->Sq 245 Zz7->Sq 214 Zz8
 w155:Sq 159 ZAi
 w111:Sq 71 c105->Sq 33 c97->Sq 70 c109->Sq 306 ZzT->Sq 301 ZzU
 w98:Sq 33 c97->Sq 255 ZhZ->Sq 256 Zd0->Sq 242 c98
 w105:Sq 71 c105
 w137:Sq 218 ZAc
 w154:Sq 61 c154
 w163:Sq 110 c162->Sq 111 Zlx->Sq 112 ZhY->Sq 62 Zzj
 w195:Sq 252 c194->Sq 234 ZAE
 w200:Sq 150 Zx9->Sq 148 ZAI
 w201:Sq 148 ZAI->Sq 92 c201
 w192:Sq 150 Zx9
 w206:Sq 150 Zx9->Sq 95 c206
 w207:Sq 95 c206->Sq 52 ZAM
 w221:Sq 151 c212->Sq 100 ZAU
 w2:Sq 131 c2
 w1:Sq 221 c0->Sq 174 c1
 w13:Sq 130 c13
 w17:Sq 78 c16->Sq 40 c17
 w40:Sq 90 c39->Sq 48 c40
 w31:Sq 144 c30->Sq 86 c31
 w22:Sq 146 c22
 w29:Sq 85 c28->Sq 45 c29
 w34:Sq 145 c33->Sq 88 c34
 w172:Sq 117 ZAp
 w126:Sq 281 Zz3->Sq 259 Zz4
 w108:Sq 172 c107->Sq 124 ZzS
 w158:Sq 108 c157->Sq 158 ZAj
 w129:Sq 282 Zz5->Sq 281 Zz6
 w119:Sq 295 ZzZ->Sq 294 c119
 w185:Sq 72 ZAw->Sq 34 ZAx
 w180:Sq 35 Zys->Sq 126 ZAu
 w182:Sq 220 ZAv->Sq 173 c182
 w181:Sq 220 ZAv
 w65:Sq 79 c59->Sq 135 c64->Sq 80 c65
 w47:Sq 296 c46->Sq 283 c47
 w49:Sq 42 c43->Sq 265 c48->Sq 249 c49
 w42:Sq 224 c42
 w44:Sq 224 c42->Sq 42 c43->Sq 248 c44
 w73:Sq 183 c73
 w56:Sq 179 c56
 w83:Sq 229 c83
 w66:Sq 79 c59->Sq 80 c65->Sq 41 c66
 w62:Sq 181 c60->Sq 182 c61->Sq 136 c62
 w88:Sq 188 c88
 w68:Sq 137 c68
 w90:Sq 230 c89->Sq 190 c90
 w89:Sq 186 c80->Sq 230 c89
 w95:Sq 83 c75->Sq 84 c94->Sq 44 c95
set_option maxHeartbeats 100000000 in
theorem ws2:Ws2:=by
 refine ⟨(λq0=>Zf Zr (Zb q0 Zi) mixed {} Tryz.func36 (hvc:=?_)),
 (Zf Zr Zi mixed {} Tryz.func73 (hvc:=?_)),
 (λq1 q0=>Zf Zr (Zb q1 (Zb q0 Zi)) mixed {loops:=[(0,[.reg 8 (.dat Iq)])]} Tryz.func244 (hvc:=?_)),
 (Zf Zr Zi mixed {} Tryz.func260 (hvc:=?_)),
 (λq0=>Zf Zr (Zb q0 Zi) mixed {} Tryz.func279 (hvc:=?_)),
 (λq0 q1=>Zf Zr (Zb q0 (Zb q1 Zi)) mixed {} Tryz.func280 (hvc:=?_)),
 (λq0 q1 q2=>Zf Zr (Zb q0 (Zb q1 (Zb q2 Zi))) mixed {loops:=[(0,[.reg 3 (.dat Iq),.reg 9 (.dat Iq)])],draws:=[(10,[],.u 0 7 (.alt 7 (.u 8 6 (.alt 14 (.o [15,16] .done) .done)) .done)),(12,[],.u 0 10 (.alt 10 (.u 11 4 (.op 16 (.a [15,17] (.o [18,19,20] .done)))) .done))]} Tryz.func245 (hvc:=?_)),
 (λq3 q2 q1 q4 q0=>Zf Zr (Zb q3 (Zb q2 (Zb q1 (Zb q4 (Zb q0 Zi))))) mixed {} Tryz.func214 (hvc:=?_)),
 (Zf Zr Zi mixed {loops:=[(0,[.reg 0 (.dat Iq),.reg 1 (.dat Iq)])],draws:=[(2,[],.u 0 6 .done)]} Tryz.func159 (hvc:=?_)),
 (λq0 q3 q2 q1=>Zf Zr (Zb q0 (Zb q3 (Zb q2 (Zb q1 Zi)))) mixed {} Tryz.func301 (hvc:=?_)),
 (λq2 q1 q0=>Zf Zr (Zb q2 (Zb q1 (Zb q0 Zi))) mixed {} Tryz.func242 (hvc:=?_)),
 (Zf Zr Zi mixed {} Tryz.func71 (hvc:=?_)),
 (Zf Zr Zi mixed {} Tryz.func218 (hvc:=?_)),
 (Zf Zr Zi mixed {loops:=[(0,[.reg 3 (.own (.ol 2 (.flat Iq))),.reg 11 (.dat Iq)])]} Tryz.func61 (hvc:=?_)),
 (λq0 q2 q1=>Zf YS (Zb q0 (Zb q2 (Zb q1 Zi))) mixed {loops:=[(0,[.reg 20 (.dat Iq),.ent 0 (nat_lit 77) (Dp.ol (2:Go.TypeId) (Dp.flat (Ty.int IntKind.i64)))]),(2,[.reg 6 (.own (.ol 2 (.flat Iq))),.reg 41 (.dat Iq),.ent 0 (nat_lit 77) (Dp.ol (2:Go.TypeId) (Dp.flat (Ty.int IntKind.i64)))])]} Tryz.func62 (hvc:=?_)),
 (λq0=>Zf Zr (Zb q0 Zi) mixed {} Tryz.func234 (hvc:=?_)),
 (λq0=>Zf Zr (Zb q0 Zi) mixed {} Tryz.func148 (hvc:=?_)),
 (λq0=>Zf Zr (Zb q0 Zi) mixed {loops:=[(0,[.reg 5 (.dat Iq)])],draws:=[(6,[],.u 0 8 (.alt 8 (.op 9 .done) .done))]} Tryz.func92 (hvc:=?_)),
 (Zf Zr Zi mixed {loops:=[(0,[.reg 5 (.dat Iq)])],draws:=[(6,[],.u 0 9 .done)]} Tryz.func150 (hvc:=?_)),
 (λq0=>Zf Zr (Zb q0 Zi) mixed {} Tryz.func95 (hvc:=?_)),
 (λq0=>Zf Zr (Zb q0 Zi) mixed {loops:=[(0,[.reg 5 (.dat Iq)])],draws:=[(6,[],.u 0 8 (.alt 8 (.op 9 .done) .done))]} Tryz.func52 (hvc:=?_)),
 (λq0=>Zf YS (Zb q0 Zi) mixed {loops:=[(0,[.reg 1 (.dat Iq),.reg 5 (.dat Iq),.ent 0 (nat_lit 221) (.flat VQ)])]} Tryz.func100 (hvc:=?_)),
 (Zf Zr Zi mixed {} Tryz.func131 (hvc:=?_)),
 (λq0=>Zf Zr (Zb q0 Zi) mixed {loops:=[(0,[.reg 1 (.dat Iq),.reg 5 (.dat Iq)])]} Tryz.func174 (hvc:=?_)),
 (Zf Zr Zi mixed {} Tryz.func130 (hvc:=?_)),
 (λq0=>Zf Zr (Zb q0 Zi) mixed {loops:=[(0,[.reg 1 (.dat Iq),.reg 5 (.dat Iq)])]} Tryz.func40 (hvc:=?_)),
 (λq0=>Zf Zr (Zb q0 Zi) mixed {} Tryz.func48 (hvc:=?_)),
 (λq0=>Zf YS (Zb q0 Zi) mixed {loops:=[(0,[.reg 4 (.dat Iq),.ent 0 (nat_lit 82) ZbQ])]} Tryz.func86 (hvc:=?_)),
 (Zf Zr Zi mixed {loops:=[(0,[.reg 4 (.dat Iq),.ent 0 (nat_lit 2) (.flat ZqU.ety)])]} Tryz.func146 (hvc:=?_)),
 (λq0=>Zf YS (Zb q0 Zi) mixed {} Tryz.func45 (hvc:=?_)),
 (λq0=>Zf Zr (Zb q0 Zi) mixed {loops:=[(0,[.reg 4 (.dat Iq),.ent 0 (nat_lit 221) (.flat ZzF.ety)])]} Tryz.func88 (hvc:=?_)),
 (Zf Zr Zi mixed {} Tryz.func117 (hvc:=?_)),
 (λq0=>Zf Zr (Zb q0 Zi) mixed {} Tryz.func259 (hvc:=?_)),
 (λq0=>Zf Zr (Zb q0 Zi) mixed {} Tryz.func124 (hvc:=?_)),
 (λq0=>Zf Zr (Zb q0 Zi) mixed {loops:=[(0,[.reg 8 (.dat Iq)])]} Tryz.func158 (hvc:=?_)),
 (λq0=>Zf Zr (Zb q0 Zi) mixed {loops:=[(0,[.reg 8 (.dat Iq)])]} Tryz.func281 (hvc:=?_)),
 (λq0=>Zf Zr (Zb q0 Zi) mixed {loops:=[(0,[.reg 8 (.dat Iq)])]} Tryz.func294 (hvc:=?_)),
 (λq0=>Zf YS (Zb q0 Zi) mixed {} Tryz.func34 (hvc:=?_)),
 (λq0=>Zf YS (Zb q0 Zi) mixed {loops:=[(0,[.reg 8 (.dat Iq),.ent 0 (nat_lit 49) (.flat Yr)]),(2,[.reg 9 (.dat Iq),.ent 0 (nat_lit 49) (.flat Yr)])],draws:=[(4,[],.u 0 14 (.alt 14 (.o [15,16] .done) .done)),(6,[],.u 0 15 (.alt 15 (.op 16 (.d 17)) .done))]} Tryz.func126 (hvc:=?_)),
 (λq0=>Zf YS (Zb q0 Zi) mixed {loops:=[(0,[.reg 10 (.dat Iq),.reg 11 (.dat Iq),.ent 0 (nat_lit 49) (.flat Yr)])]} Tryz.func173 (hvc:=?_)),
 (Zf YS Zi mixed {loops:=[(0,[.reg 10 (.dat Iq),.ent 0 (nat_lit 49) (.flat Yr)])],draws:=[(3,[],.u 0 21 (.alt 21 (.op 22 (.d 23)) .done))]} Tryz.func220 (hvc:=?_)),
 (λq1 q0=>Zf Zr (Zb q1 (Zb q0 Zi)) mixed {} Tryz.func80 (hvc:=?_)),
 (λq0=>Zf Zr (Zb q0 Zi) mixed {loops:=[(0,[.reg 5 (.dat Iq),.cell 1004 0 Iq,.cell 1004 1 Iq])],draws:=[(3,[],.u 0 9 (.a [9,10] .done)),(7,[],.u 0 9 (.d 9)),(8,[],.u 0 9 (.d 9))]} Tryz.func283 (hvc:=?_)),
 (λq1 q0=>Zf Zr (Zb q1 (Zb q0 Zi)) mixed {} Tryz.func249 (hvc:=?_)),
 (Zf Zr Zi mixed {loops:=[(0,[.reg 3 (.dat Iq)])]} Tryz.func224 (hvc:=?_)),
 (λq0 q1=>Zf Zr (Zb q0 (Zb q1 Zi)) mixed {loops:=[(0,[.reg 5 (.dat Iq),.reg 6 (.dat Iq)]),(2,[.reg 8 (.dat Iq)])],draws:=[(12,[],.u 0 9 .done)]} Tryz.func248 (hvc:=?_)),
 (Zf Zr Zi mixed {draws:=[(3,[],.u 0 18 .done)]} Tryz.func183 (hvc:=?_)),
 (Zf Zr Zi mixed {loops:=[(0,[.reg 3 (.own (.ol 255 (.flat (Zdu)))),.reg 4 (.dat Iq)]),(2,[.reg 3 (.own (.ol 255 (.flat (Zdu)))),.reg 6 (.dat Iq)]),(4,[.reg 3 (.own (.ol 255 (.flat (Zdu)))),.reg 7 (.dat Iq)])],draws:=[(13,[],.u 0 16 (.a [16,17] (.op 18 .done)))]} Tryz.func179 (hvc:=?_)),
 (Zf Zr Zi mixed {loops:=[(0,[.reg 0 (.dat Iq),.reg 5 (.own (.ol 2 (.flat Iq))),.reg 6 (.dat Iq)])]} Tryz.func229 (hvc:=?_)),
 (λq1 q0=>Zf Zr (Zb q1 (Zb q0 Zi)) mixed {} Tryz.func41 (hvc:=?_)),
 (λq0 q1=>Zf Zr (Zb q0 (Zb q1 Zi)) mixed {} Tryz.func136 (hvc:=?_)),
 (Zf Zr Zi mixed {loops:=[(0,[.reg 5 (.own (.ol 2 (.flat Iq))),.reg 6 (.dat Iq)])],draws:=[(8,[],.u 0 9 .done)]} Tryz.func188 (hvc:=?_)),
 (Zf Zr Zi mixed {loops:=[(0,[.reg 0 (.dat Iq),.reg 1 (.dat Iq)])]} Tryz.func137 (hvc:=?_)),
 (λq0=>Zf Zr (Zb q0 Zi) mixed {loops:=[(0,[.reg 9 (.dat Iq),.reg 10 (.dat Iq)])]} Tryz.func190 (hvc:=?_)),
 (λq0=>Zf Zr (Zb q0 Zi) mixed {loops:=[(0,[.reg 3 (.dat Iq),.reg 9 (.dat Iq),.reg 10 (.dat Iq)])],draws:=[(5,[],.u 0 6 (.alt 6 (.op 7 (.a [8,9] .done)) (.a [8,6] (.op 7 (.d 9)))))]} Tryz.func230 (hvc:=?_)),
 (λq0 q1=>Zf Zr (Zb q0 (Zb q1 Zi)) mixed {} Tryz.func44 (hvc:=?_))⟩
 all_goals
  intro a;repeat rcases a with ⟨_,a⟩
  rintro K ⟨r,h,hK⟩;repeat'
    conv=>whnf
    first
    | with_reducible refine Zu7 ?_
    | with_reducible refine ZgM (by assumption) (by assumption) (by assumption) ?_
    | with_reducible refine Qb (by assumption) ?_
    | with_reducible refine ZgU (by assumption) ?_
    | (with_reducible refine shD ?_);first | refine VB h (λh=>?_) (λh=>?_) | refine ZuL h (λh=>?_) (λh=>?_)
    | (with_reducible refine ZvU ?_);first | refine Zv6 ?_ | refine ZjM ?_
    | (with_reducible refine ZzB ?_);first | refine ZsS h (λh=>?_) (λh=>?_) | refine Zv5 h (λh=>?_) (λh=>?_)
    | (with_reducible refine ZvT ?_);(refine ⟨λhd=>?_,?_⟩)<;>try subst hd
    | (with_reducible refine ZzD ?_);first | with_reducible refine XZ h (λx hb h=>?_) | refine ZgU (by assumption) ?_ | with_reducible refine pG h (λhp h=>?_) | with_reducible refine pA h (λx ha hb hx h=>?_) | with_reducible refine pB h (λx hb h=>?_) | refine XZ h (λx hb h=>?_)
    | (with_reducible refine ZzA ?_);first | with_reducible refine vAt h (λx ha hb hx h=>?_) | refine ZgM (by assumption) (by assumption) (by assumption) ?_ | with_reducible refine pG h (λhp h=>?_) | with_reducible refine pA h (λx ha hb hx h=>?_) | with_reducible refine pB h (λx hb h=>?_) | refine vAt h (λx ha hb hx h=>?_)
    | (with_reducible refine ZvS ?_);first | with_reducible refine ZpZ h (λx hb h=>?_) | refine Qb (by assumption) ?_ | with_reducible refine pG h (λhp h=>?_) | with_reducible refine pA h (λx ha hb hx h=>?_) | with_reducible refine pB h (λx hb h=>?_) | refine ZpZ h (λx hb h=>?_)
    | with_reducible refine ZzC ?_
    | (with_reducible refine ZrX ?_);refine Zr5 h hK ?_;clear h hK;intro I μ v r h hK;(repeat rcases v with ⟨_,v⟩);(try dsimp only at h)
    | with_reducible refine ⟨by assumption,?_⟩
    | with_reducible refine orL ?_
    | with_reducible refine .inr ?_
    | (with_reducible refine ZvV ?_);first | refine ⟨?_,True.intro⟩ | refine ⟨?_,?_⟩
    | refine ⟨by kernel_rfl,?_⟩
    | refine ⟨by decide,?_⟩
    | with_reducible refine Zwz h (λhp h=>?_)
    | intro fp
    | exact trivial
    | with_reducible exact Zu5 h
    | (refine pS h (λe=>?_));subst e;(repeat (first | exact hK | exact ⟨⟨rfl,rfl⟩,hK.1 _ rfl⟩ | (refine pR hK (λe hK=>?_));subst e));done
    | refine Zwz h (λhp h=>?_)
    | refine ⟨by assumption,?_⟩
    | with_reducible refine pG h (λhp h=>?_) | with_reducible refine pA h (λx ha hb hx h=>?_) | with_reducible refine pB h (λx hb h=>?_)
    | refine pG h (λhp h=>?_)
    | fail
theorem w_laws_FnExactHottestNets (q10:Sq 13 c18) (q3:Sq 14 c19) (q11:Sq 16 c38) (q4:Sq 17 c41) (q5:Sq 15 c96) (q6:Sq 11 ZAz) (q7:Sq 18 ZAB) (q12:Sq 19 c208) (q8:Sq 20 ZAO) (q9:Sq 21 ZAW) (q0:Sq 22 ZAX) (q1:Sq 23 c226) (q2:Sq 24 c227):Sq 4 ZaP:=by
 refine Zf Zr (Zb q10 (Zb q3 (Zb q11 (Zb q4 (Zb q5 (Zb q6 (Zb q7 (Zb q12 (Zb q8 (Zb q9 (Zb q0 (Zb q1 (Zb q2 Zi))))))))))))) mixed {draws:=[(14,[],.o [0,1] (.a [2,3] (.op 4 .done)))]} (fn:=Tryz.f4) Tryz.func4 (by kernel_rfl) (by kernel_rfl) ?_;rintro ⟨a0,a1,a2,⟨⟩⟩ K ⟨r,h,hK⟩
 change XK a0 a1 a2=some r at h
 unfold XK at h
 conv=>whnf
 refine XZ h (λszBlock0 hb0 h=>?_)
 conv=>whnf
 refine VB h (λh=>?_) (λh=>?_)
 conv=>whnf
 cases h;exact hK
 conv=>whnf
 refine XZ h (λszActivityS0 hb1 h=>?_)
 conv=>whnf
 refine VB h (λh=>?_) (λh=>?_)
 conv=>whnf
 cases h;exact hK
 conv=>whnf
 refine XZ h (λtoBlock0 hb2 h=>?_)
 conv=>whnf
 intro fp3
 conv=>whnf
 intro fp4
 conv=>whnf
 intro fp5
 conv=>whnf
 refine XZ h (λtoActivityS0 hb6 h=>?_)
 conv=>whnf
 refine XZ h (λHottestNets0 hb7 h=>?_)
 conv=>whnf
 refine ⟨_,hb2,?_⟩
 conv=>whnf
 intro fp8
 conv=>whnf
 intro fp9
 conv=>whnf
 intro fp10
 conv=>whnf
 refine ⟨_,hb6,?_⟩
 conv=>whnf
 refine XZ h (λHottestNets1 hb11 h=>?_)
 conv=>whnf
 refine XZ h (λeqNetShareS0 hb12 h=>?_)
 conv=>whnf
 refine Zv6 ?_;refine ZsS h (λh=>?_) (λh=>?_)
 conv=>whnf
 refine ZjM ?_;refine VB h (λh=>?_) (λh=>?_)
 conv=>whnf
 refine ⟨by kernel_rfl,?_⟩
 conv=>whnf
 refine ⟨_,hb2,?_⟩
 conv=>whnf
 intro fp13
 conv=>whnf
 intro fp14
 conv=>whnf
 intro fp15
 conv=>whnf
 refine XZ h (λeqBlock0 hb16 h=>?_)
 conv=>whnf
 refine ⟨trivial,?_⟩
 conv=>whnf
 refine ZjM ?_;refine ZsS h (λh=>?_) (λh=>?_)
 conv=>whnf
 refine ⟨_,hb6,?_⟩
 conv=>whnf
 refine XZ h (λeqActivityS0 hb17 h=>?_)
 conv=>whnf
 refine ZjM ?_;refine ZsS h (λh=>?_) (λh=>?_)
 conv=>whnf
 refine XZ h (λmarkBlock0 hb18 h=>?_)
 conv=>whnf
 intro fp19
 conv=>whnf
 intro fp20
 conv=>whnf
 intro fp21
 conv=>whnf
 refine XZ h (λmarkActivityS0 hb22 h=>?_)
 conv=>whnf
 refine ZuL h (λh=>?_) (λh=>?_)
 conv=>whnf
 cases h;exact hK
 conv=>whnf
 refine ⟨_,hb12,?_⟩
 conv=>whnf
 refine Zv6 ?_;refine ZsS h (λh=>?_) (λh=>?_)
 conv=>whnf
 refine ZjM ?_;refine VB h (λh=>?_) (λh=>?_)
 conv=>whnf
 refine XZ h (λmarkNetShareS0 hb23 h=>?_)
 conv=>whnf
 refine XZ h (λheldNetShareS0 hb24 h=>?_)
 conv=>whnf
 refine VB h (λh=>?_) (λh=>?_)
 conv=>whnf
 cases h;exact hK
 conv=>whnf
 refine ZjM ?_;refine VB h (λh=>?_) (λh=>?_)
 conv=>whnf
 refine ⟨_,hb2,?_⟩
 conv=>whnf
 intro fp25
 conv=>whnf
 intro fp26
 conv=>whnf
 intro fp27
 conv=>whnf
 refine ⟨_,hb6,?_⟩
 conv=>whnf
 refine ⟨_,hb11,?_⟩
 conv=>whnf
 refine ⟨_,hb12,?_⟩
 conv=>whnf
 refine Zv6 ?_;refine ZsS h (λh=>?_) (λh=>?_)
 conv=>whnf
 refine ZjM ?_;refine VB h (λh=>?_) (λh=>?_)
 conv=>whnf
 refine ⟨_,hb24,?_⟩
 conv=>whnf
 refine VB h (λh=>?_) (λh=>?_)
 conv=>whnf
 cases h;exact hK
 conv=>whnf
 refine ZjM ?_;refine VB h (λh=>?_) (λh=>?_)
 conv=>whnf
 cases h;exact hK
 conv=>whnf
 cases h;exact hK
 conv=>whnf
 cases h;exact hK
 conv=>whnf
 cases h;exact hK
 conv=>whnf
 cases h;exact hK
 conv=>whnf
 cases h;exact hK
 conv=>whnf
 cases h;exact hK
 conv=>whnf
 cases h;exact hK
 conv=>whnf
 cases h;exact hK
 conv=>whnf
 cases h;exact hK
 conv=>whnf
 cases h;exact hK
theorem ZmX (q1:Sq 136 c62) (q0:Sq 180 c63) (rec0:Ze->Int->(List Bool)->(List Bool)->Option ((List Bool)×(List Bool))) (hrec:Sq 184 (ZbL rec0)):Sq 184 (ZbL (Xh rec0)):=by
 refine Zf YS (Zb hrec (Zb q1 (Zb q0 Zi))) mixed {loops:=[(0,[.reg 10 (.dat Iq),.ent 0 (nat_lit 4) (.flat Ty.bool),.ent 1 (nat_lit 4) (.flat Ty.bool)])],draws:=[(10,[],.u 0 7 (.d 7))]} (fn:=Tryz.f184) Tryz.func184 (by kernel_rfl) (by kernel_rfl) ?_;rintro ⟨b0,net0,marks0,seen0,⟨⟩⟩ K ⟨r,h,hK⟩
 change Xh rec0 b0 net0 marks0 seen0=some r at h
 unfold Xh at h
 conv=>whnf
 refine vAt h (λx0 he0a he0b he0x h=>?_)
 conv=>whnf
 refine ⟨by kernel_rfl,?_⟩
 conv=>whnf
 refine ⟨he0a,he0b,Qb he0x ?_⟩
 conv=>whnf
 refine ZsS h (λh=>?_) (λh=>?_)
 conv=>whnf
 cases h;exact hK
 conv=>whnf
 refine ⟨he0a,he0b,Qb he0x ?_⟩
 conv=>whnf
 refine ⟨by kernel_rfl,?_⟩
 conv=>whnf
 refine ⟨by decide,?_⟩
 conv=>whnf
 refine ⟨he0a,he0b,Qb he0x ?_⟩
 conv=>whnf
 refine XZ h (λl28Gate0 hb1 h=>?_)
 conv=>whnf
 refine VB h (λh=>?_) (λh=>?_)
 conv=>whnf
 refine vAt h (λx1 he2a he2b he2x h=>?_)
 conv=>whnf
 refine ⟨by kernel_rfl,?_⟩
 conv=>whnf
 refine ⟨by decide,?_⟩
 conv=>whnf
 refine ⟨he2a,he2b,Qb he2x ?_⟩
 conv=>whnf
 cases h;exact hK
 conv=>whnf
 refine XZ h (λl28Inputs0 hb3 h=>?_)
 conv=>whnf
 refine ZoW h ?_;rintro I4 μ4 ⟨i0,l0,l1,⟨⟩⟩ zs4 h hI4 hR4
 change Xm b0 rec0 l28Inputs0 i0 l0 l1=some zs4 at h
 unfold Xm at h
 conv=>whnf
 refine VB h (λh=>?_) (λh=>?_)
 conv=>whnf
 refine ⟨by kernel_rfl,?_⟩
 conv=>whnf
 refine vAt h (λx1 he5a he5b he5x h=>?_)
 conv=>whnf
 refine XZ h (λr0 hb6 h=>?_)
 conv=>whnf
 refine ⟨trivial,?_⟩
 conv=>whnf
 cases h;exact ⟨⟨rfl,rfl⟩,hI4 _ rfl⟩
 conv=>whnf
 cases h;obtain rfl:=hR4 _ rfl;exact hK
theorem w76 (q1:Sq 136 c62) (q0:Sq 180 c63):Sq 184 c76:=by
 have hn:∀ n,Sq 184 (ZbL (Xc n)):=by
  intro n;induction n with
  | zero =>
  refine Zf YS Zi mixed {loops:=[(0,[.reg 10 (.dat Iq),.ent 0 (nat_lit 4) (.flat Ty.bool),.ent 1 (nat_lit 4) (.flat Ty.bool)])],draws:=[(10,[],.u 0 7 (.d 7))]} (fn:=Tryz.f184) Tryz.func184 (by kernel_rfl) (by kernel_rfl) ?_;rintro ⟨b0,net0,marks0,seen0,⟨⟩⟩ K ⟨r,h,hK⟩;cases h
  | succ n ih=>exact ZmX q1 q0 _ ih
 refine ⟨(hn 0).1,?_⟩;rintro w S vs ⟨b0,net0,marks0,seen0,⟨⟩⟩ fp K h1 h0 h2 h3 h4 ⟨r,h,hK⟩;obtain ⟨n,hr⟩:=Zmv h;exact (hn n).2 w S vs _ fp K h1 h0 h2 h3 h4 ⟨r,hr,hK⟩
end Go.Proofs.YtioiomifapgimaaGreatDoor
