/-
  The functions keep their contracts, if what they call does. Printed by program.
-/
import Derived.Test.YtioiomifapgimaaGreatDoorM
import Derived.KernelRfl
namespace Go.Proofs.YtioiomifapgimaaGreatDoor
open Go Go.Sx
set_option maxRecDepth 100000
set_option maxHeartbeats 100000000
set_option linter.unusedVariables false
set_option linter.unusedSimpArgs false
structure Ws3:Prop where
 w166:Sq 73 ZAm
 w105:Sq 66 c105
 w72:Sq 295 c72
 w85:Sq 259 c84->Sq 262 c85
 w76:Sq 261 c75->Sq 33 c51->Sq 280 c76
 w96:Sq 216 c90->Sq 33 c51->Sq 124 c95->Sq 167 c96
 w100:Sq 165 c88->Sq 166 c89->Sq 167 c96->Sq 168 c92->Sq 169 c99->Sq 121 ZzN
 w110:Sq 33 c51->Sq 159 c109->Sq 109 ZzT
 w133:Sq 26 ZzY->Sq 27 c130->Sq 28 c131->Sq 29 Zz7->Sq 7 Zz8
 w57:Sq 33 c51->Sq 257 c53->Sq 215 c56->Sq 243 c57
 w60:Sq 33 c51->Sq 125 c60
 w125:Sq 64 Zz3
 w122:Sq 116 Zz1
 w65:Sq 71 c59->Sq 33 c51->Sq 70 c63->Sq 306 c64->Sq 301 c65
 w90:Sq 216 c90
 w175:Sq 37 c175
 w107:Sq 68 ZzQ->Sq 69 ZzR->Sq 71 c59->Sq 70 c63->Sq 32 c107
 w111:Sq 109 ZzT->Sq 33 c51->Sq 108 ZzU
 w108:Sq 61 ZzS
 w118:Sq 110 c116->Sq 66 c105->Sq 213 ZzZ
 w113:Sq 158 ZzV->Sq 107 ZzW
 w55:Sq 263 c54->Sq 246 c55
 w79:Sq 260 c78->Sq 281 c79
 w73:Sq 295 c72->Sq 294 c73
 w54:Sq 263 c54
 w169:Sq 35 c168->Sq 126 ZAn
 w173:Sq 126 ZAn->Sq 127 ZAp->Sq 72 c173
 w170:Sq 220 ZAo
 w49:Sq 57 c1->Sq 58 c20->Sq 59 c48->Sq 25 c49
 w50:Sq 25 c49->Sq 6 c50
 w36:Sq 132 c34->Sq 134 c14->Sq 133 c35->Sq 79 c36
 w30:Sq 248 c23->Sq 224 c21->Sq 42 c22->Sq 249 c28->Sq 250 c29->Sq 223 c30
 w42:Sq 79 c36->Sq 135 c41->Sq 80 c42
 w157:Sq 191 c157
 w2:Sq 102 c2
 w10:Sq 198 c8->Sq 199 c9->Sq 155 c10
 w8:Sq 102 c2->Sq 235 c3->Sq 236 c7->Sq 198 c8
 w27:Sq 283 c26->Sq 265 c27
 w153:Sq 188 Zzi
 w48:Sq 105 c45->Sq 102 c2->Sq 106 c47->Sq 59 c48
 w46:Sq 137 c46
 w146:Sq 140 c143->Sq 186 c145->Sq 141 c146
 w159:Sq 140 c143->Sq 141 c146->Sq 142 ZAj->Sq 84 c159
 w162:Sq 44 c160->Sq 67 ZAk->Sq 31 c162
set_option maxHeartbeats 100000000 in
theorem ws3:Ws3:=by
 refine ⟨(Zf Zr Zi mixed {} Tryz.func73 (hvc:=?_)),
 (Zf Zr Zi mixed {draws:=[(1,[],.u 0 12 (.d 12))]} Tryz.func66 (hvc:=?_)),
 (Zf Zr Zi mixed {} Tryz.func295 (hvc:=?_)),
 (λq0=>Zf Zr (Zb q0 Zi) mixed {} Tryz.func262 (hvc:=?_)),
 (λq0 q1=>Zf Zr (Zb q0 (Zb q1 Zi)) mixed {} Tryz.func280 (hvc:=?_)),
 (λq1 q2 q0=>Zf Zr (Zb q1 (Zb q2 (Zb q0 Zi))) mixed {draws:=[(1,[],.u 0 4 (.alt 4 (.op 5 (.alt 6 (.u 7 18 (.alt 25 (.o [26,27,28] .done) .done)) .done)) .done))]} Tryz.func167 (hvc:=?_)),
 (λq4 q2 q1 q3 q0=>Zf Zr (Zb q4 (Zb q2 (Zb q1 (Zb q3 (Zb q0 Zi))))) mixed {loops:=[(0,[.reg 25 (.dat Iq),.ent 2 (nat_lit 3) (.flat ZuH.ety)]),(2,[.reg 51 (.dat Iq),.ent 2 (nat_lit 3) (.flat ZuH.ety)])]} Tryz.func121 (hvc:=?_)),
 (λq0 q1=>Zf Zr (Zb q0 (Zb q1 Zi)) mixed {} Tryz.func109 (hvc:=?_)),
 (λq3 q2 q1 q0=>Zf Zr (Zb q3 (Zb q2 (Zb q1 (Zb q0 Zi)))) mixed {loops:=[(0,[.reg 32 (.dat Iq),.cell 4 0 Iq]),(2,[.reg 46 (.dat Iq),.cell 4 1 Iq,.cell 4 2 Iq])]} Tryz.func7 (hvc:=?_)),
 (λq2 q0 q1=>Zf Zr (Zb q2 (Zb q0 (Zb q1 Zi))) mixed {loops:=[(0,[.reg 3 (.own (.ol 9 (.flat (.str)))),.reg 8 (.dat Iq)])]} Tryz.func243 (hvc:=?_)),
 (λq0=>Zf Zr (Zb q0 Zi) mixed {} Tryz.func125 (hvc:=?_)),
 (Zf Zr Zi mixed {loops:=[(0,[.reg 5 (.dat Iq),.reg 10 (.dat Iq)])]} Tryz.func64 (hvc:=?_)),
 (Zf Zr Zi mixed {loops:=[(0,[.reg 7 (.dat Iq),.reg 12 (.dat Iq)])]} Tryz.func116 (hvc:=?_)),
 (λq0 q3 q2 q1=>Zf Zr (Zb q0 (Zb q3 (Zb q2 (Zb q1 Zi)))) mixed {} Tryz.func301 (hvc:=?_)),
 (Zf Zr Zi mixed {} Tryz.func216 (hvc:=?_)),
 (Zf Zr Zi mixed {} Tryz.func37 (hvc:=?_)),
 (λq3 q2 q0 q1=>Zf Zr (Zb q3 (Zb q2 (Zb q0 (Zb q1 Zi)))) mixed {} Tryz.func32 (hvc:=?_)),
 (λq0 q1=>Zf Zr (Zb q0 (Zb q1 Zi)) mixed {} Tryz.func108 (hvc:=?_)),
 (Zf Zr Zi mixed {loops:=[(0,[.reg 3 (.own (.ol 2 (.flat Iq))),.reg 11 (.dat Iq)])]} Tryz.func61 (hvc:=?_)),
 (λq0 q1=>Zf Zr (Zb q0 (Zb q1 Zi)) mixed {loops:=[(0,[.reg 22 (.dat Iq),.ent 0 (nat_lit 2) (.flat ZqU.ety)]),(2,[.reg 8 (.dat Iq),.reg 44 (.dat Iq)])],draws:=[(13,[],.u 0 13 (.op 15 (.alt 13 (.o [14,16,17,18] (.d 19)) .done)))]} Tryz.func213 (hvc:=?_)),
 (λq0=>Zf Zr (Zb q0 Zi) mixed {} Tryz.func107 (hvc:=?_)),
 (λq0=>Zf Zr (Zb q0 Zi) mixed {} Tryz.func246 (hvc:=?_)),
 (λq0=>Zf Zr (Zb q0 Zi) mixed {loops:=[(0,[.reg 8 (.dat Iq)])]} Tryz.func281 (hvc:=?_)),
 (λq0=>Zf Zr (Zb q0 Zi) mixed {loops:=[(0,[.reg 8 (.dat Iq)])]} Tryz.func294 (hvc:=?_)),
 (Zf Zr Zi mixed {loops:=[(0,[.reg 8 (.dat Iq)])]} Tryz.func263 (hvc:=?_)),
 (λq0=>Zf YS (Zb q0 Zi) mixed {loops:=[(0,[.reg 8 (.dat Iq),.ent 0 (nat_lit 49) (.flat Yr)]),(2,[.reg 9 (.dat Iq),.ent 0 (nat_lit 49) (.flat Yr)])],draws:=[(4,[],.u 0 14 (.alt 14 (.o [15,16] .done) .done)),(6,[],.u 0 15 (.alt 15 (.op 16 (.d 17)) .done))]} Tryz.func126 (hvc:=?_)),
 (λq0 q1=>Zf YS (Zb q0 (Zb q1 Zi)) mixed {loops:=[(0,[.reg 7 (.dat Iq),.reg 8 (.dat Iq),.ent 0 (nat_lit 49) (.flat Yr)]),(2,[.reg 6 (.dat Iq),.ent 0 (nat_lit 49) (.flat Yr)]),(4,[.reg 7 (.dat Iq),.reg 8 (.dat Iq),.ent 0 (nat_lit 49) (.flat Yr)])]} Tryz.func72 (hvc:=?_)),
 (Zf YS Zi mixed {loops:=[(0,[.reg 10 (.dat Iq),.ent 0 (nat_lit 49) (.flat Yr)])],draws:=[(3,[],.u 0 21 (.alt 21 (.op 22 (.d 23)) .done))]} Tryz.func220 (hvc:=?_)),
 (λq1 q2 q0=>Zf Zr (Zb q1 (Zb q2 (Zb q0 Zi))) mixed {draws:=[(3,[],.o [1,2] (.ld 0 (.a [3,4] (.op 5 .done))))]} Tryz.func25 (hvc:=?_)),
 (λq0=>Zf Zr (Zb q0 Zi) mixed {} Tryz.func6 (hvc:=?_)),
 (λq0 q1 q2=>Zf Zr (Zb q0 (Zb q1 (Zb q2 Zi))) mixed {loops:=[(0,[.reg 3 (.dat Iq)])],draws:=[(6,[],.u 0 8 (.alt 8 (.op 9 (.alt 10 (.op 11 .done) .done)) .done))]} Tryz.func79 (hvc:=?_)),
 (λq1 q2 q4 q3 q0=>Zf Zr (Zb q1 (Zb q2 (Zb q4 (Zb q3 (Zb q0 Zi))))) mixed {loops:=[(0,[.reg 5 (.dat Iq)]),(2,[.reg 7 (.dat Iq)]),(5,[.reg 9 (.dat Iq)])],draws:=[(13,[],.u 0 31 .done),(25,[],.u 0 26 .done)]} Tryz.func223 (hvc:=?_)),
 (λq1 q0=>Zf Zr (Zb q1 (Zb q0 Zi)) mixed {} Tryz.func80 (hvc:=?_)),
 (Zf Zr Zi mixed {} Tryz.func191 (hvc:=?_)),
 (Zf Zr Zi mixed {draws:=[(3,[],.u 0 10 .done),(4,[],.u 0 10 (.alt 10 (.op 11 .done) .done))]} Tryz.func102 (hvc:=?_)),
 (λq1 q0=>Zf YS (Zb q1 (Zb q0 Zi)) mixed {} Tryz.func155 (hvc:=?_)),
 (λq2 q1 q0=>Zf YS (Zb q2 (Zb q1 (Zb q0 Zi))) mixed {loops:=[(0,[.reg 9 (.own (.ol 241 (.flat (Zdh)))),.reg 10 (.dat Iq),.cell 1000 0 (.sl (.int .u8)),.cell 1000 1 Iq,.cell 1000 2 Iq]),(2,[.reg 12 (.own (.ol 274 (ZuV))),.reg 13 (.dat Iq),.cell 1000 0 (.sl (.int .u8)),.cell 1000 1 Iq,.cell 1000 2 Iq])],draws:=[(7,[],.u 0 5 (.op 6 (.alt 5 (.alt 7 (.o [8,9] (.a [10,11] (.op 12 .done))) .done) (.alt 7 (.op 8 (.alt 5 (.op 9 (.a [10,11] (.op 12 .done))) .done)) .done))))]} Tryz.func198 (hvc:=?_)),
 (λq0=>Zf Zr (Zb q0 Zi) mixed {loops:=[(0,[.reg 5 (.dat Iq)])]} Tryz.func265 (hvc:=?_)),
 (Zf Zr Zi mixed {loops:=[(0,[.reg 5 (.own (.ol 2 (.flat Iq))),.reg 6 (.dat Iq)])],draws:=[(8,[],.u 0 9 .done)]} Tryz.func188 (hvc:=?_)),
 (λq0 q2 q1=>Zf Zr (Zb q0 (Zb q2 (Zb q1 Zi))) mixed {loops:=[(0,[.reg 5 (.own (.ol 106 (.flat (Zy)))),.reg 8 (.dat Iq),.cell 1000 0 (.sl (.int .u8)),.cell 1000 1 Iq,.cell 1000 2 Iq])],draws:=[(10,[],.o [0,2] (.ld 1 (.alt 3 (.op 4 (.a [5,6] (.op 7 .done))) .done)))]} Tryz.func59 (hvc:=?_)),
 (Zf Zr Zi mixed {loops:=[(0,[.reg 0 (.dat Iq),.reg 1 (.dat Iq)])]} Tryz.func137 (hvc:=?_)),
 (λq0 q1=>Zf Zr (Zb q0 (Zb q1 Zi)) mixed {loops:=[(0,[.reg 7 (.dat Iq),.reg 9 (.dat Iq)])],draws:=[(6,[],.u 0 7 (.alt 7 (.o [8,9,10] .done) .done))]} Tryz.func141 (hvc:=?_)),
 (λq0 q2 q1=>Zf Zr (Zb q0 (Zb q2 (Zb q1 Zi))) mixed {} Tryz.func84 (hvc:=?_)),
 (λq1 q0=>Zf Zr (Zb q1 (Zb q0 Zi)) mixed {loops:=[(0,[.reg 6 (.dat Iq),.cell 1005 0 Iq]),(2,[.reg 7 (.dat Iq),.cell 1005 1 Iq,.cell 1005 2 Iq])],draws:=[(5,[],.u 0 5 (.alt 5 (.o [6,7] (.d 8)) .done))]} Tryz.func31 (hvc:=?_))⟩
 all_goals
  intro a;repeat rcases a with ⟨_,a⟩
  rintro K ⟨r,h,hK⟩;repeat'
    conv=>whnf
    first
    | with_reducible refine Zu7 ?_
    | with_reducible refine ZgM (by assumption) (by assumption) (by assumption) ?_
    | with_reducible refine Qb (by assumption) ?_
    | with_reducible refine ZgU (by assumption) ?_
    | (with_reducible refine shD ?_);first | refine VB h (λh=>?_) (λh=>?_) | refine ZuL h (λh=>?_) (λh=>?_)
    | (with_reducible refine ZvU ?_);first | refine Zv6 ?_ | refine ZjM ?_
    | (with_reducible refine ZzB ?_);first | refine ZsS h (λh=>?_) (λh=>?_) | refine Zv5 h (λh=>?_) (λh=>?_)
    | (with_reducible refine ZvT ?_);(refine ⟨λhd=>?_,?_⟩)<;>try subst hd
    | (with_reducible refine ZzD ?_);first | with_reducible refine XZ h (λx hb h=>?_) | refine ZgU (by assumption) ?_ | with_reducible refine pG h (λhp h=>?_) | with_reducible refine pA h (λx ha hb hx h=>?_) | with_reducible refine pB h (λx hb h=>?_) | refine XZ h (λx hb h=>?_)
    | (with_reducible refine ZzA ?_);first | with_reducible refine vAt h (λx ha hb hx h=>?_) | refine ZgM (by assumption) (by assumption) (by assumption) ?_ | with_reducible refine pG h (λhp h=>?_) | with_reducible refine pA h (λx ha hb hx h=>?_) | with_reducible refine pB h (λx hb h=>?_) | refine vAt h (λx ha hb hx h=>?_)
    | (with_reducible refine ZvS ?_);first | with_reducible refine ZpZ h (λx hb h=>?_) | refine Qb (by assumption) ?_ | with_reducible refine pG h (λhp h=>?_) | with_reducible refine pA h (λx ha hb hx h=>?_) | with_reducible refine pB h (λx hb h=>?_) | refine ZpZ h (λx hb h=>?_)
    | with_reducible refine ZzC ?_
    | (with_reducible refine ZrX ?_);refine Zr5 h hK ?_;clear h hK;intro I μ v r h hK;(repeat rcases v with ⟨_,v⟩);(try dsimp only at h)
    | with_reducible refine ⟨by assumption,?_⟩
    | with_reducible refine orL ?_
    | with_reducible refine .inr ?_
    | (with_reducible refine ZvV ?_);first | refine ⟨?_,True.intro⟩ | refine ⟨?_,?_⟩
    | refine ⟨by kernel_rfl,?_⟩
    | refine ⟨by decide,?_⟩
    | with_reducible refine Zwz h (λhp h=>?_)
    | intro fp
    | exact trivial
    | with_reducible exact Zu5 h
    | (refine pS h (λe=>?_));subst e;(repeat (first | exact hK | exact ⟨⟨rfl,rfl⟩,hK.1 _ rfl⟩ | (refine pR hK (λe hK=>?_));subst e));done
    | refine Zwz h (λhp h=>?_)
    | refine ⟨by assumption,?_⟩
    | with_reducible refine pG h (λhp h=>?_) | with_reducible refine pA h (λx ha hb hx h=>?_) | with_reducible refine pB h (λx hb h=>?_)
    | refine pG h (λhp h=>?_)
    | fail
theorem w_laws_FnPower (q7:Sq 5 c0) (q0:Sq 6 c50) (q3:Sq 7 Zz8) (q4:Sq 8 Zzj) (q6:Sq 9 c164) (q1:Sq 10 ZAl) (q2:Sq 11 ZAr) (q5:Sq 12 ZAs):Sq 3 ZEU:=by
 refine Zf Zr (Zb q7 (Zb q0 (Zb q3 (Zb q4 (Zb q6 (Zb q1 (Zb q2 (Zb q5 Zi)))))))) mixed {loops:=[(0,[.reg 4 (.dat (.sl (Zy))),.reg 10 (.dat Iq),.cell 0 0 (.sl (Qk)),.cell 0 1 (.sl (Yg)),.cell 0 2 (.sl (.str)),.cell 0 3 (.sl (VQ)),.cell 0 4 (.sl (Vu)),.cell 2 0 Iq]),(2,[.reg 4 (.dat (.sl (Zy))),.reg 13 (.dat Iq),.cell 0 0 (.sl (Qk)),.cell 0 1 (.sl (Yg)),.cell 0 2 (.sl (.str)),.cell 0 3 (.sl (VQ)),.cell 0 4 (.sl (Vu)),.cell 2 1 Iq,.cell 2 2 Iq]),(4,[.reg 18 (.dat Iq),.reg 19 (.dat Iq)])],draws:=[(34,[],.u 0 44 .done)]} (fn:=Tryz.f3) Tryz.func3 (by kernel_rfl) (by kernel_rfl) ?_;rintro ⟨a0,⟨⟩⟩ K ⟨r,h,hK⟩
 change ZEJ a0=some r at h
 unfold ZEJ at h
 conv=>whnf
 refine XZ h (λbig0 hb0 h=>?_)
 conv=>whnf
 refine ZsS h (λh=>?_) (λh=>?_)
 conv=>whnf
 cases h;exact hK
 conv=>whnf
 refine XZ h (λDrawTotalPower0 hb1 h=>?_)
 conv=>whnf
 refine XZ h (λTotalPower0 hb2 h=>?_)
 conv=>whnf
 refine ⟨_,hb1,?_⟩
 conv=>whnf
 refine ZjM ?_;refine VB h (λh=>?_) (λh=>?_)
 conv=>whnf
 refine ZoW h ?_;rintro I3 μ3 ⟨v0,v1,c0,c1,c2,c3,c4,c5,⟨⟩⟩ zs3 h hI3 hR3
 change ZEc DrawTotalPower0 TotalPower0 v0 v1 c0 c1 c2 c3 c4 c5=some zs3 at h
 unfold ZEc at h
 conv=>whnf
 refine VB h (λh=>?_) (λh=>?_)
 conv=>whnf
 refine XZ h (λNetPower0 hb4 h=>?_)
 conv=>whnf
 refine ⟨_,hb1,?_⟩
 conv=>whnf
 refine ZjM ?_;refine VB h (λh=>?_) (λh=>?_)
 conv=>whnf
 cases h;exact ⟨⟨rfl,rfl⟩,hI3 _ rfl⟩
 conv=>whnf
 cases h;obtain rfl:=hR3 _ rfl;exact hK
 conv=>whnf
 refine ZoW h ?_;rintro I5 μ5 ⟨v2,v3,c6,c7,c8,c9,c10,c11,c12,⟨⟩⟩ zs5 h hI5 hR5
 change ZEb DrawTotalPower0 TotalPower0 c5 v2 v3 c6 c7 c8 c9 c10 c11 c12=some zs5 at h
 unfold ZEb at h
 conv=>whnf
 refine VB h (λh=>?_) (λh=>?_)
 conv=>whnf
 refine XZ h (λInstancePower0 hb6 h=>?_)
 conv=>whnf
 refine ⟨_,hb1,?_⟩
 conv=>whnf
 refine ZjM ?_;refine VB h (λh=>?_) (λh=>?_)
 conv=>whnf
 cases h;exact ⟨⟨rfl,rfl⟩,hI5 _ rfl⟩
 conv=>whnf
 cases h;obtain rfl:=hR5 _ rfl;obtain rfl:=hR3 _ rfl;exact hK
 conv=>whnf
 refine XZ h (λHottestNets0 hb7 h=>?_)
 conv=>whnf
 refine ⟨_,hb1,?_⟩
 conv=>whnf
 refine ZoW h ?_;rintro I8 μ8 ⟨v4,v5,⟨⟩⟩ zs8 h hI8 hR8
 change ZEa DrawTotalPower0 TotalPower0 c5 c11 c12 HottestNets0 v4 v5=some zs8 at h
 unfold ZEa at h
 conv=>whnf
 refine VB h (λh=>?_) (λh=>?_)
 conv=>whnf
 refine vAt h (λx0 he9a he9b he9x h=>?_)
 conv=>whnf
 refine ⟨by kernel_rfl,?_⟩
 conv=>whnf
 refine ⟨he9a,he9b,Qb he9x ?_⟩
 conv=>whnf
 refine ⟨by kernel_rfl,?_⟩
 conv=>whnf
 refine VB h (λh=>?_) (λh=>?_)
 conv=>whnf
 refine vAt h (λx1 he10a he10b he10x h=>?_)
 conv=>whnf
 refine ⟨by kernel_rfl,?_⟩
 conv=>whnf
 refine ⟨he10a,he10b,Qb he10x ?_⟩
 conv=>whnf
 refine ⟨he9a,he9b,Qb he9x ?_⟩
 conv=>whnf
 refine ⟨by kernel_rfl,?_⟩
 conv=>whnf
 refine ⟨he9a,he9b,Qb he9x ?_⟩
 conv=>whnf
 refine ZuL h (λh=>?_) (λh=>?_)
 conv=>whnf
 refine ⟨trivial,?_⟩
 conv=>whnf
 cases h;obtain rfl:=hR8 _ rfl;obtain rfl:=hR5 _ rfl;obtain rfl:=hR3 _ rfl;exact hK
 conv=>whnf
 refine ⟨he10a,he10b,Qb he10x ?_⟩
 conv=>whnf
 refine ⟨by kernel_rfl,?_⟩
 conv=>whnf
 refine ⟨he10a,he10b,Qb he10x ?_⟩
 conv=>whnf
 refine ⟨he9a,he9b,Qb he9x ?_⟩
 conv=>whnf
 refine ⟨by kernel_rfl,?_⟩
 conv=>whnf
 refine ⟨he9a,he9b,Qb he9x ?_⟩
 conv=>whnf
 refine VB h (λh=>?_) (λh=>?_)
 conv=>whnf
 refine ⟨he10a,he10b,Qb he10x ?_⟩
 conv=>whnf
 refine ⟨by kernel_rfl,?_⟩
 conv=>whnf
 refine ⟨he10a,he10b,Qb he10x ?_⟩
 conv=>whnf
 refine ⟨he9a,he9b,Qb he9x ?_⟩
 conv=>whnf
 refine ⟨by kernel_rfl,?_⟩
 conv=>whnf
 refine ⟨he9a,he9b,Qb he9x ?_⟩
 conv=>whnf
 refine ⟨trivial,?_⟩
 conv=>whnf
 refine VB h (λh=>?_) (λh=>?_)
 conv=>whnf
 cases h;obtain rfl:=hR8 _ rfl;obtain rfl:=hR5 _ rfl;obtain rfl:=hR3 _ rfl;exact hK
 conv=>whnf
 cases h;exact ⟨⟨rfl,rfl⟩,hI8 _ rfl⟩
 conv=>whnf
 refine ⟨trivial,?_⟩
 conv=>whnf
 cases h;exact ⟨⟨rfl,rfl⟩,hI8 _ rfl⟩
 conv=>whnf
 refine ⟨trivial,?_⟩
 conv=>whnf
 cases h;exact ⟨⟨rfl,rfl⟩,hI8 _ rfl⟩
 conv=>whnf
 refine XZ h (λPowerBelow0 hb11 h=>?_)
 conv=>whnf
 refine ⟨_,hb1,?_⟩
 conv=>whnf
 refine XZ h (λPowerBelow1 hb12 h=>?_)
 conv=>whnf
 refine ZsS h (λh=>?_) (λh=>?_)
 conv=>whnf
 refine VB h (λh=>?_) (λh=>?_)
 conv=>whnf
 refine VB h (λh=>?_) (λh=>?_)
 conv=>whnf
 refine VB h (λh=>?_) (λh=>?_)
 conv=>whnf
 refine VB h (λh=>?_) (λh=>?_)
 conv=>whnf
 refine VB h (λh=>?_) (λh=>?_)
 conv=>whnf
 refine ZsS h (λh=>?_) (λh=>?_)
 conv=>whnf
 cases h;obtain rfl:=hR8 _ rfl;obtain rfl:=hR5 _ rfl;obtain rfl:=hR3 _ rfl;exact hK
 conv=>whnf
 cases h;obtain rfl:=hR8 _ rfl;obtain rfl:=hR5 _ rfl;obtain rfl:=hR3 _ rfl;exact hK
 conv=>whnf
 cases h;obtain rfl:=hR8 _ rfl;obtain rfl:=hR5 _ rfl;obtain rfl:=hR3 _ rfl;exact hK
 conv=>whnf
 cases h;obtain rfl:=hR8 _ rfl;obtain rfl:=hR5 _ rfl;obtain rfl:=hR3 _ rfl;exact hK
 conv=>whnf
 cases h;obtain rfl:=hR8 _ rfl;obtain rfl:=hR5 _ rfl;obtain rfl:=hR3 _ rfl;exact hK
 conv=>whnf
 cases h;obtain rfl:=hR8 _ rfl;obtain rfl:=hR5 _ rfl;obtain rfl:=hR3 _ rfl;exact hK
 conv=>whnf
 cases h;obtain rfl:=hR8 _ rfl;obtain rfl:=hR5 _ rfl;obtain rfl:=hR3 _ rfl;exact hK
 conv=>whnf
 cases h;obtain rfl:=hR8 _ rfl;obtain rfl:=hR5 _ rfl;obtain rfl:=hR3 _ rfl;exact hK
 conv=>whnf
 refine XZ h (λTotalPower1 hb13 h=>?_)
 conv=>whnf
 refine VB h (λh=>?_) (λh=>?_)
 conv=>whnf
 cases h;exact hK
 conv=>whnf
 cases h;exact hK
theorem ZmW (q1:Sq 136 c39) (q0:Sq 180 c40) (rec0:Ze->Int->(List Int)->Option (Int×(List Int))) (hrec:Sq 227 (ZbK rec0)):Sq 227 (ZbK (Xg rec0)):=by
 refine Zf YS (Zb hrec (Zb q1 (Zb q0 Zi))) mixed {loops:=[(0,[.reg 9 (.dat Iq),.reg 10 (.dat Iq),.reg 11 (.dat Iq),.ent 0 (nat_lit 2) (.flat (Ty.int IntKind.i64))])],draws:=[(10,[],.u 0 8 (.alt 8 (.o [9,10,11] .done) .done)),(12,[],.u 0 19 (.d 19))]} (fn:=Tryz.f227) Tryz.func227 (by kernel_rfl) (by kernel_rfl) ?_;rintro ⟨a0,a1,a2,⟨⟩⟩ K ⟨r,h,hK⟩
 change Xg rec0 a0 a1 a2=some r at h
 unfold Xg at h
 conv=>whnf
 refine vAt h (λx0 he0a he0b he0x h=>?_)
 conv=>whnf
 refine ⟨by kernel_rfl,?_⟩
 conv=>whnf
 refine ⟨he0a,he0b,Qb he0x ?_⟩
 conv=>whnf
 refine VB h (λh=>?_) (λh=>?_)
 conv=>whnf
 refine ⟨he0a,he0b,Qb he0x ?_⟩
 conv=>whnf
 refine ⟨by kernel_rfl,?_⟩
 conv=>whnf
 refine ⟨he0a,he0b,Qb he0x ?_⟩
 conv=>whnf
 cases h;exact hK
 conv=>whnf
 refine XZ h (λl28Gate0 hb1 h=>?_)
 conv=>whnf
 refine XZ h (λl28Inputs0 hb2 h=>?_)
 conv=>whnf
 refine ZoW h ?_;rintro I3 μ3 ⟨v0,v1,v2,l0,⟨⟩⟩ zs3 h hI3 hR3
 change XP a0 a1 rec0 l28Gate0 l28Inputs0 v0 v1 v2 l0=some zs3 at h
 unfold XP at h
 conv=>whnf
 refine VB h (λh=>?_) (λh=>?_)
 conv=>whnf
 refine ⟨by kernel_rfl,?_⟩
 conv=>whnf
 refine vAt h (λx1 he4a he4b he4x h=>?_)
 conv=>whnf
 refine XZ h (λr0 hb5 h=>?_)
 conv=>whnf
 refine ⟨trivial,?_⟩
 conv=>whnf
 cases h;exact ⟨⟨rfl,rfl⟩,hI3 _ rfl⟩
 conv=>whnf
 refine ⟨by kernel_rfl,?_⟩
 conv=>whnf
 refine vAt h (λx1 he6a he6b he6x h=>?_)
 conv=>whnf
 refine vAt h (λx2 he7a he7b he7x h=>?_)
 conv=>whnf
 refine vAt h (λx3 he8a he8b he8x h=>?_)
 conv=>whnf
 refine vAt h (λx4 he9a he9b he9x h=>?_)
 conv=>whnf
 refine ⟨by kernel_rfl,?_⟩
 conv=>whnf
 refine ⟨by decide,?_⟩
 conv=>whnf
 refine ⟨he9a,he9b,Qb he9x ?_⟩
 conv=>whnf
 refine ⟨trivial,?_⟩
 conv=>whnf
 refine vAt h (λx5 he10a he10b he10x h=>?_)
 conv=>whnf
 refine ⟨by kernel_rfl,?_⟩
 conv=>whnf
 refine ⟨he10a,he10b,Qb he10x ?_⟩
 conv=>whnf
 cases h;obtain rfl:=hR3 _ rfl;exact hK
theorem ZGN (q1:Sq 136 c39) (q0:Sq 180 c40):Sq 227 ZAh:=by
 have hn:∀ n,Sq 227 (ZbK (Xb n)):=by
  intro n;induction n with
  | zero =>
  refine Zf YS Zi mixed {loops:=[(0,[.reg 9 (.dat Iq),.reg 10 (.dat Iq),.reg 11 (.dat Iq),.ent 0 (nat_lit 2) (.flat (Ty.int IntKind.i64))])],draws:=[(10,[],.u 0 8 (.alt 8 (.o [9,10,11] .done) .done)),(12,[],.u 0 19 (.d 19))]} (fn:=Tryz.f227) Tryz.func227 (by kernel_rfl) (by kernel_rfl) ?_;rintro ⟨a0,a1,a2,⟨⟩⟩ K ⟨r,h,hK⟩;cases h
  | succ n ih=>exact ZmW q1 q0 _ ih
 refine ⟨(hn 0).1,?_⟩;rintro w S vs ⟨a0,a1,a2,⟨⟩⟩ fp K h1 h0 h2 h3 h4 ⟨r,h,hK⟩;obtain ⟨n,hr⟩:=Zmv h;exact (hn n).2 w S vs _ fp K h1 h0 h2 h3 h4 ⟨r,hr,hK⟩
end Go.Proofs.YtioiomifapgimaaGreatDoor
