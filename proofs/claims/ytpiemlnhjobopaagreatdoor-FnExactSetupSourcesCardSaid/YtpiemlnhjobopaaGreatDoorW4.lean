/-
  The functions keep their contracts, if what they call does. Printed by program.
-/
import Derived.Test.YtpiemlnhjobopaaGreatDoorM
import Derived.KernelRfl
namespace Go.Proofs.YtpiemlnhjobopaaGreatDoor
open Go Go.Sx
set_option maxRecDepth 100000
set_option maxHeartbeats 3200000
set_option linter.unusedVariables false
set_option linter.unusedSimpArgs false
structure Ws4:Prop where
 w120:Sq 375 Zw1
 w139:Sq 193 c139
 w125:Sq 224 c90→Sq 340 c95→Sq 341 c119→Sq 242 c89→Sq 342 c124→Sq 307 Zw5
 w156:Sq 266 Zxn→Sq 267 c94→Sq 200 c156
 w103:Sq 196 c97→Sq 242 c89→Sq 170 Zt7→Sq 171 Zwt→Sq 388 ZwR
 w102:Sq 171 Zwt
 w164:Sq 242 c89→Sq 294 c164
 w162:Sq 242 c89→Sq 245 c162
 w174:Sq 271 Zxu
 w151:Sq 193 c139→Sq 195 Zxh→Sq 196 c97→Sq 197 c148→Sq 198 Zxk→Sq 119 Zxl
 w158:Sq 161 c157→Sq 242 c89→Sq 203 Zwu
 w169:Sq 207 c168→Sq 206 Zxr
 w211:Sq 136 c210→Sq 60 ZxR
 w209:Sq 135 c208→Sq 59 ZxQ
 w197:Sq 28 Zt8→Sq 215 ZxJ
 w188:Sq 319 ZxD→Sq 282 ZxE
 w199:Sq 131 ZxK
 w220:Sq 142 Zs6→Sq 217 ZxT→Sq 218 ZxU→Sq 30 Zt9→Sq 138 ZxV
 w229:Sq 66 c229
 w218:Sq 30 Zt9→Sq 284 c218
 w215:Sq 142 Zs6
 w7:Sq 246 c1→Sq 247 c6→Sq 181 c2→Sq 178 c7
 w24:Sq 19 c24
 w15:Sq 96 c11→Sq 97 c12→Sq 98 c14→Sq 37 c15
 w14:Sq 180 c13→Sq 98 c14
 w32:Sq 339 c31→Sq 306 c32
 w51:Sq 24 c29→Sq 117 c51
 w50:Sq 116 c49→Sq 49 c50
 w27:Sq 305 c27
 w55:Sq 48 c47→Sq 49 c50→Sq 50 c52→Sq 51 c54→Sq 10 c55
 w48:Sq 154 c48
 w122:Sq 374 Zw2→Sq 359 Zw3
 w161:Sq 268 c160→Sq 201 Zxo
 w108:Sq 387 c107→Sq 380 ZwU
 w100:Sq 244 c99→Sq 175 ZwQ
 w93:Sq 343 c92→Sq 313 c93
 w107:Sq 381 ZwT→Sq 387 c107
 w132:Sq 309 c131→Sq 244 Zw9
 w136:Sq 259 Zxc→Sq 311 Zxd
 w92:Sq 343 c92
 w72:Sq 186 c57→Sq 183 c72
 w64:Sq 338 c64
 w56:Sq 219 c56
 w68:Sq 219 c56→Sq 250 c68
 w67:Sq 186 c57→Sq 249 c67
 w70:Sq 105 c70
set_option maxHeartbeats 100000000 in
theorem ws4:Ws4:=by
 refine ⟨(Ze Zp Zg mixed {} Tryz.func375 (hvc:=?_)),
 (Ze Zp Zg mixed {loops:=[(0,[.reg 3 (.own (.ol 265 (.flat (Zil)))),.reg 13 (.dat Iq)]),(2,[.reg 3 (.own (.ol 265 (.flat (Zil)))),.reg 21 (.dat Iq)]),(4,[.reg 3 (.own (.ol 265 (.flat (Zil)))),.reg 44 (.dat Iq)])]} Tryz.func193 (hvc:=?_)),
 (fun q3 q2 q1 q4 q0=>Ze Zp (Zc q3 (Zc q2 (Zc q1 (Zc q4 (Zc q0 Zg))))) mixed {} Tryz.func307 (hvc:=?_)),
 (fun q1 q0=>Ze Zp (Zc q1 (Zc q0 Zg)) mixed {loops:=[(0,[.reg 3 (.own (.ol 9 (.flat (.str)))),.reg 11 (.dat Iq)])]} Tryz.func200 (hvc:=?_)),
 (fun q0 q3 q2 q1=>Ze Zp (Zc q0 (Zc q3 (Zc q2 (Zc q1 Zg)))) mixed {} Tryz.func388 (hvc:=?_)),
 (Ze Zp Zg mixed {loops:=[(0,[.reg 3 (.dat Iq)])],draws:=[(4,[0,0,2,7,15,0,0,96,224,511],.op 0 (.op 1 (.op 2 (.op 3 (.op 4 (.op 5 (.op 6 (.op 7 (.op 8 (.op 9 (.done)))))))))))]} Tryz.func171 (hvc:=?_)),
 (fun q0=>Ze Zp (Zc q0 Zg) mixed {} Tryz.func294 (hvc:=?_)),
 (fun q0=>Ze Zp (Zc q0 Zg) mixed {} Tryz.func245 (hvc:=?_)),
 (Ze Zp Zg mixed {} Tryz.func271 (hvc:=?_)),
 (fun q3 q1 q4 q2 q0=>Ze Xj (Zc q3 (Zc q1 (Zc q4 (Zc q2 (Zc q0 Zg))))) mixed {loops:=[(0,[.reg 4 (.dat Iq),.reg 25 (.dat Iq),.cello 1020 6 (.ol 254 (.flat (Zm5)))]),(2,[.reg 60 (.dat Iq),.ent 4 (nat_lit 2) (.flat Zs0.ety),.ent 5 (nat_lit 71) (Dp.ol (2:Go.TypeId) (Dp.flat (Ty.int IntKind.i64)))]),(4,[.reg 88 (.dat Iq),.cello 1020 7 (.ol 2 (.flat Iq)),.cello 1020 8 (.ol 71 (.ol 2 (.flat Iq))),.cello 1020 6 (.ol (nat_lit 254) (.flat Zm5)),.ent 5 (nat_lit 71) (Dp.ol (2:Go.TypeId) (Dp.flat (Ty.int IntKind.i64)))]),(6,[.reg 122 (.dat Iq),.cello 1020 6 (.ol (nat_lit 254) (.flat Zm5))]),(8,[.reg 127 (.dat Iq),.cello 1020 6 (.ol (nat_lit 254) (.flat Zm5))])],draws:=[(1,[0,0,2,6,15,31,63],.op 0 (.op 1 (.op 2 (.alt 3 (.op 4 (.alt 5 (.op 6 (.done)) (.done))) (.done))))),(6,[0,0,2,6,14,0,0,0,224,510,1023,2047,4095],.op 0 (.op 1 (.op 2 (.op 3 (.op 4 (.op 5 (.op 6 (.op 7 (.alt 8 (.alt 9 (.op 10 (.op 11 (.alt 12 (.done) (.done)))) (.done)) (.done)))))))))),(16,[0,0,2,0,0,16,56,120,0,256,1016,2047,4095],.op 0 (.op 1 (.op 3 (.op 4 (.op 5 (.op 6 (.op 7 (.op 8 (.ld 2 (.alt 9 (.alt 10 (.op 11 (.alt 12 (.done) (.done))) (.done)) (.done))))))))))),(21,[0,0,2,6,14,0,0,96,224,480,992,2046,4095,8191,16383],.op 0 (.op 1 (.op 2 (.op 3 (.op 4 (.op 5 (.op 6 (.alt 7 (.op 8 (.op 9 (.alt 10 (.alt 11 (.op 12 (.op 13 (.alt 14 (.done) (.done)))) (.done)) (.done)))) (.done))))))))),(22,[0,0,2,6,14,0,0,96,224,510,1023,2047,4095],.op 0 (.op 1 (.op 2 (.op 3 (.op 4 (.op 5 (.op 6 (.alt 7 (.alt 8 (.alt 9 (.op 10 (.op 11 (.alt 12 (.done) (.done)))) (.done)) (.done)) (.done))))))))),(29,[0,0,2,6,14,0,0,96,224,480,0,2016,0,4096,0,28672,0,131040,262112,524286,1048575,2097151,4194303],.op 0 (.op 1 (.op 2 (.op 3 (.op 4 (.op 5 (.op 6 (.op 7 (.op 8 (.op 9 (.op 10 (.op 11 (.op 12 (.op 13 (.op 14 (.op 15 (.op 16 (.op 17 (.alt 18 (.alt 19 (.op 20 (.op 21 (.alt 22 (.done) (.done)))) (.done)) (.done))))))))))))))))))))]} Tryz.func119 (hvc:=?_)),
 (fun q0 q1=>Ze Zp (Zc q0 (Zc q1 Zg)) mixed {} Tryz.func203 (hvc:=?_)),
 (fun q0=>Ze Zp (Zc q0 Zg) mixed {} Tryz.func206 (hvc:=?_)),
 (fun q0=>Ze Zp (Zc q0 Zg) mixed {loops:=[(0,[.reg 5 (.dat Iq)])],draws:=[(6,[0,0,3,7,0,0,48,112,255,511],.op 0 (.op 1 (.op 2 (.op 3 (.op 4 (.op 5 (.op 6 (.op 7 (.alt 8 (.op 9 (.done)) (.done))))))))))]} Tryz.func60 (hvc:=?_)),
 (fun q0=>Ze Zp (Zc q0 Zg) mixed {loops:=[(0,[.reg 5 (.dat Iq)])],draws:=[(6,[0,0,3,7,0,0,48,112,255,511],.op 0 (.op 1 (.op 2 (.op 3 (.op 4 (.op 5 (.op 6 (.op 7 (.alt 8 (.op 9 (.done)) (.done))))))))))]} Tryz.func59 (hvc:=?_)),
 (fun q0=>Ze Zp (Zc q0 Zg) mixed {} Tryz.func215 (hvc:=?_)),
 (fun q0=>Ze Zp (Zc q0 Zg) mixed {loops:=[(0,[.reg 5 (.dat Iq)])],draws:=[(6,[0,0,3,7,0,0,48,112,255,511],.op 0 (.op 1 (.op 2 (.op 3 (.op 4 (.op 5 (.op 6 (.op 7 (.alt 8 (.op 9 (.done)) (.done))))))))))]} Tryz.func282 (hvc:=?_)),
 (Ze Zp Zg mixed {loops:=[(0,[.reg 5 (.dat Iq)])],draws:=[(6,[0,0,3,7,0,0,48,112,255],.op 0 (.op 1 (.op 2 (.op 3 (.op 4 (.op 5 (.op 6 (.op 7 (.op 8 (.done))))))))))]} Tryz.func131 (hvc:=?_)),
 (fun q1 q2 q3 q0=>Ze Xj (Zc q1 (Zc q2 (Zc q3 (Zc q0 Zg)))) mixed {loops:=[(0,[.reg 1 (.dat Iq),.reg 5 (.dat Iq),.ent 0 (nat_lit 241) (Dp.pair (Dp.flat Ty.str) (Dp.pair (Dp.flat (Ty.int IntKind.i64)) (Dp.pair (Dp.ol (373:Go.TypeId) (Dp.flat Zdb)) (Dp.pair (Dp.ol (246:Go.TypeId) ZsZ) (Dp.pair (Dp.ol (2:Go.TypeId) (Dp.flat (Ty.int IntKind.i64))) (Dp.pair (Dp.flat (Ty.int IntKind.i64)) (Dp.pair (Dp.flat (Ty.int IntKind.i64)) (Dp.flat Ty.unit))))))))])]} Tryz.func138 (hvc:=?_)),
 (Ze Xj Zg mixed {loops:=[(0,[.reg 1 (.dat Iq),.reg 5 (.dat Iq),.ent 0 (nat_lit 196) (.flat ZQ)])]} Tryz.func66 (hvc:=?_)),
 (fun q0=>Ze Xj (Zc q0 Zg) mixed {loops:=[(0,[.reg 1 (.dat Iq),.reg 5 (.dat Iq),.ent 0 (nat_lit 379) (Dp.pair (Dp.ol (2:Go.TypeId) (Dp.flat (Ty.int IntKind.i64))) (Dp.pair (Dp.ol (2:Go.TypeId) (Dp.flat (Ty.int IntKind.i64))) (Dp.pair (Dp.ol (2:Go.TypeId) (Dp.flat (Ty.int IntKind.i64))) (Dp.flat Ty.unit))))])]} Tryz.func284 (hvc:=?_)),
 (Ze Zp Zg mixed {loops:=[(0,[.reg 0 (.dat Iq),.reg 3 (.dat (.str))])]} Tryz.func142 (hvc:=?_)),
 (fun q1 q2 q0=>Ze Zp (Zc q1 (Zc q2 (Zc q0 Zg))) mixed {} Tryz.func178 (hvc:=?_)),
 (Ze Zp Zg mixed {} Tryz.func19 (hvc:=?_)),
 (fun q0 q1 q2=>Ze Zp (Zc q0 (Zc q1 (Zc q2 Zg))) mixed {} Tryz.func37 (hvc:=?_)),
 (fun q0=>Ze Zp (Zc q0 Zg) mixed {loops:=[(0,[.reg 1 (.dat Iq),.reg 5 (.dat Iq)])]} Tryz.func98 (hvc:=?_)),
 (fun q0=>Ze Xj (Zc q0 Zg) mixed {} Tryz.func306 (hvc:=?_)),
 (fun q0=>Ze Zp (Zc q0 Zg) mixed {} Tryz.func117 (hvc:=?_)),
 (fun q0=>Ze Zp (Zc q0 Zg) mixed {loops:=[(0,[.reg 4 (.dat Iq),.ent 0 (nat_lit 196) (.flat ZwJ.ety)])]} Tryz.func49 (hvc:=?_)),
 (Ze Zp Zg mixed {} Tryz.func305 (hvc:=?_)),
 (fun q3 q1 q0 q2=>Ze Xj (Zc q3 (Zc q1 (Zc q0 (Zc q2 Zg)))) mixed {} Tryz.func10 (hvc:=?_)),
 (Ze Zp Zg mixed {} Tryz.func154 (hvc:=?_)),
 (fun q0=>Ze Zp (Zc q0 Zg) mixed {} Tryz.func359 (hvc:=?_)),
 (fun q0=>Ze Zp (Zc q0 Zg) mixed {} Tryz.func201 (hvc:=?_)),
 (fun q0=>Ze Zp (Zc q0 Zg) mixed {} Tryz.func380 (hvc:=?_)),
 (fun q0=>Ze Zp (Zc q0 Zg) mixed {} Tryz.func175 (hvc:=?_)),
 (fun q0=>Ze Zp (Zc q0 Zg) mixed {} Tryz.func313 (hvc:=?_)),
 (fun q0=>Ze Zp (Zc q0 Zg) mixed {loops:=[(0,[.reg 8 (.dat Iq)])]} Tryz.func387 (hvc:=?_)),
 (fun q0=>Ze Zp (Zc q0 Zg) mixed {loops:=[(0,[.reg 8 (.dat Iq)])]} Tryz.func244 (hvc:=?_)),
 (fun q0=>Ze Zp (Zc q0 Zg) mixed {loops:=[(0,[.reg 8 (.dat Iq)])]} Tryz.func311 (hvc:=?_)),
 (Ze Zp Zg mixed {loops:=[(0,[.reg 8 (.dat Iq)])]} Tryz.func343 (hvc:=?_)),
 (fun q0=>Ze Zp (Zc q0 Zg) mixed {loops:=[(0,[.reg 6 (.dat Iq)]),(2,[.reg 7 (.dat Iq)])]} Tryz.func183 (hvc:=?_)),
 (Ze Zp Zg mixed {loops:=[(0,[.reg 4 (.dat Iq),.ent 1 (nat_lit 2) (.flat Zs0.ety)])]} Tryz.func338 (hvc:=?_)),
 (Ze Zp Zg mixed {loops:=[(0,[.reg 3 (.dat Iq)])]} Tryz.func219 (hvc:=?_)),
 (fun q0=>Ze Zp (Zc q0 Zg) mixed {loops:=[(0,[.reg 3 (.dat Iq)]),(2,[.reg 4 (.dat Iq)])],draws:=[(9,[0,0,3,7,0,0,48,112,255],.op 0 (.op 1 (.op 2 (.op 3 (.op 4 (.op 5 (.op 6 (.op 7 (.op 8 (.done))))))))))]} Tryz.func250 (hvc:=?_)),
 (fun q0=>Ze Zp (Zc q0 Zg) mixed {loops:=[(0,[.reg 6 (.dat Iq)]),(2,[.reg 8 (.dat Iq)]),(4,[.reg 9 (.dat Iq)])],draws:=[(6,[0,1,0,4,12,28,63,127,255,511,1023,2047,511,4607,511,16895,61951,127487,258559,520703,1048575,2097151],.op 0 (.op 1 (.op 2 (.op 3 (.op 4 (.op 5 (.alt 6 (.op 7 (.op 8 (.op 9 (.op 10 (.op 11 (.op 12 (.op 13 (.op 14 (.op 15 (.op 16 (.op 17 (.op 18 (.op 19 (.op 20 (.op 21 (.done)))))))))))))))) (.done))))))))]} Tryz.func249 (hvc:=?_)),
 (Ze Zp Zg mixed {loops:=[(0,[.reg 3 (.own (.ol 296 (.flat (ZfA)))),.reg 4 (.dat Iq)]),(2,[.reg 3 (.own (.ol 296 (.flat (ZfA)))),.reg 6 (.dat Iq)]),(4,[.reg 3 (.own (.ol 296 (.flat (ZfA)))),.reg 7 (.dat Iq)])],draws:=[(13,[0,0,0,4,0,28,60,124,0,256,0,1792,3840,7936,16128,32766,65534,131071,262143],.op 0 (.op 1 (.op 2 (.op 3 (.op 4 (.op 5 (.op 6 (.op 7 (.op 8 (.op 9 (.op 10 (.op 11 (.op 12 (.op 13 (.op 14 (.op 15 (.alt 16 (.alt 17 (.op 18 (.done)) (.done)) (.done))))))))))))))))))]} Tryz.func105 (hvc:=?_))⟩
 all_goals
  intro a
  repeat rcases a with ⟨_,a⟩
  rintro K ⟨r,h,hK⟩
  repeat'
    conv=>whnf
    first
    | with_reducible refine ZrU ?_
    | with_reducible refine Ze8 (by assumption) (by assumption) (by assumption) ?_
    | with_reducible refine Zhy (by assumption) ?_
    | with_reducible refine Zfa (by assumption) ?_
    | (with_reducible refine shD ?_);first | refine Zn5 h (fun h=>?_) (fun h=>?_) | refine Zrm h (fun h=>?_) (fun h=>?_)
    | (with_reducible refine ZsE ?_);first | refine Zs1 ?_ | refine ZlG ?_
    | (with_reducible refine ZvZ ?_);first | refine ZpC h (fun h=>?_) (fun h=>?_) | refine ZsR h (fun h=>?_) (fun h=>?_)
    | (with_reducible refine ZsD ?_);(refine ⟨fun hd=>?_,?_⟩)<;>try subst hd
    | (with_reducible refine Zv1 ?_);first | with_reducible refine Zdx h (fun x hb h=>?_) | refine Zfa (by assumption) ?_ | with_reducible refine pG h (fun hp h=>?_) | with_reducible refine pA h (fun x ha hb hx h=>?_) | with_reducible refine pB h (fun x hb h=>?_) | refine Zdx h (fun x hb h=>?_)
    | (with_reducible refine ZvY ?_);first | with_reducible refine vAt h (fun x ha hb hx h=>?_) | refine Ze8 (by assumption) (by assumption) (by assumption) ?_ | with_reducible refine pG h (fun hp h=>?_) | with_reducible refine pA h (fun x ha hb hx h=>?_) | with_reducible refine pB h (fun x hb h=>?_) | refine vAt h (fun x ha hb hx h=>?_)
    | (with_reducible refine ZsC ?_);first | with_reducible refine ZnG h (fun x hb h=>?_) | refine Zhy (by assumption) ?_ | with_reducible refine pG h (fun hp h=>?_) | with_reducible refine pA h (fun x ha hb hx h=>?_) | with_reducible refine pB h (fun x hb h=>?_) | refine ZnG h (fun x hb h=>?_)
    | with_reducible refine Zv0 ?_
    | (with_reducible refine Zpm ?_);refine ZpA h hK ?_;clear h hK;intro I μ v r h hK;(repeat rcases v with ⟨_,v⟩);(try dsimp only at h)
    | with_reducible refine ⟨by assumption,?_⟩
    | with_reducible refine orL ?_
    | with_reducible refine .inr ?_
    | (with_reducible refine ZsF ?_);first | refine ⟨?_,True.intro⟩ | refine ⟨?_,?_⟩
    | refine ⟨by kernel_rfl,?_⟩
    | refine ⟨by decide,?_⟩
    | with_reducible refine Zs2 h (fun hp h=>?_)
    | intro fp
    | exact trivial
    | with_reducible exact ZrP h
    | (refine pS h (fun e=>?_));subst e;(repeat (first | exact hK | exact ⟨⟨rfl,rfl⟩,hK.1 _ rfl⟩ | (refine pR hK (fun e hK=>?_));subst e));done
    | refine Zs2 h (fun hp h=>?_)
    | refine ⟨by assumption,?_⟩
    | with_reducible refine pG h (fun hp h=>?_) | with_reducible refine pA h (fun x ha hb hx h=>?_) | with_reducible refine pB h (fun x hb h=>?_)
    | refine pG h (fun hp h=>?_)
    | fail
theorem w_laws_FnExactSetupSources (q7:Sq 6 c18) (q8:Sq 7 c26) (q9:Sq 9 c45) (q10:Sq 10 c55) (q0:Sq 8 c88) (q1:Sq 11 c183) (q4:Sq 12 ZxC) (q11:Sq 13 ZxO) (q12:Sq 14 ZxS) (q5:Sq 15 c227) (q6:Sq 16 c232) (q2:Sq 17 c233) (q3:Sq 18 c234):Sq 3 ZaE:=by
 refine Ze Zp (Zc q7 (Zc q8 (Zc q9 (Zc q10 (Zc q0 (Zc q1 (Zc q4 (Zc q11 (Zc q12 (Zc q5 (Zc q6 (Zc q2 (Zc q3 Zg))))))))))))) mixed {draws:=[(8,[0,1,0,7,15,31,63,63,127,511],.op 0 (.op 2 (.alt 1 (.alt 3 (.alt 4 (.op 5 (.op 6 (.op 7 (.op 8 (.op 9 (.done)))))) (.done)) (.done)) (.done)))),(14,[0,0,2,7,15],.op 0 (.op 1 (.alt 2 (.alt 3 (.op 4 (.done)) (.done)) (.done)))),(16,[0,0,2,7,15],.op 0 (.op 1 (.alt 2 (.alt 3 (.op 4 (.done)) (.done)) (.done)))),(31,[0,1,0,7,15,31,63,63,127,511],.op 0 (.op 2 (.alt 1 (.alt 3 (.alt 4 (.op 5 (.op 6 (.op 7 (.op 8 (.op 9 (.done)))))) (.done)) (.done)) (.done))))]} (fn:=Tryz.f3) Tryz.func3 (by kernel_rfl) (by kernel_rfl) ?_
 rintro ⟨a0,a1,⟨⟩⟩ K ⟨r,h,hK⟩
 change Xn a0 a1=some r at h
 unfold Xn at h
 conv=>whnf
 refine Zdx h (fun szBlock0 hb0 h=>?_)
 conv=>whnf
 refine Zn5 h (fun h=>?_) (fun h=>?_)
 conv=>whnf
 cases h
 exact hK
 conv=>whnf
 refine Zdx h (fun szSetup0 hb1 h=>?_)
 conv=>whnf
 refine Zn5 h (fun h=>?_) (fun h=>?_)
 conv=>whnf
 cases h
 exact hK
 conv=>whnf
 refine ⟨by kernel_rfl,?_⟩
 conv=>whnf
 refine Zdx h (fun toBlock0 hb2 h=>?_)
 conv=>whnf
 intro fp3
 conv=>whnf
 intro fp4
 conv=>whnf
 intro fp5
 conv=>whnf
 refine Zdx h (fun toSetup0 hb6 h=>?_)
 conv=>whnf
 intro fp7
 conv=>whnf
 refine Zdx h (fun SetupSources0 hb8 h=>?_)
 conv=>whnf
 refine ⟨trivial,?_⟩
 conv=>whnf
 refine ⟨_,hb2,?_⟩
 conv=>whnf
 intro fp9
 conv=>whnf
 intro fp10
 conv=>whnf
 intro fp11
 conv=>whnf
 refine ⟨_,hb6,?_⟩
 conv=>whnf
 intro fp12
 conv=>whnf
 refine Zdx h (fun SetupSources1 hb13 h=>?_)
 conv=>whnf
 refine Zdx h (fun eqSourceS0 hb14 h=>?_)
 conv=>whnf
 refine Zs1 ?_
 refine ZpC h (fun h=>?_) (fun h=>?_)
 conv=>whnf
 refine ZlG ?_
 refine Zn5 h (fun h=>?_) (fun h=>?_)
 conv=>whnf
 refine ⟨by kernel_rfl,?_⟩
 conv=>whnf
 refine ⟨_,hb2,?_⟩
 conv=>whnf
 intro fp15
 conv=>whnf
 intro fp16
 conv=>whnf
 intro fp17
 conv=>whnf
 refine Zdx h (fun eqBlock0 hb18 h=>?_)
 conv=>whnf
 refine ⟨trivial,?_⟩
 conv=>whnf
 refine ZlG ?_
 refine ZpC h (fun h=>?_) (fun h=>?_)
 conv=>whnf
 refine ⟨by kernel_rfl,?_⟩
 conv=>whnf
 refine ⟨_,hb6,?_⟩
 conv=>whnf
 intro fp19
 conv=>whnf
 refine Zdx h (fun eqSetup0 hb20 h=>?_)
 conv=>whnf
 refine ⟨trivial,?_⟩
 conv=>whnf
 refine ZlG ?_
 refine ZpC h (fun h=>?_) (fun h=>?_)
 conv=>whnf
 refine Zdx h (fun markBlock0 hb21 h=>?_)
 conv=>whnf
 intro fp22
 conv=>whnf
 intro fp23
 conv=>whnf
 intro fp24
 conv=>whnf
 refine Zdx h (fun markSetup0 hb25 h=>?_)
 conv=>whnf
 intro fp26
 conv=>whnf
 refine Zrm h (fun h=>?_) (fun h=>?_)
 conv=>whnf
 cases h
 exact hK
 conv=>whnf
 refine ⟨_,hb14,?_⟩
 conv=>whnf
 refine Zs1 ?_
 refine ZpC h (fun h=>?_) (fun h=>?_)
 conv=>whnf
 refine ZlG ?_
 refine Zn5 h (fun h=>?_) (fun h=>?_)
 conv=>whnf
 refine Zdx h (fun markSourceS0 hb27 h=>?_)
 conv=>whnf
 refine Zdx h (fun heldSourceS0 hb28 h=>?_)
 conv=>whnf
 refine Zn5 h (fun h=>?_) (fun h=>?_)
 conv=>whnf
 cases h
 exact hK
 conv=>whnf
 refine ZlG ?_
 refine Zn5 h (fun h=>?_) (fun h=>?_)
 conv=>whnf
 refine ⟨by kernel_rfl,?_⟩
 conv=>whnf
 refine ⟨_,hb2,?_⟩
 conv=>whnf
 intro fp29
 conv=>whnf
 intro fp30
 conv=>whnf
 intro fp31
 conv=>whnf
 refine ⟨_,hb6,?_⟩
 conv=>whnf
 intro fp32
 conv=>whnf
 refine ⟨_,hb13,?_⟩
 conv=>whnf
 refine ⟨trivial,?_⟩
 conv=>whnf
 refine ⟨_,hb14,?_⟩
 conv=>whnf
 refine Zs1 ?_
 refine ZpC h (fun h=>?_) (fun h=>?_)
 conv=>whnf
 refine ZlG ?_
 refine Zn5 h (fun h=>?_) (fun h=>?_)
 conv=>whnf
 refine ⟨_,hb28,?_⟩
 conv=>whnf
 refine Zn5 h (fun h=>?_) (fun h=>?_)
 conv=>whnf
 cases h
 exact hK
 conv=>whnf
 refine ZlG ?_
 refine Zn5 h (fun h=>?_) (fun h=>?_)
 conv=>whnf
 cases h
 exact hK
 conv=>whnf
 cases h
 exact hK
 conv=>whnf
 cases h
 exact hK
 conv=>whnf
 cases h
 exact hK
 conv=>whnf
 cases h
 exact hK
 conv=>whnf
 cases h
 exact hK
 conv=>whnf
 cases h
 exact hK
 conv=>whnf
 cases h
 exact hK
 conv=>whnf
 cases h
 exact hK
 conv=>whnf
 cases h
 exact hK
 conv=>whnf
 cases h
 exact hK
theorem ZoN (rec0:(List Zb)→Int→Option Yw) (hrec:Sq 108 (ZdF rec0)):Sq 108 (ZdF (Zab rec0)):=by
 refine Ze Zp (Zc hrec Zg) mixed {} (fn:=Tryz.f108) Tryz.func108 (by kernel_rfl) (by kernel_rfl) ?_
 rintro ⟨list0,k0,⟨⟩⟩ K ⟨r,h,hK⟩
 change Zab rec0 list0 k0=some r at h
 unfold Zab at h
 conv=>whnf
 refine vAt h (fun x0 he0a he0b he0x h=>?_)
 conv=>whnf
 refine Zn5 h (fun h=>?_) (fun h=>?_)
 conv=>whnf
 cases h
 exact hK
 conv=>whnf
 refine Zdx h (fun r0 hb1 h=>?_)
 conv=>whnf
 refine Zn5 h (fun h=>?_) (fun h=>?_)
 conv=>whnf
 refine ⟨by decide,?_⟩
 conv=>whnf
 refine ZpC h (fun h=>?_) (fun h=>?_)
 conv=>whnf
 cases h
 exact hK
 conv=>whnf
 cases h
 exact hK
 conv=>whnf
 refine ZpC h (fun h=>?_) (fun h=>?_)
 conv=>whnf
 cases h
 exact hK
 conv=>whnf
 cases h
 exact hK
theorem w76:Sq 108 c76:=by
 have hn:∀ n,Sq 108 (ZdF (Zac n)):=by
  intro n
  induction n with
  | zero =>
  refine Ze Zp Zg mixed {} (fn:=Tryz.f108) Tryz.func108 (by kernel_rfl) (by kernel_rfl) ?_
  rintro ⟨list0,k0,⟨⟩⟩ K ⟨r,h,hK⟩
  cases h
  | succ n ih=>exact ZoN _ ih
 refine ⟨(hn 0).1,?_⟩
 rintro w S vs ⟨list0,k0,⟨⟩⟩ fp K h1 h2 h3 h4 ⟨r,h,hK⟩
 obtain ⟨n,hr⟩:=Zpi h
 exact (hn n).2 w S vs _ fp K h1 h2 h3 h4 ⟨r,hr,hK⟩
end Go.Proofs.YtpiemlnhjobopaaGreatDoor
