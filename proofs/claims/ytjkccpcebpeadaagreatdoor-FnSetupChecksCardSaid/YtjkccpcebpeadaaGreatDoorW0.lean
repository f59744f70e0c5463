/-
  The functions keep their contracts, if what they call does. Printed by program.
-/
import Derived.Test.YtjkccpcebpeadaaGreatDoorM
import Derived.KernelRfl
namespace Go.Proofs.YtjkccpcebpeadaaGreatDoor
open Go Go.Sx
set_option maxRecDepth 100000
set_option maxHeartbeats 100000000
set_option linter.unusedVariables false
set_option linter.unusedSimpArgs false
structure Ws0:Prop where
 w153:Sq 147 c152->Sq 233 ZD7
 w89:Sq 77 c88->Sq 160 c89
 w56:Sq 311 c56
 w67:Sq 205 c34->Sq 149 c67
 w71:Sq 151 c70->Sq 222 c71
 w65:Sq 166 c30->Sq 271 c35->Sq 272 c59->Sq 46 c29->Sq 273 c64->Sq 219 c65
 w113:Sq 166 c30->Sq 167 ZDP->Sq 85 ZC5
 w115:Sq 85 ZC5->Sq 47 ZC6->Sq 46 c29->Sq 205 c34->Sq 142 ZDQ
 w75:Sq 153 c75
 w181:Sq 41 c175->Sq 42 ZEk->Sq 43 ZEl->Sq 17 ZEm
 w277:Sq 22 ZEd->Sq 7 ZMD
 w146:Sq 239 c145->Sq 174 c146
 w145:Sq 239 c145
 w158:Sq 248 c156->Sq 249 c157->Sq 182 ZDa
 w34:Sq 166 c30->Sq 265 c33->Sq 205 c34
 w148:Sq 240 ZD5->Sq 81 c148
 w122:Sq 194 ZDT
 w131:Sq 81 c130->Sq 163 c131
 w129:Sq 226 ZDX
 w282:Sq 178 ZDJ->Sq 46 c29->Sq 106 ZMI
 w104:Sq 46 c29->Sq 238 ZDK
 w102:Sq 46 c29->Sq 178 ZDJ
 w114:Sq 47 ZC6
 w279:Sq 169 ZMF
 w37:Sq 76 c37
 w162:Sq 319 c162
 w143:Sq 68 c139->Sq 69 c94->Sq 70 Zjx->Sq 67 ZC8->Sq 29 c143
 w281:Sq 30 c82->Sq 31 c91->Sq 86 ZMG->Sq 105 ZMH
 w151:Sq 286 ZC9
 w116:Sq 133 c92->Sq 134 c96->Sq 135 ZDI->Sq 138 ZDL->Sq 139 ZDO->Sq 142 ZDQ->Sq 65 c116
 w99:Sq 137 c98->Sq 136 c99
 w280:Sq 109 Zzq->Sq 168 ZME->Sq 169 ZMF->Sq 91 ZzV->Sq 170 c105->Sq 86 ZMG
 w187:Sq 244 ZDb->Sq 245 ZEn->Sq 180 ZEo
 w164:Sq 242 ZBY->Sq 286 ZC9->Sq 182 ZDa->Sq 289 ZEa->Sq 243 c164
 w73:Sq 274 c72->Sq 221 c73
 w57:Sq 311 c56->Sq 330 c57
 w61:Sq 320 c60->Sq 330 c61
 w202:Sq 261 c201->Sq 195 ZEu
 w269:Sq 94 ZMs->Sq 95 ZMt->Sq 96 ZMv->Sq 39 ZMw
 w197:Sq 347 c196->Sq 335 ZBG
 w268:Sq 185 ZMu->Sq 96 ZMv
 w242:Sq 255 ZEM
 w10:Sq 257 c8->Sq 258 c9->Sq 190 c10
 w9:Sq 21 c2->Sq 297 c7->Sq 258 c9
 w6:Sq 334 c5->Sq 322 c6
 w3:Sq 296 c3
 w198:Sq 335 ZBG->Sq 323 c198
 w13:Sq 53 c13
 w14:Sq 53 c13->Sq 115 c14
 w250:Sq 325 ZEP->Sq 326 ZMf->Sq 255 ZEM->Sq 305 ZMg
 w231:Sq 50 ZEx->Sq 57 ZDg->Sq 200 ZEE->Sq 121 ZEF
 w217:Sq 127 ZDf
 w225:Sq 132 ZED
 w248:Sq 301 ZEK->Sq 187 ZEN->Sq 303 ZEO->Sq 302 ZEQ->Sq 304 ZER->Sq 255 ZEM->Sq 262 ZES
 w247:Sq 304 ZER
 w258:Sq 250 ZMo
 w275:Sq 97 ZMx->Sq 98 ZMz->Sq 99 ZMA->Sq 40 ZMB
 w271:Sq 253 ZMy
 w273:Sq 186 ZMd->Sq 98 ZMz
 w26:Sq 107 c18->Sq 21 c2->Sq 53 c13->Sq 108 c19->Sq 51 c25->Sq 45 c26
set_option maxHeartbeats 100000000 in
theorem ws0:Ws0:=by
 refine ⟨(λq=>HK Zy (Zb q Zl) {} Tryz.func233 ?_),
 (λq=>HK Zy (Zb q Zl) {loops:=[(0,[.reg 8 (.dat Iq),.ent 3 (nat_lit 2) (.flat Zza.ety)])],draws:=[(1,[],.u 0 7 (.alt 7 (.a [8,9] (.op 10 .done)) (.a [8,7,9] (.op 10 .done)))),(6,[],.u 0 22 (.d 22))]} Tryz.func160 ?_),
 (HK Zy Zl {} Tryz.func311 ?_),
 (λq=>HK Zy (Zb q Zl) {loops:=[(0,[.reg 3 (.own (.ol 9 (.flat (.str)))),.reg 12 (.dat Iq)]),(2,[.reg 4 (.own (.ol 9 (.flat (.str)))),.reg 25 (.dat Iq)])]} Tryz.func149 ?_),
 (λq=>HK Zy (Zb q Zl) {} Tryz.func222 ?_),
 (λc b Q f q=>HK Zy (Zb c (Zb b (Zb Q (Zb f (Zb q Zl))))) {} Tryz.func219 ?_),
 (λQ q=>HK Zy (Zb Q (Zb q Zl)) {} Tryz.func85 ?_),
 (λQ q c b=>HK Zy (Zb Q (Zb q (Zb c (Zb b Zl)))) {loops:=[(0,[.reg 3 (.own (.ol 9 (.flat (.str)))),.reg 8 (.dat Iq)])]} Tryz.func142 ?_),
 (HK Zy Zl {} Tryz.func153 ?_),
 (λb q Q=>HK Zy (Zb b (Zb q (Zb Q Zl))) {draws:=[(4,[],.o [0,2] (.u 4 13 (.a [1,3] (.op 17 (.alt 18 (.op 19 .done) .done)))))]} Tryz.func17 ?_),
 (λq=>HK Zy (Zb q Zl) {} Tryz.func7 ?_),
 (λq=>HK Zy (Zb q Zl) {draws:=[(2,[],.o [0,1,2,5] (.alt 3 (.alt 4 (.alt 6 (.o [7,8] (.alt 9 (.o [10,11] (.d 12)) .done)) .done) (.alt 6 (.o [7,8] (.alt 4 (.alt 9 (.o [10,11] (.d 12)) .done) (.a [9,4] (.o [10,11] (.d 12))))) .done)) (.alt 4 (.alt 3 (.alt 6 (.o [7,8] (.alt 9 (.o [10,11] (.d 12)) .done)) .done) (.a [6,3] (.o [7,8] (.alt 9 (.o [10,11] (.d 12)) .done)))) (.alt 6 (.alt 3 (.o [7,8] (.alt 4 (.alt 9 (.o [10,11] (.d 12)) .done) (.a [9,4] (.o [10,11] (.d 12))))) (.a [4,3] (.o [7,8] (.alt 9 (.o [10,11] (.d 12)) .done)))) .done)))),(3,[],.u 0 7 (.u 8 5 (.a [7,13] (.o [14,15] (.alt 16 (.o [17,18] (.d 19)) .done)))))]} Tryz.func174 ?_),
 (HK Zy Zl {} Tryz.func239 ?_),
 (λq Q=>HK Zy (Zb q (Zb Q Zl)) {loops:=[(0,[.reg 13 (.dat Iq),.reg 34 (.dat Iq)]),(2,[.reg 13 (.dat Iq),.reg 40 (.dat Iq)])],draws:=[(10,[],.u 0 22 .done)]} Tryz.func182 ?_),
 (λQ q=>HK Zy (Zb Q (Zb q Zl)) {loops:=[(0,[.reg 7 (.dat Iq)])]} Tryz.func205 ?_),
 (λq=>HK Zy (Zb q Zl) {loops:=[(0,[.reg 5 (.own (.ol 2 (.flat Iq))),.reg 16 (.dat Iq)])]} Tryz.func81 ?_),
 (HK Zy Zl {} Tryz.func194 ?_),
 (λq=>HK Zy (Zb q Zl) {} Tryz.func163 ?_),
 (HK Zy Zl {} Tryz.func226 ?_),
 (λq Q=>HK Zy (Zb q (Zb Q Zl)) {} Tryz.func106 ?_),
 (λq=>HK Zy (Zb q Zl) {} Tryz.func238 ?_),
 (λq=>HK Zy (Zb q Zl) {} Tryz.func178 ?_),
 (HK Zy Zl {} Tryz.func47 ?_),
 (HK Zy Zl {} Tryz.func169 ?_),
 (HK Zy Zl {} Tryz.func76 ?_),
 (HK Zy Zl {loops:=[(0,[.reg 3 (.dat Iq),.reg 4 (.dat Iq)])]} Tryz.func319 ?_),
 (λq c b Q=>HK Zy (Zb q (Zb c (Zb b (Zwv (Zzx Zcl (Zb Q Zl) mixed {draws:=[(0,[],.u 0 5 (.alt 5 (.o [6,7,8] (.a [9,10] (.op 11 .done))) (.a [9,5] (.o [6,7,8] (.alt 10 (.op 11 .done) .done)))))]} Tryz.func66 (by kernel_rfl) (by kernel_rfl)) Zl)))) {loops:=[(0,[.reg 14 (.dat Iq),.cello 1 0 (.ol 149 (.flat (Xv)))]),(2,[.reg 27 (.dat Iq),.cello 1 0 (.ol 149 (.flat (Xv)))])]} Tryz.func29 ?_),
 (λQ b q=>HK Zy (Zb Q (Zb b (Zb q Zl))) {} Tryz.func105 ?_),
 (HK Zy Zl {draws:=[(1,[],.u 0 18 (.a [18,19] .done)),(2,[],.u 0 15 (.d 15))]} Tryz.func286 ?_),
 (λb i Q c q f=>HK Zy (Zb b (Zb i (Zb Q (Zb c (Zb q (Zb f Zl)))))) {} Tryz.func65 ?_),
 (λq=>HK Zy (Zb q Zl) {} Tryz.func136 ?_),
 (λb Q q f c=>HK Zy (Zb b (Zb Q (Zb q (Zb f (Zb c Zl))))) {loops:=[(0,[.reg 32 (.dat Iq)])]} Tryz.func86 ?_),
 (λQ q=>HK Zy (Zb Q (Zb q Zl)) {draws:=[(1,[],.u 0 19 (.a [19,20] .done)),(3,[],.u 0 7 (.alt 7 (.op 8 .done) .done)),(4,[],.u 0 14 (.alt 14 (.o [15,16,17] .done) .done))]} Tryz.func180 ?_),
 (λQ b q c=>HK Zy (Zb Q (Zb b (Zb q (Zb c Zl)))) {draws:=[(4,[],.o [0,1,4,5,6] (.u 9 9 (.alt 2 (.o [3,7,8] (.alt 18 (.o [19,20] .done) .done)) .done))),(5,[],.u 0 13 (.alt 13 (.o [14,15] .done) .done))]} Tryz.func243 ?_),
 (λq=>HK Zy (Zb q Zl) {} Tryz.func221 ?_),
 (λq=>HK Zy (Zb q Zl) {loops:=[(0,[.reg 8 (.dat Iq)])]} Tryz.func330 ?_),
 (λq=>HK Zy (Zb q Zl) {loops:=[(0,[.reg 8 (.dat Iq)])]} Tryz.func330 ?_),
 (λq=>HK Zy (Zb q Zl) {loops:=[(0,[.reg 3 (.dat Iq)]),(2,[.reg 4 (.dat Iq)])],draws:=[(9,[],.u 0 13 .done)]} Tryz.func195 ?_),
 (λq Q b=>HK Zy (Zb q (Zb Q (Zb b Zl))) {} Tryz.func39 ?_),
 (λq=>HK Zy (Zb q Zl) {loops:=[(0,[.reg 5 (.dat Iq),.cell 1004 0 Iq,.cell 1004 1 Iq])],draws:=[(3,[],.u 0 9 (.a [9,10] .done)),(7,[],.u 0 9 (.d 9)),(8,[],.u 0 9 (.d 9))]} Tryz.func335 ?_),
 (λq=>HK Zy (Zb q Zl) {draws:=[(7,[],.u 0 13 .done)]} Tryz.func96 ?_),
 (HK Zy Zl {} Tryz.func255 ?_),
 (λQ q=>HK Zcl (Zb Q (Zb q Zl)) {} Tryz.func190 ?_),
 (λQ q=>HK Zcl (Zb Q (Zb q Zl)) {} Tryz.func258 ?_),
 (λq=>HK Zcl (Zb q Zl) {draws:=[(2,[],.o [1,2] (.ld 0 (.a [3,4] (.op 5 .done))))]} Tryz.func322 ?_),
 (HK Zy Zl {loops:=[(0,[.reg 5 (.dat (.bool)),.reg 6 (.dat (.bool)),.reg 8 (.dat Iq)])],draws:=[(7,[],.u 0 17 .done),(8,[],.u 0 17 .done)]} Tryz.func296 ?_),
 (λq=>HK Zy (Zb q Zl) {loops:=[(0,[.reg 5 (.dat Iq)])]} Tryz.func323 ?_),
 (HK Zy Zl {loops:=[(0,[.reg 3 (.own (.ol 205 (.flat (ZgB)))),.reg 4 (.dat Iq)]),(2,[.reg 3 (.own (.ol 205 (.flat (ZgB)))),.reg 6 (.dat Iq)]),(4,[.reg 3 (.own (.ol 205 (.flat (ZgB)))),.reg 7 (.dat Iq)])],draws:=[(13,[],.u 0 16 (.a [16,17] (.op 18 .done)))]} Tryz.func53 ?_),
 (λq=>HK Zy (Zb q Zl) {loops:=[(0,[.reg 5 (.own (.ol 2 (.flat Iq))),.reg 7 (.dat Iq)])]} Tryz.func115 ?_),
 (λq Q b=>HK Zy (Zb q (Zb Q (Zb b Zl))) {draws:=[(1,[],.o [0,1] (.u 3 9 (.alt 2 (.o [12,13,14] .done) .done)))]} Tryz.func305 ?_),
 (λb Q q=>HK Zy (Zb b (Zb Q (Zb q Zl))) {} Tryz.func121 ?_),
 (HK Zcl Zl {} Tryz.func127 ?_),
 (HK Zy Zl {loops:=[(0,[.reg 7 (.dat Iq)])]} Tryz.func132 ?_),
 (λc b f q Q i=>HK Zy (Zb c (Zb b (Zb f (Zb q (Zb Q (Zb i Zl)))))) {draws:=[(5,[],.o [0,1,2,4,6,7] (.a [3,5] (.o [8,9,10] .done)))]} Tryz.func262 ?_),
 (HK Zy Zl {} Tryz.func304 ?_),
 (HK Zy Zl {loops:=[(0,[.reg 1 (.dat Iq)])]} Tryz.func250 ?_),
 (λQ q b=>HK Zy (Zb Q (Zb q (Zb b Zl))) {loops:=[(0,[.reg 7 (.own (.ol 71 (.flat (ZCE)))),.reg 9 (.dat Iq),.ent 4 (nat_lit 52) (Dp.ol (2:Go.TypeId) (Dp.flat (Ty.int IntKind.i64)))])],draws:=[(8,[],.u 0 14 (.alt 14 (.op 15 (.a [16,17] (.op 18 .done))) .done))]} Tryz.func40 ?_),
 (HK Zy Zl {loops:=[(1,[.reg 3 (.dat Iq)])]} Tryz.func253 ?_),
 (λq=>HK Zy (Zb q Zl) {} Tryz.func98 ?_),
 (λb c q f Q=>HK Zcl (Zb b (Zb c (Zb q (Zb f (Zb Q Zl))))) {loops:=[(0,[.reg 9 (.dat Iq),.cell 1000 0 (.sl (.int .u8)),.cell 1000 1 Iq,.cell 1000 2 Iq,.cello 1008 0 (.ol 114 (.flat (ZbL)))]),(2,[.reg 11 (.own (.ol 122 (.flat (Jz)))),.reg 12 (.own (.ol 122 (.flat (Jz)))),.reg 13 (.dat Iq),.cell 1000 0 (.sl (.int .u8)),.cell 1000 1 Iq,.cell 1000 2 Iq]),(5,[.reg 17 (.own (.ol 124 (Zja))),.reg 18 (.dat Iq),.cell 1000 0 (.sl (.int .u8)),.cell 1000 1 Iq,.cell 1000 2 Iq])],draws:=[(17,[],.o [1,2] (.ld 4 (.alt 0 (.alt 3 (.a [5,6] (.op 7 (.d 8))) (.a [5,3,6] (.op 7 (.d 8)))) (.a [5,0,3,6] (.op 7 (.d 8)))))),(48,[],.op 0 (.alt 1 (.a [2,3] .done) (.a [2,1,3] .done)))]} Tryz.func45 ?_)⟩
 all_goals
  intro a;repeat rcases a with⟨_,a⟩
  rintro K ⟨r,h,k⟩;repeat'
    conv=>whnf
    first
    |with_reducible refine Zz8 ?_
    |with_reducible refine Zlc (by assumption) (by assumption) (by assumption) ?_
    |with_reducible refine ZoA (by assumption) ?_
    |with_reducible refine Zlh (by assumption) ?_
    |(with_reducible refine shD ?_);first|refine Zsh h (λh=>?_) (λh=>?_)|refine ZBz h (λh=>?_) (λh=>?_)
    |(with_reducible refine ZAM ?_);first|refine ZCX ?_|refine ZxK ?_
    |(with_reducible refine ZE8 ?_);first|refine ZxI h (λh=>?_) (λh=>?_)|refine ZBy h (λh=>?_) (λh=>?_)
    |(with_reducible refine ZAL ?_);(refine⟨λL=>?_,?_⟩)<;>try subst L
    |(with_reducible refine ZFa ?_);first|with_reducible refine Ziu h (λx H h=>?_)|refine Zlh (by assumption) ?_|with_reducible refine pG h (λg h=>?_)|with_reducible refine pA h (λx m H Z h=>?_)|with_reducible refine pB h (λx H h=>?_)|refine Ziu h (λx H h=>?_)
    |(with_reducible refine ZE7 ?_);first|with_reducible refine vAt h (λx m H Z h=>?_)|refine Zlc (by assumption) (by assumption) (by assumption) ?_|with_reducible refine pG h (λg h=>?_)|with_reducible refine pA h (λx m H Z h=>?_)|with_reducible refine pB h (λx H h=>?_)|refine vAt h (λx m H Z h=>?_)
    |(with_reducible refine ZAK ?_);first|with_reducible refine Zvi h (λx H h=>?_)|refine ZoA (by assumption) ?_|with_reducible refine pG h (λg h=>?_)|with_reducible refine pA h (λx m H Z h=>?_)|with_reducible refine pB h (λx H h=>?_)|refine Zvi h (λx H h=>?_)
    |with_reducible refine ZE9 ?_
    |(with_reducible refine Zxm ?_);refine ZxJ h k ?_;clear h k;intro I μ v r h k;(repeat rcases v with⟨_,v⟩);(try dsimp only at h)
    |with_reducible refine⟨by assumption,?_⟩
    |with_reducible refine orL ?_
    |with_reducible refine .inr ?_
    |(with_reducible refine ZAN ?_);first|refine⟨?_,True.intro⟩|refine⟨?_,?_⟩
    |refine⟨by kernel_rfl,?_⟩
    |refine⟨by decide,?_⟩
    |with_reducible refine ZBA h (λg h=>?_)
    |intro p
    |exact trivial
    |with_reducible exact Zz5 h
    |(refine pS h (λe=>?_));subst e;(repeat (first|exact k|exact⟨⟨rfl,rfl⟩,k.1 _ rfl⟩|(refine pR k (λe k=>?_));subst e));done
    |refine ZBA h (λg h=>?_)
    |refine⟨by assumption,?_⟩
    |with_reducible refine pG h (λg h=>?_)|with_reducible refine pA h (λx m H Z h=>?_)|with_reducible refine pB h (λx H h=>?_)
    |refine pG h (λg h=>?_)
    |fail
theorem ZIp (q:Sq 164 ZDZ):Sq 83 ZD0:=by
 refine HK Zy (Zb q Zl) {} Tryz.func83 ?_;rintro⟨s0,v0,⟨⟩⟩ K ⟨r,h,k⟩
 change YK s0 v0=some r at h
 unfold YK at h
 conv=>whnf
 refine Ziu h (λi c h=>?_)
 conv=>whnf
 cases h;exact k
theorem ZIo:Sq 164 ZDZ:=by
 refine HK Zy Zl {loops:=[(0,[.reg 8 (.dat Iq)])]} Tryz.func164 ?_;rintro⟨s0,v0,⟨⟩⟩ K ⟨r,h,k⟩
 change Xz s0 v0=some r at h
 unfold Xz at h
 conv=>whnf
 refine ZCW h ?_;rintro I0 c ⟨v1,⟨⟩⟩ z h A H
 change Xg s0 v0 v1=some z at h
 unfold Xg at h
 conv=>whnf
 refine Zsh h (λh=>?_) (λh=>?_)
 conv=>whnf
 refine vAt h (λX a b x h=>?_)
 conv=>whnf
 refine Zsh h (λh=>?_) (λh=>?_)
 conv=>whnf
 cases h;obtain rfl:=H _ rfl;exact k
 conv=>whnf
 cases h;exact⟨⟨rfl,rfl⟩,A _ rfl⟩
 conv=>whnf
 cases h;obtain rfl:=H _ rfl;exact k
theorem ZqT (R:(List Zf)->Int->Option YX) (c:Sq 63 (ZfU R)):Sq 63 (ZfU (Zch R)):=by
 refine HK Zy (Zb c Zl) {} Tryz.func63 ?_;rintro⟨l,k0,⟨⟩⟩ K ⟨r,h,k⟩
 change Zch R l k0=some r at h
 unfold Zch at h
 conv=>whnf
 refine vAt h (λX a b x h=>?_)
 conv=>whnf
 refine Zsh h (λh=>?_) (λh=>?_)
 conv=>whnf
 cases h;exact k
 conv=>whnf
 refine Ziu h (λd H h=>?_)
 conv=>whnf
 refine Zsh h (λh=>?_) (λh=>?_)
 conv=>whnf
 refine⟨by decide,?_⟩
 conv=>whnf
 refine ZxI h (λh=>?_) (λh=>?_)
 conv=>whnf
 cases h;exact k
 conv=>whnf
 cases h;exact k
 conv=>whnf
 refine ZxI h (λh=>?_) (λh=>?_)
 conv=>whnf
 cases h;exact k
 conv=>whnf
 cases h;exact k
theorem w24:Sq 63 c24:=by
 have W:∀n,Sq 63 (ZfU (Zci n)):=by
  intro n;induction n with
  |zero =>
  refine HK Zy Zl {} Tryz.func63 ?_;rintro⟨l,k0,⟨⟩⟩ K ⟨r,h,k⟩;cases h
  |succ n I=>exact ZqT _ I
 refine⟨(W 0).1,?_⟩;rintro w S vs ⟨l,k0,⟨⟩⟩ f K d H g i ⟨r,h,k⟩;obtain⟨n,E⟩:=Zn9 h;exact(W n).2 w S vs _ f K d H g i ⟨r,E,k⟩
end Go.Proofs.YtjkccpcebpeadaaGreatDoor
