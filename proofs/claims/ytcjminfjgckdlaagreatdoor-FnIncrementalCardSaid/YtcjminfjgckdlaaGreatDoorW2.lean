/-
  The functions keep their contracts, if what they call does. Printed by program.
-/
import Derived.Test.YtcjminfjgckdlaaGreatDoorM
import Derived.KernelRfl
namespace Go.Proofs.YtcjminfjgckdlaaGreatDoor
open Go Go.Sx
set_option maxRecDepth 100000
set_option maxHeartbeats 100000000
set_option linter.unusedVariables false
set_option linter.unusedSimpArgs false
structure Ws2:Prop where
 w169:Sq 199 ZIc
 w242:Sq 192 ZDX->Sq 255 ZGT->Sq 258 ZIH
 w170:Sq 199 ZIc->Sq 121 ZId
 w175:Sq 123 ZGI->Sq 201 c175
 w143:Sq 345 c139->Sq 346 ZH3->Sq 319 c143
 w134:Sq 375 ZHZ
 w147:Sq 346 c146->Sq 349 ZH5
 w151:Sq 272 ZFF->Sq 224 ZH8
 w245:Sq 88 ZFI->Sq 120 ZIJ->Sq 47 ZFi
 w266:Sq 110 ZIT->Sq 111 ZuI->Sq 112 ZIU->Sq 113 ZIV->Sq 114 ZFK->Sq 115 ZFL->Sq 116 ZFM->Sq 117 ZGY->Sq 45 ZFj
 w244:Sq 197 c233->Sq 198 ZII->Sq 120 ZIJ
 w233:Sq 202 Ztz->Sq 252 c229->Sq 251 c232->Sq 111 ZuI->Sq 210 ZGJ->Sq 253 c152->Sq 226 c154->Sq 122 ZDW->Sq 197 c233
 w282:Sq 15 ZGX->Sq 43 ZIX->Sq 45 ZFj->Sq 46 ZG0->Sq 44 ZI7->Sq 13 ZI8
 w149:Sq 166 ZFg->Sq 318 c119->Sq 319 c143->Sq 202 Ztz->Sq 320 c148->Sq 271 ZH6
 w204:Sq 235 ZIn
 w164:Sq 202 Ztz->Sq 229 c164
 w119:Sq 202 Ztz->Sq 344 ZGF->Sq 272 ZFF->Sq 318 c119
 w125:Sq 188 c124->Sq 134 ZDd
 w216:Sq 285 ZFh
 w289:Sq 60 ZJf
 w226:Sq 175 c203->Sq 176 ZIo->Sq 177 c208->Sq 178 ZIx->Sq 179 ZIy->Sq 95 c226
 w193:Sq 172 ZIj->Sq 171 c193
 w280:Sq 135 ZA3->Sq 119 ZGZ->Sq 177 c208->Sq 188 ZI5->Sq 95 c226->Sq 96 c183->Sq 109 ZI6
 w277:Sq 189 ZI3
 w237:Sq 255 ZGT
 w184:Sq 202 Ztz->Sq 203 ZIg
 w180:Sq 168 ZGK
 w187:Sq 170 ZIh
 w178:Sq 210 ZGJ
 w153:Sq 192 ZDX
 w231:Sq 339 ZIz->Sq 307 ZIA
 w199:Sq 88 ZFI->Sq 89 c168->Sq 48 ZDY->Sq 90 ZGM->Sq 91 ZGN->Sq 49 ZGO->Sq 92 ZGP->Sq 93 c198->Sq 37 ZGQ
 w186:Sq 135 ZA3->Sq 168 ZGK->Sq 169 ZIf->Sq 96 c183->Sq 126 ZGL->Sq 90 ZGM
 w200:Sq 135 ZA3->Sq 94 ZGR
 w274:Sq 186 ZI0
 w255:Sq 246 ZIP
 w248:Sq 51 ZIK
 w279:Sq 242 ZI4->Sq 188 ZI5
 w161:Sq 274 c160->Sq 227 ZIb
 w230:Sq 339 ZIz
 w145:Sq 364 ZH4->Sq 363 c145
 w129:Sq 373 ZHW
 w79:Sq 53 c65->Sq 84 c78->Sq 34 c79
 w37:Sq 81 c35->Sq 77 c14->Sq 146 c36->Sq 71 c37
 w27:Sq 358 c26->Sq 343 c27
 w2:Sq 27 c2
 w4:Sq 27 c2->Sq 357 c4
 w66:Sq 70 c16->Sq 342 c66
 w30:Sq 270 c30
 w67:Sq 342 c66->Sq 316 c67
 w24:Sq 181 c22->Sq 131 c23->Sq 268 c24
 w60:Sq 259 c60
 w38:Sq 72 c13->Sq 73 c38
 w17:Sq 27 c2->Sq 147 c15->Sq 70 c16->Sq 76 c17
 w93:Sq 70 c16->Sq 72 c13->Sq 77 c14->Sq 354 c92->Sq 329 c93
 w15:Sq 147 c15
 w71:Sq 70 c16->Sq 161 c71
 w103:Sq 332 ZHM
 w104:Sq 331 c99->Sq 332 ZHM->Sq 293 c96->Sq 295 ZHN
 w57:Sq 204 c57
 w78:Sq 152 c72->Sq 72 c13->Sq 156 c76->Sq 157 c77->Sq 158 c73->Sq 159 c74->Sq 160 c75->Sq 161 c71->Sq 84 c78
 w56:Sq 72 c13->Sq 131 c23->Sq 129 c56
 w46:Sq 72 c13->Sq 103 c46
 w43:Sq 71 c37->Sq 27 c2->Sq 40 c42->Sq 150 c43
 w44:Sq 106 c44
 w45:Sq 106 c44->Sq 42 c45
 w83:Sq 131 c23->Sq 182 c83
 w105:Sq 289 c94->Sq 290 c97->Sq 292 c98->Sq 295 ZHN->Sq 241 c105
 w91:Sq 102 c91
 w109:Sq 103 c46->Sq 102 c91->Sq 104 ZHP->Sq 105 c85->Sq 41 c109
set_option maxHeartbeats 100000000 in
theorem ws2:Ws2:=by
 refine ⟨(G8 Zv Zm {} Tryz.func199 ?_),
 (λq Q=>G8 Zv (Zd q (Zd Q Zm)) {draws:=[(6,[],.u 0 7 (.alt 7 (.u 8 27 .done) .done))]} Tryz.func258 ?_),
 (λq=>G8 Zv (Zd q Zm) {loops:=[(0,[.reg 7 (.own (.ol 209 (.flat (ZbZ)))),.reg 21 (.dat Iq)]),(2,[.reg 7 (.own (.ol 209 (.flat (ZbZ)))),.reg 29 (.dat Iq)])]} Tryz.func121 ?_),
 (λq=>G8 Zv (Zd q Zm) {loops:=[(0,[.reg 8 (.dat Iq),.ent 3 (nat_lit 2) (.flat Zye.ety)])],draws:=[(1,[],.u 0 7 (.alt 7 (.a [8,9] (.op 10 .done)) (.a [8,7,9] (.op 10 .done)))),(6,[],.u 0 22 (.d 22))]} Tryz.func201 ?_),
 (λQ q=>G8 Zv (Zd Q (Zd q Zm)) {loops:=[(0,[.reg 8 (.dat Iq)])]} Tryz.func319 ?_),
 (G8 Zv Zm {} Tryz.func375 ?_),
 (λq=>G8 Zv (Zd q Zm) {} Tryz.func349 ?_),
 (λq=>G8 Zv (Zd q Zm) {loops:=[(0,[.reg 3 (.own (.ol 9 (.flat (.str)))),.reg 12 (.dat Iq)]),(2,[.reg 4 (.own (.ol 9 (.flat (.str)))),.reg 25 (.dat Iq)])]} Tryz.func224 ?_),
 (λQ q=>G8 Zv (Zd Q (Zd q Zm)) {} Tryz.func47 ?_),
 (λi Q f q b g c j=>G8 Qi (Zd i (Zd Q (Zd f (Zd q (Zd b (Zd g (Zd c (Zd j Zm)))))))) {draws:=[(4,[],.u 0 5 (.o [6,7,11,12] (.alt 5 (.o [8,9,10,13,14] (.d 15)) .done))),(11,[],.o [0,1,3,4] (.alt 2 (.o [5,6] (.a [7,8] .done)) (.a [7,2] (.o [5,6] (.d 8))))),(17,[],.u 0 6 (.alt 6 (.op 7 (.d 8)) .done))]} Tryz.func45 ?_),
 (λQ q=>G8 Zv (Zd Q (Zd q Zm)) {} Tryz.func120 ?_),
 (λj g i b q Q c f=>G8 Zv (Zd j (Zd g (Zd i (Zd b (Zd q (Zd Q (Zd c (Zd f Zm)))))))) {draws:=[(1,[],.o [0,1] (.alt 2 (.u 3 4 (.a [7,8] (.o [9,10] .done))) .done)),(3,[],.u 0 4 (.a [4,5] (.op 6 (.alt 7 (.op 8 .done) .done)))),(7,[],.u 0 7 (.alt 7 (.op 8 (.alt 9 (.o [10,11] .done) .done)) .done)),(9,[],.u 0 6 (.alt 6 (.u 7 11 (.alt 18 (.op 19 (.alt 20 (.o [21,22] .done) .done)) .done)) .done))]} Tryz.func197 ?_),
 (λq b c f Q=>G8 Zv (Zd q (Zd b (Zd c (Zd f (Zd Q Zm))))) {draws:=[(7,[],.o [0,1] (.u 3 5 (.a [2,8,9] (.o [10,11,12] (.alt 13 (.o [14,15] .done) .done)))))]} Tryz.func13 ?_),
 (λc b Q f q=>G8 Zv (Zd c (Zd b (Zd Q (Zd f (Zd q Zm))))) {} Tryz.func271 ?_),
 (G8 Zv Zm {} Tryz.func235 ?_),
 (λq=>G8 Zv (Zd q Zm) {loops:=[(0,[.reg 8 (.dat Iq)])]} Tryz.func229 ?_),
 (λb q Q=>G8 Zv (Zd b (Zd q (Zd Q Zm))) {loops:=[(0,[.reg 3 (.own (.ol 9 (.flat (.str)))),.reg 8 (.dat Iq)])]} Tryz.func318 ?_),
 (λq=>G8 Zv (Zd q Zm) {} Tryz.func134 ?_),
 (G8 Zv Zm {draws:=[(1,[],.u 0 8 .done)]} Tryz.func285 ?_),
 (G8 Zv Zm {draws:=[(1,[],.u 0 6 .done)]} Tryz.func60 ?_),
 (λc q f Q b=>G8 Zv (Zd c (Zd q (Zd f (Zd Q (Zd b Zm))))) {loops:=[(0,[.reg 39 (.dat Iq),.cell 1012 0 Iq,.cell 1012 1 Iq,.cell 1012 2 Iq,.cell 1012 3 Iq,.cell 1012 4 Iq,.cell 1013 0 (.bool)])],draws:=[(11,[],.u 0 11 (.alt 11 (.o [12,13,14] (.alt 15 (.a [16,17,18] .done) (.a [16,15,17,18] .done))) (.alt 15 (.alt 11 (.o [12,13,14] (.a [16,17,18] .done)) (.a [16,11] (.o [12,13,14] (.a [17,18] .done)))) (.alt 16 (.alt 11 (.o [12,13,14] (.a [15,17,18] .done)) (.a [15,11] (.o [12,13,14] (.a [17,18] .done)))) .done)))),(12,[],.u 0 6 (.op 7 (.a [6,8] .done))),(16,[],.o [0,1] (.d 2))]} Tryz.func95 ?_),
 (λq=>G8 Zv (Zd q Zm) {loops:=[(0,[.reg 5 (.own (.ol 2 (.flat Iq))),.reg 16 (.dat Iq)])]} Tryz.func171 ?_),
 (λc Q f q b g=>G8 Qi (Zd c (Zd Q (Zd f (Zd q (Zd b (Zd g Zm)))))) {loops:=[(0,[.reg 15 (.own (.ol 2 (.flat Iq))),.reg 28 (.dat Iq),.ent 0 (nat_lit 4) (.flat Ty.bool),.ent 1 (nat_lit 85) (.flat ZaA),.ent 2 (nat_lit 85) (.flat ZaA),.ent 6 (nat_lit 4) (.flat Zyf.ety)])],draws:=[(11,[],.u 0 30 (.d 30)),(12,[],.u 0 4 (.o [5,6,8,9,10,12,14] (.l [4,7,11,13] (.alt 15 (.op 16 (.alt 17 (.op 18 (.d 19)) .done)) .done))))]} Tryz.func109 ?_),
 (G8 Zv Zm {draws:=[(1,[],.u 0 15 .done)]} Tryz.func189 ?_),
 (G8 Zv Zm {} Tryz.func255 ?_),
 (λq=>G8 Zv (Zd q Zm) {} Tryz.func203 ?_),
 (G8 Zv Zm {} Tryz.func168 ?_),
 (G8 Zv Zm {} Tryz.func170 ?_),
 (G8 Zv Zm {} Tryz.func210 ?_),
 (G8 Zv Zm {} Tryz.func192 ?_),
 (λq=>G8 Zv (Zd q Zm) {} Tryz.func307 ?_),
 (λi g j Q b q c f=>G8 Zv (Zd i (Zd g (Zd j (Zd Q (Zd b (Zd q (Zd c (Zd f Zm)))))))) {} Tryz.func37 ?_),
 (λb Q q f c=>G8 Zv (Zd b (Zd Q (Zd q (Zd f (Zd c Zm))))) {loops:=[(0,[.reg 32 (.dat Iq)])]} Tryz.func90 ?_),
 (λq=>G8 Zv (Zd q Zm) {draws:=[(2,[],.o [0,2,4] (.alt 1 (.alt 3 (.alt 5 (.op 6 (.d 7)) .done) (.a [5,3] (.op 6 (.d 7)))) (.alt 3 (.alt 1 (.alt 5 (.op 6 (.d 7)) .done) (.a [5,1] (.op 6 (.d 7)))) (.alt 5 (.alt 1 (.alt 3 (.op 6 (.d 7)) .done) (.a [3,1] (.op 6 (.d 7)))) .done))))]} Tryz.func94 ?_),
 (G8 Zv Zm {} Tryz.func186 ?_),
 (G8 Zv Zm {} Tryz.func246 ?_),
 (G8 Zv Zm {} Tryz.func51 ?_),
 (λq=>G8 Zv (Zd q Zm) {} Tryz.func188 ?_),
 (λq=>G8 Zv (Zd q Zm) {} Tryz.func227 ?_),
 (G8 Zv Zm {loops:=[(0,[.reg 13 (.dat Iq)])],draws:=[(6,[],.u 0 9 .done)]} Tryz.func339 ?_),
 (λq=>G8 Zv (Zd q Zm) {loops:=[(0,[.reg 8 (.dat Iq)])]} Tryz.func363 ?_),
 (G8 Zv Zm {loops:=[(0,[.reg 3 (.dat Iq),.reg 4 (.dat Iq)])]} Tryz.func373 ?_),
 (λq Q=>G8 Qi (Zd q (Zd Q Zm)) {} Tryz.func34 ?_),
 (λq Q b=>G8 Zv (Zd q (Zd Q (Zd b Zm))) {loops:=[(0,[.reg 3 (.dat Iq)])],draws:=[(6,[],.u 0 8 (.alt 8 (.op 9 (.alt 10 (.op 11 .done) .done)) .done))]} Tryz.func71 ?_),
 (λq=>G8 Zv (Zd q Zm) {loops:=[(0,[.reg 5 (.dat Iq),.cell 1004 0 Iq,.cell 1004 1 Iq])],draws:=[(3,[],.u 0 9 (.a [9,10] .done)),(7,[],.u 0 9 (.d 9)),(8,[],.u 0 9 (.d 9))]} Tryz.func343 ?_),
 (G8 Zv Zm {draws:=[(3,[],.u 0 10 .done),(4,[],.u 0 10 (.alt 10 (.op 11 .done) .done))]} Tryz.func27 ?_),
 (λq=>G8 Zv (Zd q Zm) {loops:=[(0,[.reg 5 (.own (.ol 2 (.flat Iq))),.reg 6 (.dat Iq),.reg 7 (.dat Iq),.cell 0 0 (.sl (.int .u8)),.cell 0 1 Iq,.cell 0 2 Iq])]} Tryz.func357 ?_),
 (λq=>G8 Zv (Zd q Zm) {draws:=[(1,[],.o [0,1,3,4,6,7] (.a [2,5,8] (.op 9 (.d 10))))]} Tryz.func342 ?_),
 (G8 Zv Zm {loops:=[(0,[.reg 4 (.dat Iq),.ent 1 (nat_lit 2) (.flat Zye.ety)])]} Tryz.func270 ?_),
 (λq=>G8 Qi (Zd q Zm) {loops:=[(0,[.reg 3 (.own (.ol 336 (Zj7))),.reg 4 (.dat Iq)])]} Tryz.func316 ?_),
 (λq Q=>G8 Zv (Zd q (Zd Q Zm)) {loops:=[(0,[.reg 5 (.dat Iq),.reg 6 (.dat Iq)]),(2,[.reg 8 (.dat Iq)])],draws:=[(12,[],.u 0 9 .done)]} Tryz.func268 ?_),
 (G8 Zv Zm {loops:=[(0,[.reg 5 (.dat Iq)])]} Tryz.func259 ?_),
 (λq=>G8 Zv (Zd q Zm) {loops:=[(0,[.reg 8 (.dat Iq)])]} Tryz.func73 ?_),
 (λQ q b=>G8 Zv (Zd Q (Zd q (Zd b Zm))) {loops:=[(0,[.reg 6 (.dat Iq),.cell 1000 0 (.sl (.int .u8)),.cell 1000 1 Iq,.cell 1000 2 Iq,.cello 1005 0 (.ol (nat_lit 2) (.flat (Ty.int IntKind.i64))),.cello 1005 1 (.ol (nat_lit 2) (.flat (Ty.int IntKind.i64))),.cello 1005 2 (.ol (nat_lit 2) (.flat (Ty.int IntKind.i64))),.cello 1005 3 (.ol (nat_lit 2) (.flat (Ty.int IntKind.i64)))]),(2,[.reg 8 (.dat Iq),.cell 1000 0 (.sl (.int .u8)),.cell 1000 1 Iq,.cell 1000 2 Iq,.ent 10 (nat_lit 2) (.flat (Ty.int IntKind.i64))])],draws:=[(6,[],.o [0,1,3,4,8,11,15,18,22] (.l [9,16,23] (.a [2,5,6,7,10,12,13,14,17,19,20,21] (.op 24 (.d 25))))),(10,[],.op 0 (.u 2 5 (.ld 1 (.alt 7 (.op 8 (.d 9)) .done))))]} Tryz.func76 ?_),
 (λb q Q c=>G8 Zv (Zd b (Zd q (Zd Q (Zd c Zm)))) {loops:=[(0,[.reg 9 (.dat Iq),.ent 2 (nat_lit 2) (.flat (Ty.int IntKind.i64))]),(2,[.reg 10 (.dat Iq),.ent 2 (nat_lit 2) (.flat (Ty.int IntKind.i64))])],draws:=[(8,[],.u 0 19 (.alt 19 (.o [20,21] (.d 22)) .done)),(12,[],.u 0 14 (.d 14))]} Tryz.func329 ?_),
 (G8 Zv Zm {} Tryz.func147 ?_),
 (λq=>G8 Zv (Zd q Zm) {draws:=[(1,[],.o [0,1,3,4,6,7,9,10] (.a [2,5,8,11] (.op 12 (.d 13))))]} Tryz.func161 ?_),
 (G8 Zv Zm {loops:=[(0,[.reg 5 (.dat Iq),.reg 6 (.dat Iq)])]} Tryz.func332 ?_),
 (λq Q b=>G8 Zv (Zd q (Zd Q (Zd b Zm))) {draws:=[(1,[],.o [0,1] (.u 3 9 (.alt 2 (.o [12,13,14] .done) .done)))]} Tryz.func295 ?_),
 (G8 Zv Zm {loops:=[(0,[.reg 5 (.dat Iq)])],draws:=[(6,[],.u 0 13 .done)]} Tryz.func204 ?_),
 (λj b c f i q g Q=>G8 Qi (Zd j (Zd b (Zd c (Zd f (Zd i (Zd q (Zd g (Zd Q Zm)))))))) {draws:=[(5,[],.u 0 13 (.d 13)),(13,[],.u 0 9 (.d 9)),(16,[],.u 0 6 (.alt 6 (.op 7 (.d 8)) .done))]} Tryz.func84 ?_),
 (λq Q=>G8 Zv (Zd q (Zd Q Zm)) {draws:=[(9,[],.u 0 4 (.alt 4 (.u 5 5 (.alt 10 (.u 11 13 (.alt 24 (.o [25,26] .done) .done)) .done)) .done))]} Tryz.func129 ?_),
 (λq=>G8 Zv (Zd q Zm) {} Tryz.func103 ?_),
 (λQ b q=>G8 Zv (Zd Q (Zd b (Zd q Zm))) {loops:=[(0,[.reg 5 (.own (.ol 2 (.flat Iq))),.reg 8 (.dat Iq),.cell 0 0 (.sl (.int .u8)),.cell 0 1 Iq,.cell 0 2 Iq])]} Tryz.func150 ?_),
 (G8 Zv Zm {loops:=[(0,[.reg 5 (.dat Iq)])]} Tryz.func106 ?_),
 (λq=>G8 Zv (Zd q Zm) {loops:=[(0,[.reg 5 (.own (.ol 4 (.flat (.bool)))),.reg 6 (.dat Iq)])]} Tryz.func42 ?_),
 (λq=>G8 Zv (Zd q Zm) {loops:=[(0,[.reg 5 (.dat Iq)])],draws:=[(4,[],.u 0 6 (.alt 6 (.u 7 17 .done) .done))]} Tryz.func182 ?_),
 (λb q c Q=>G8 Zv (Zd b (Zd q (Zd c (Zd Q Zm)))) {draws:=[(4,[],.o [0,1,2] (.u 4 4 (.a [3,8] (.o [9,10] .done))))]} Tryz.func241 ?_),
 (G8 Zv Zm {draws:=[(1,[],.o [0,2,4] (.alt 1 (.alt 3 (.alt 5 (.op 6 (.d 7)) .done) (.a [5,3] (.op 6 (.d 7)))) (.alt 3 (.alt 1 (.alt 5 (.op 6 (.d 7)) .done) (.a [5,1] (.op 6 (.d 7)))) (.alt 5 (.alt 1 (.alt 3 (.op 6 (.d 7)) .done) (.a [3,1] (.op 6 (.d 7)))) .done))))]} Tryz.func102 ?_),
 (λq Q b c=>G8 Zv (Zd q (Zd Q (Zd b (Zd c Zm)))) {loops:=[(0,[.reg 15 (.dat Iq),.cello 2 0 (.ol 4 (.flat (.bool))),.cello 2 1 (.ol 85 (.flat (ZaA))),.cello 2 2 (.ol 85 (.flat (ZaA))),.ent 3 (nat_lit 4) (.flat Ty.bool),.ent 4 (nat_lit 85) (.flat ZaA),.ent 5 (nat_lit 85) (.flat ZaA)])]} Tryz.func41 ?_)⟩
 all_goals
  intro a;repeat rcases a with⟨_,a⟩
  rintro K ⟨r,h,k⟩;repeat'
    conv=>whnf
    first
    |with_reducible refine ZhV ?_
    |with_reducible refine Zj0 (by assumption) (by assumption) (by assumption) ?_
    |with_reducible refine Z6 (by assumption) ?_
    |with_reducible refine Zj9 (by assumption) ?_
    |(with_reducible refine shD ?_);first|refine ZhT h (λh=>?_) (λh=>?_)|refine ZCW h (λh=>?_) (λh=>?_)
    |(with_reducible refine ZCi ?_);first|refine ZDG ?_|refine ZqR ?_
    |(with_reducible refine ZHj ?_);first|refine Zx6 h (λh=>?_) (λh=>?_)|refine ZCV h (λh=>?_) (λh=>?_)
    |(with_reducible refine ZCh ?_);(refine⟨λN=>?_,?_⟩)<;>try subst N
    |(with_reducible refine ZHl ?_);first|with_reducible refine Xu h (λx H h=>?_)|refine Zj9 (by assumption) ?_|with_reducible refine pG h (λp h=>?_)|with_reducible refine pA h (λx n H m h=>?_)|with_reducible refine pB h (λx H h=>?_)|refine Xu h (λx H h=>?_)
    |(with_reducible refine ZHi ?_);first|with_reducible refine vAt h (λx n H m h=>?_)|refine Zj0 (by assumption) (by assumption) (by assumption) ?_|with_reducible refine pG h (λp h=>?_)|with_reducible refine pA h (λx n H m h=>?_)|with_reducible refine pB h (λx H h=>?_)|refine vAt h (λx n H m h=>?_)
    |(with_reducible refine ZCg ?_);first|with_reducible refine ZuD h (λx H h=>?_)|refine Z6 (by assumption) ?_|with_reducible refine pG h (λp h=>?_)|with_reducible refine pA h (λx n H m h=>?_)|with_reducible refine pB h (λx H h=>?_)|refine ZuD h (λx H h=>?_)
    |with_reducible refine ZHk ?_
    |(with_reducible refine Zw0 ?_);refine Zw9 h k ?_;clear h k;intro I μ v r h k;(repeat rcases v with⟨_,v⟩);(try dsimp only at h)
    |with_reducible refine⟨by assumption,?_⟩
    |with_reducible refine orL ?_
    |with_reducible refine .inr ?_
    |(with_reducible refine ZCj ?_);first|refine⟨?_,True.intro⟩|refine⟨?_,?_⟩
    |refine⟨by kernel_rfl,?_⟩
    |refine⟨by decide,?_⟩
    |with_reducible refine ZrX h (λp h=>?_)
    |intro F
    |exact trivial
    |with_reducible exact ZBi h
    |(refine pS h (λe=>?_));subst e;(repeat (first|exact k|exact⟨⟨rfl,rfl⟩,k.1 _ rfl⟩|(refine pR k (λe k=>?_));subst e));done
    |refine ZrX h (λp h=>?_)
    |refine⟨by assumption,?_⟩
    |with_reducible refine pG h (λp h=>?_)|with_reducible refine pA h (λx n H m h=>?_)|with_reducible refine pB h (λx H h=>?_)
    |refine pG h (λp h=>?_)
    |fail
theorem ZMU (Q:Sq 243 ZIL) (G:Sq 137 c171) (E:Sq 244 ZIM) (I:Sq 245 ZIN):Sq 190 ZIO:=by
 refine G8 Qi (Zd Q (Zd G (Zd E (Zd I Zm)))) {loops:=[(0,[.reg 11 (.dat Iq),.cello 1003 0 (.ol 177 (Zsg))]),(2,[.reg 30 (.dat Iq),.splt 7 180 ZDh])],draws:=[(5,[],.o [0,1,3,4] (.alt 2 (.op 6 (.a [5,7] (.op 8 (.d 9)))) .done)),(10,[],.u 0 4 (.o [5,6,7,9,10] (.alt 4 (.a [8,11] (.o [12,13] (.alt 14 (.o [15,16] (.d 17)) .done))) (.alt 8 (.alt 4 (.alt 11 (.o [12,13] (.alt 14 (.o [15,16] (.d 17)) .done)) .done) (.alt 11 (.o [12,13] (.alt 4 (.alt 14 (.o [15,16] (.d 17)) .done) (.a [14,4] (.o [15,16] (.d 17))))) .done)) .done))))]} Tryz.func190 ?_;rintro⟨l0,⟨⟩⟩ K ⟨r,h,B⟩
 change Zaj l0=some r at h
 unfold Zaj at h
 conv=>whnf
 refine ZvU h ?_;rintro I0 N ⟨v0,c0,⟨⟩⟩ z h A p
 change Ql l0 v0 c0=some z at h
 unfold Ql at h
 conv=>whnf
 intro _
 conv=>whnf
 refine ZhT h (λh=>?_) (λh=>?_)
 conv=>whnf
 refine vAt h (λX w y s h=>?_)
 conv=>whnf
 refine⟨by kernel_rfl,?_⟩
 conv=>whnf
 refine Xu h (λPin0 _ h=>?_)
 conv=>whnf
 refine Xu h (λi _ h=>?_)
 conv=>whnf
 refine⟨trivial,?_⟩
 conv=>whnf
 refine Xu h (λArc0 _ h=>?_)
 conv=>whnf
 refine ZvU h ?_;rintro I6 O ⟨v1,L,⟨⟩⟩ Z h m q
 change Vo v0 c0 X Pin0 i Arc0 v1 L=some Z at h
 unfold Vo at h
 conv=>whnf
 intro _
 conv=>whnf
 refine ZhT h (λh=>?_) (λh=>?_)
 focus
  conv=>whnf
  refine vAt h (λJ j n x h=>?_)
  conv=>whnf
  refine ZrX h (λD h=>?_)
  conv=>whnf
  refine⟨j,n,Z6 x ?_⟩
  conv=>whnf
  refine⟨by kernel_rfl,?_⟩
  conv=>whnf
  obtain⟨C,k,h⟩:=UE.1 h;obtain⟨g,f,h⟩:=UE.1 h;obtain⟨H,h⟩:=guardE h;obtain⟨M,b,c,e,h⟩:=atE h;refine⟨?_,?_⟩;rotate_left
  focus
   conv=>whnf
   refine⟨_,k,?_⟩
   conv=>whnf
   intro l
   conv=>whnf
   refine⟨?_,?_⟩;rotate_left
   focus
    conv=>whnf
    refine⟨_,f,?_⟩
    conv=>whnf
    intro F
    conv=>whnf
    refine⟨j,n,Z6 x ?_⟩
    conv=>whnf
    refine⟨?_,?_⟩;rotate_left
    focus
     conv=>whnf
     refine⟨H,?_⟩
     conv=>whnf
     refine⟨b,c,Z6 e ?_⟩
     conv=>whnf
     refine⟨j,n,Z6 x ?_⟩
     conv=>whnf
     refine⟨H,?_⟩
     conv=>whnf
     refine⟨trivial,?_⟩
    rotate_right
    focus
     conv=>whnf
     refine⟨H,?_⟩
     conv=>whnf
     refine⟨b,c,Z6 e ?_⟩
     conv=>whnf
     refine⟨j,n,Z6 x ?_⟩
     conv=>whnf
     refine⟨H,?_⟩
     conv=>whnf
     refine⟨trivial,?_⟩
   rotate_right
   focus
    conv=>whnf
    refine⟨_,f,?_⟩
    conv=>whnf
    intro F
    conv=>whnf
    refine⟨j,n,Z6 x ?_⟩
    conv=>whnf
    refine⟨H,?_⟩
    conv=>whnf
    refine⟨b,c,Z6 e ?_⟩
    conv=>whnf
    refine⟨j,n,Z6 x ?_⟩
    conv=>whnf
    refine⟨H,?_⟩
    conv=>whnf
    refine⟨trivial,?_⟩
  rotate_right
  focus
   conv=>whnf
   refine⟨_,k,?_⟩
   conv=>whnf
   intro l
   conv=>whnf
   refine⟨_,f,?_⟩
   conv=>whnf
   intro F
   conv=>whnf
   refine⟨j,n,Z6 x ?_⟩
   conv=>whnf
   refine⟨H,?_⟩
   conv=>whnf
   refine⟨b,c,Z6 e ?_⟩
   conv=>whnf
   refine⟨j,n,Z6 x ?_⟩
   conv=>whnf
   refine⟨H,?_⟩
   conv=>whnf
   refine⟨trivial,?_⟩
  all_goals
   conv=>whnf
   cases h;exact⟨⟨rfl,rfl⟩,m _ rfl⟩
 conv=>whnf
 refine ZrX h (λt h=>?_)
 conv=>whnf
 intro _
 conv=>whnf
 refine ZrX h (λv h=>?_)
 conv=>whnf
 intro _
 conv=>whnf
 cases h;obtain rfl:=q _ rfl;exact⟨⟨rfl,rfl⟩,A _ rfl⟩
 conv=>whnf
 cases h;obtain rfl:=p _ rfl;exact B
theorem ZMY (q:Sq 196 ZIZ):Sq 119 ZGZ:=by
 refine G8 Zv (Zd q Zm) {} Tryz.func119 ?_;rintro⟨s0,v0,⟨⟩⟩ K ⟨r,h,k⟩
 change Yj s0 v0=some r at h
 unfold Yj at h
 conv=>whnf
 refine Xu h (λ_ _ h=>?_)
 conv=>whnf
 cases h;exact k
theorem w52 (p:Sq 148 c20) (Q:Sq 149 c21) (t:Sq 27 c2) (u:Sq 69 c18) (n:Sq 150 c43) (v:Sq 71 c37) (s:Sq 151 c50) (q:Sq 80 c51):Sq 78 c52:=by
 refine G8 Zv (Zd p (Zd Q (Zd t (Zd u (Zd n (Zd v (Zd s (Zd q Zm)))))))) {draws:=[(8,[],.o [2,3,4] (.ld 0 (.alt 1 (.a [5,6,7] (.o [8,9] .done)) (.alt 5 (.alt 1 (.a [6,7] (.o [8,9] .done)) (.a [6,1,7] (.o [8,9] .done))) .done))))]} Tryz.func78 ?_;rintro⟨s0,⟨⟩⟩ K ⟨r,h,k⟩
 change ZaT s0=some r at h
 unfold ZaT at h
 conv=>whnf
 refine Xu h (λ_ _ h=>?_)
 iterate 3 ((conv=>whnf);intro _)
 conv=>whnf
 refine Xu h (λ_ _ h=>?_)
 conv=>whnf
 refine Xu h (λ_ _ h=>?_)
 conv=>whnf
 refine ZhT h (λh=>?_) (λh=>?_)
 conv=>whnf
 refine Xu h (λ_ _ h=>?_)
 iterate 3 ((conv=>whnf);intro _)
 conv=>whnf
 refine Xu h (λL _ h=>?_)
 conv=>whnf
 refine Xu h (λIsBlock0 _ h=>?_)
 conv=>whnf
 refine Zx6 h (λh=>?_) (λh=>?_)
 conv=>whnf
 refine ZhT h (λh=>?_) (λh=>?_)
 conv=>whnf
 refine Xu h (λg _ h=>?_)
 conv=>whnf
 refine ZhT h (λh=>?_) (λh=>?_)
 focus
  conv=>whnf
  refine Xu h (λb _ h=>?_)
  iterate 2 ((conv=>whnf);refine⟨by kernel_rfl,?_⟩)
  conv=>whnf
  obtain⟨l,H,h⟩:=UE.1 h;refine⟨?_,?_⟩;rotate_left
  focus
   conv=>whnf
   refine⟨by kernel_rfl,?_⟩
   conv=>whnf
   refine⟨_,H,?_⟩
   conv=>whnf
   refine⟨?_,?_⟩;rotate_left
   focus
    conv=>whnf
    refine⟨trivial,?_⟩
   rotate_right
   focus
    conv=>whnf
    refine⟨trivial,?_⟩
  rotate_right
  focus
   conv=>whnf
   refine⟨by kernel_rfl,?_⟩
   conv=>whnf
   refine⟨_,H,?_⟩
   conv=>whnf
   refine⟨trivial,?_⟩
  all_goals
   conv=>whnf
   cases h;exact k
 focus
  iterate 2 ((conv=>whnf);refine⟨by kernel_rfl,?_⟩)
  conv=>whnf
  obtain⟨l,c,h⟩:=UE.1 h;refine⟨?_,?_⟩;rotate_left
  focus
   conv=>whnf
   refine⟨by kernel_rfl,?_⟩
   conv=>whnf
   refine⟨_,c,?_⟩
   conv=>whnf
   refine⟨?_,?_⟩;rotate_left
   focus
    conv=>whnf
    refine⟨trivial,?_⟩
   rotate_right
   focus
    conv=>whnf
    refine⟨trivial,?_⟩
  rotate_right
  focus
   conv=>whnf
   refine⟨by kernel_rfl,?_⟩
   conv=>whnf
   refine⟨_,c,?_⟩
   conv=>whnf
   refine⟨trivial,?_⟩
  all_goals
   conv=>whnf
   cases h;exact k
 focus
  iterate 2 ((conv=>whnf);refine⟨by kernel_rfl,?_⟩)
  conv=>whnf
  obtain⟨l,d,h⟩:=UE.1 h;refine⟨?_,?_⟩;rotate_left
  focus
   conv=>whnf
   refine⟨by kernel_rfl,?_⟩
   conv=>whnf
   refine⟨_,d,?_⟩
   conv=>whnf
   refine⟨?_,?_⟩;rotate_left
   focus
    conv=>whnf
    refine⟨trivial,?_⟩
   rotate_right
   focus
    conv=>whnf
    refine⟨trivial,?_⟩
  rotate_right
  focus
   conv=>whnf
   refine⟨by kernel_rfl,?_⟩
   conv=>whnf
   refine⟨_,d,?_⟩
   conv=>whnf
   refine⟨trivial,?_⟩
  all_goals
   conv=>whnf
   cases h;exact k
 focus
  iterate 2 ((conv=>whnf);refine⟨by kernel_rfl,?_⟩)
  conv=>whnf
  obtain⟨l,e,h⟩:=UE.1 h;refine⟨?_,?_⟩;rotate_left
  focus
   conv=>whnf
   refine⟨by kernel_rfl,?_⟩
   conv=>whnf
   refine⟨_,e,?_⟩
   conv=>whnf
   refine⟨?_,?_⟩;rotate_left
   focus
    conv=>whnf
    refine⟨trivial,?_⟩
   rotate_right
   focus
    conv=>whnf
    refine⟨trivial,?_⟩
  rotate_right
  focus
   conv=>whnf
   refine⟨by kernel_rfl,?_⟩
   conv=>whnf
   refine⟨_,e,?_⟩
   conv=>whnf
   refine⟨trivial,?_⟩
  all_goals
   conv=>whnf
   cases h;exact k
 conv=>whnf
 refine Xu h (λL _ h=>?_)
 conv=>whnf
 refine Xu h (λIsBlock0 _ h=>?_)
 conv=>whnf
 refine Zx6 h (λh=>?_) (λh=>?_)
 conv=>whnf
 refine ZhT h (λh=>?_) (λh=>?_)
 conv=>whnf
 refine Xu h (λg _ h=>?_)
 conv=>whnf
 refine ZhT h (λh=>?_) (λh=>?_)
 focus
  conv=>whnf
  refine Xu h (λb _ h=>?_)
  iterate 2 ((conv=>whnf);refine⟨by kernel_rfl,?_⟩)
  conv=>whnf
  obtain⟨l,f,h⟩:=UE.1 h;refine⟨?_,?_⟩;rotate_left
  focus
   conv=>whnf
   refine⟨by kernel_rfl,?_⟩
   conv=>whnf
   refine⟨_,f,?_⟩
   conv=>whnf
   refine⟨?_,?_⟩;rotate_left
   focus
    conv=>whnf
    refine⟨trivial,?_⟩
   rotate_right
   focus
    conv=>whnf
    refine⟨trivial,?_⟩
  rotate_right
  focus
   conv=>whnf
   refine⟨by kernel_rfl,?_⟩
   conv=>whnf
   refine⟨_,f,?_⟩
   conv=>whnf
   refine⟨trivial,?_⟩
  all_goals
   conv=>whnf
   cases h;exact k
 focus
  iterate 2 ((conv=>whnf);refine⟨by kernel_rfl,?_⟩)
  conv=>whnf
  obtain⟨l,i,h⟩:=UE.1 h;refine⟨?_,?_⟩;rotate_left
  focus
   conv=>whnf
   refine⟨by kernel_rfl,?_⟩
   conv=>whnf
   refine⟨_,i,?_⟩
   conv=>whnf
   refine⟨?_,?_⟩;rotate_left
   focus
    conv=>whnf
    refine⟨trivial,?_⟩
   rotate_right
   focus
    conv=>whnf
    refine⟨trivial,?_⟩
  rotate_right
  focus
   conv=>whnf
   refine⟨by kernel_rfl,?_⟩
   conv=>whnf
   refine⟨_,i,?_⟩
   conv=>whnf
   refine⟨trivial,?_⟩
  all_goals
   conv=>whnf
   cases h;exact k
 focus
  iterate 2 ((conv=>whnf);refine⟨by kernel_rfl,?_⟩)
  conv=>whnf
  obtain⟨l,j,h⟩:=UE.1 h;refine⟨?_,?_⟩;rotate_left
  focus
   conv=>whnf
   refine⟨by kernel_rfl,?_⟩
   conv=>whnf
   refine⟨_,j,?_⟩
   conv=>whnf
   refine⟨?_,?_⟩;rotate_left
   focus
    conv=>whnf
    refine⟨trivial,?_⟩
   rotate_right
   focus
    conv=>whnf
    refine⟨trivial,?_⟩
  rotate_right
  focus
   conv=>whnf
   refine⟨by kernel_rfl,?_⟩
   conv=>whnf
   refine⟨_,j,?_⟩
   conv=>whnf
   refine⟨trivial,?_⟩
  all_goals
   conv=>whnf
   cases h;exact k
 focus
  iterate 2 ((conv=>whnf);refine⟨by kernel_rfl,?_⟩)
  conv=>whnf
  obtain⟨l,m,h⟩:=UE.1 h;refine⟨?_,?_⟩;rotate_left
  focus
   conv=>whnf
   refine⟨by kernel_rfl,?_⟩
   conv=>whnf
   refine⟨_,m,?_⟩
   conv=>whnf
   refine⟨?_,?_⟩;rotate_left
   focus
    conv=>whnf
    refine⟨trivial,?_⟩
   rotate_right
   focus
    conv=>whnf
    refine⟨trivial,?_⟩
  rotate_right
  focus
   conv=>whnf
   refine⟨by kernel_rfl,?_⟩
   conv=>whnf
   refine⟨_,m,?_⟩
   conv=>whnf
   refine⟨trivial,?_⟩
  all_goals
   conv=>whnf
   cases h;exact k
theorem ZMT (n:Sq 78 c52) (s:Sq 71 c37) (t:Sq 27 c2) (m:Sq 26 c80) (p:Sq 79 c81) (Q:Sq 80 c51) (v:Sq 28 c54) (q:Sq 12 ZGE):Sq 29 ZHQ:=by
 refine G8 Zv (Zd n (Zd s (Zd t (Zd m (Zd p (Zd Q (Zd v (Zd q Zm)))))))) {draws:=[(3,[],.o [1,2] (.ld 0 (.alt 3 (.alt 4 (.u 5 4 (.a [9,10] (.o [11,12] .done))) (.a [9,4] (.u 5 4 (.alt 10 (.o [11,12] .done) .done)))) (.a [9,3,4] (.u 5 4 (.alt 10 (.o [11,12] .done) .done)))))),(11,[],.o [0,3] (.alt 1 (.alt 2 (.alt 4 (.a [5,6,7] (.op 8 (.d 9))) (.alt 5 (.alt 4 (.a [6,7] (.op 8 (.d 9))) (.alt 6 (.alt 4 (.alt 7 (.op 8 (.d 9)) .done) (.alt 7 (.op 8 (.a [4,9] .done)) .done)) .done)) .done)) (.alt 4 (.alt 2 (.a [5,6,7] (.op 8 (.d 9))) (.alt 5 (.alt 2 (.a [6,7] (.op 8 (.d 9))) (.a [6,2,7] (.op 8 (.d 9)))) .done)) (.alt 5 (.alt 2 (.alt 4 (.a [6,7] (.op 8 (.d 9))) (.alt 6 (.alt 4 (.alt 7 (.op 8 (.d 9)) .done) (.alt 7 (.op 8 (.a [4,9] .done)) .done)) .done)) (.alt 4 (.alt 2 (.a [6,7] (.op 8 (.d 9))) (.a [6,2,7] (.op 8 (.d 9)))) (.alt 6 (.alt 2 (.alt 4 (.alt 7 (.op 8 (.d 9)) .done) (.alt 7 (.op 8 (.a [4,9] .done)) .done)) (.a [4,2,7] (.op 8 (.d 9)))) .done))) .done))) (.alt 2 (.alt 1 (.alt 4 (.a [5,6,7] (.op 8 (.d 9))) (.alt 5 (.alt 4 (.a [6,7] (.op 8 (.d 9))) (.alt 6 (.alt 4 (.alt 7 (.op 8 (.d 9)) .done) (.alt 7 (.op 8 (.a [4,9] .done)) .done)) .done)) .done)) (.alt 4 (.alt 1 (.a [5,6,7] (.op 8 (.d 9))) (.a [5,1,6,7] (.op 8 (.d 9)))) (.alt 5 (.alt 1 (.alt 4 (.a [6,7] (.op 8 (.d 9))) (.alt 6 (.alt 4 (.alt 7 (.op 8 (.d 9)) .done) (.alt 7 (.op 8 (.a [4,9] .done)) .done)) .done)) (.a [4,1,6,7] (.op 8 (.d 9)))) .done))) (.alt 4 (.alt 1 (.alt 2 (.a [5,6,7] (.op 8 (.d 9))) (.alt 5 (.alt 2 (.a [6,7] (.op 8 (.d 9))) (.a [6,2,7] (.op 8 (.d 9)))) .done)) (.alt 2 (.alt 1 (.a [5,6,7] (.op 8 (.d 9))) (.a [5,1,6,7] (.op 8 (.d 9)))) (.alt 5 (.alt 1 (.alt 2 (.a [6,7] (.op 8 (.d 9))) (.a [6,2,7] (.op 8 (.d 9)))) (.a [2,1,6,7] (.op 8 (.d 9)))) .done))) (.alt 5 (.alt 1 (.alt 2 (.alt 4 (.a [6,7] (.op 8 (.d 9))) (.alt 6 (.alt 4 (.alt 7 (.op 8 (.d 9)) .done) (.alt 7 (.op 8 (.a [4,9] .done)) .done)) .done)) (.alt 4 (.alt 2 (.a [6,7] (.op 8 (.d 9))) (.a [6,2,7] (.op 8 (.d 9)))) (.alt 6 (.alt 2 (.alt 4 (.alt 7 (.op 8 (.d 9)) .done) (.alt 7 (.op 8 (.a [4,9] .done)) .done)) (.a [4,2,7] (.op 8 (.d 9)))) .done))) (.alt 2 (.alt 1 (.alt 4 (.a [6,7] (.op 8 (.d 9))) (.alt 6 (.alt 4 (.alt 7 (.op 8 (.d 9)) .done) (.alt 7 (.op 8 (.a [4,9] .done)) .done)) .done)) (.a [4,1,6,7] (.op 8 (.d 9)))) (.alt 4 (.alt 1 (.alt 2 (.a [6,7] (.op 8 (.d 9))) (.a [6,2,7] (.op 8 (.d 9)))) (.a [2,1,6,7] (.op 8 (.d 9)))) .done))) .done)))))]} Tryz.func29 ?_;rintro⟨a0,⟨⟩⟩ K ⟨r,h,k⟩
 change Ze4 a0=some r at h
 unfold Ze4 at h
 conv=>whnf
 refine Xu h (λ_ _ h=>?_)
 conv=>whnf
 refine Xu h (λ_ _ h=>?_)
 conv=>whnf
 refine Zx6 h (λh=>?_) (λh=>?_)
 conv=>whnf
 refine Xu h (λL _ h=>?_)
 conv=>whnf
 refine ZhT h (λh=>?_) (λh=>?_)
 focus
  iterate 2 ((conv=>whnf);refine⟨by kernel_rfl,?_⟩)
  conv=>whnf
  obtain⟨b,j,h⟩:=UE.1 h;obtain⟨ApplyEdits0,H,h⟩:=UE.1 h;refine⟨?_,?_⟩;rotate_left
  focus
   conv=>whnf
   refine⟨by kernel_rfl,?_⟩
   conv=>whnf
   refine⟨_,j,?_⟩
   conv=>whnf
   intro e
   conv=>whnf
   refine⟨_,H,?_⟩
   conv=>whnf
   intro F
   conv=>whnf
   intro f
   conv=>whnf
   intro c
   conv=>whnf
   refine⟨trivial,?_⟩
  rotate_right
  focus
   conv=>whnf
   refine⟨by kernel_rfl,?_⟩
   conv=>whnf
   refine⟨_,j,?_⟩
   conv=>whnf
   intro e
   conv=>whnf
   refine⟨?_,?_⟩;rotate_left
   focus
    conv=>whnf
    refine⟨_,H,?_⟩
    conv=>whnf
    intro F
    conv=>whnf
    intro f
    conv=>whnf
    intro c
    conv=>whnf
    refine⟨trivial,?_⟩
   rotate_right
   focus
    conv=>whnf
    refine⟨_,H,?_⟩
    conv=>whnf
    intro F
    conv=>whnf
    intro f
    conv=>whnf
    intro c
    conv=>whnf
    refine⟨trivial,?_⟩
  all_goals
   conv=>whnf
   refine Xu h (λ_ _ h=>?_)
   conv=>whnf
   refine Xu h (λl _ h=>?_)
   conv=>whnf
   refine Xu h (λPropagateTiming0 i h=>?_)
   conv=>whnf
   refine Xu h (λg _ h=>?_)
   conv=>whnf
   refine ZhT h (λh=>?_) (λh=>?_)
   conv=>whnf
   refine⟨λd=>absurd d (by decide),λ_=>?_⟩;rw[if_neg (by decide)]at h
   focus
    conv=>whnf
    refine⟨by kernel_rfl,?_⟩
    conv=>whnf
    repeat' (first|with_reducible refine ZhV ?_|((conv=>whnf);first|with_reducible refine ZhV ?_|refine⟨?_,?_⟩|fail)|fail)
    all_goals
     conv=>whnf
     cases h;exact k
   focus
    conv=>whnf
    refine⟨by kernel_rfl,?_⟩
    conv=>whnf
    repeat' (first|with_reducible refine ZhV ?_|((conv=>whnf);first|with_reducible refine ZhV ?_|refine⟨?_,?_⟩|fail)|fail)
    all_goals
     conv=>whnf
     cases h;exact k
 conv=>whnf
 refine Xu h (λl _ h=>?_)
 conv=>whnf
 refine Xu h (λPropagateTiming0 _ h=>?_)
 conv=>whnf
 refine Xu h (λg _ h=>?_)
 conv=>whnf
 refine ZhT h (λh=>?_) (λh=>?_)
 conv=>whnf
 refine ZhT h (λh=>?_) (λh=>?_)
 focus
  conv=>whnf
  refine Xu h (λPropagateTiming1 _ h=>?_)
  conv=>whnf
  refine⟨by kernel_rfl,?_⟩
  conv=>whnf
  repeat' (first|with_reducible refine ZhV ?_|((conv=>whnf);first|with_reducible refine ZhV ?_|refine⟨?_,?_⟩|fail)|fail)
  all_goals
   conv=>whnf
   cases h;exact k
 focus
  conv=>whnf
  refine⟨by kernel_rfl,?_⟩
  conv=>whnf
  repeat' (first|with_reducible refine ZhV ?_|((conv=>whnf);first|with_reducible refine ZhV ?_|refine⟨?_,?_⟩|fail)|fail)
  all_goals
   conv=>whnf
   cases h;exact k
 focus
  conv=>whnf
  refine⟨by kernel_rfl,?_⟩
  conv=>whnf
  repeat' (first|with_reducible refine ZhV ?_|((conv=>whnf);first|with_reducible refine ZhV ?_|refine⟨?_,?_⟩|fail)|fail)
  all_goals
   conv=>whnf
   cases h;exact k
 conv=>whnf
 refine Xu h (λl _ h=>?_)
 conv=>whnf
 refine Xu h (λPropagateTiming0 _ h=>?_)
 conv=>whnf
 refine Xu h (λL _ h=>?_)
 conv=>whnf
 refine ZhT h (λh=>?_) (λh=>?_)
 conv=>whnf
 refine ZhT h (λh=>?_) (λh=>?_)
 focus
  conv=>whnf
  refine Xu h (λPropagateTiming1 _ h=>?_)
  conv=>whnf
  refine⟨by kernel_rfl,?_⟩
  conv=>whnf
  repeat' (first|with_reducible refine ZhV ?_|((conv=>whnf);first|with_reducible refine ZhV ?_|refine⟨?_,?_⟩|fail)|fail)
  all_goals
   conv=>whnf
   cases h;exact k
 focus
  conv=>whnf
  refine⟨by kernel_rfl,?_⟩
  conv=>whnf
  repeat' (first|with_reducible refine ZhV ?_|((conv=>whnf);first|with_reducible refine ZhV ?_|refine⟨?_,?_⟩|fail)|fail)
  all_goals
   conv=>whnf
   cases h;exact k
 focus
  conv=>whnf
  refine⟨by kernel_rfl,?_⟩
  conv=>whnf
  repeat' (first|with_reducible refine ZhV ?_|((conv=>whnf);first|with_reducible refine ZhV ?_|refine⟨?_,?_⟩|fail)|fail)
  all_goals
   conv=>whnf
   cases h;exact k
end Go.Proofs.YtcjminfjgckdlaaGreatDoor
