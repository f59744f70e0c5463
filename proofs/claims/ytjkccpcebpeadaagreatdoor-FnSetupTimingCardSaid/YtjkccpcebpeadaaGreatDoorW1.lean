/-
  The functions keep their contracts, if what they call does. Printed by program.
-/
import Derived.Test.YtjkccpcebpeadaaGreatDoorM
import Derived.KernelRfl
namespace Go.Proofs.YtjkccpcebpeadaaGreatDoor
open Go Go.Sx
set_option maxRecDepth 100000
set_option maxHeartbeats 100000000
set_option linter.unusedVariables false
set_option linter.unusedSimpArgs false
structure Ws1:Prop where
 w84:Sq 156 c83->Sq 75 c84
 w89:Sq 77 c88->Sq 160 c89
 w50:Sq 342 c50
 w54:Sq 312 c53->Sq 46 c29->Sq 329 c54
 w93:Sq 46 c29->Sq 264 c93
 w159:Sq 288 c159
 w75:Sq 153 c75
 w66:Sq 219 c65->Sq 205 c34->Sq 148 c66
 w103:Sq 178 ZDJ->Sq 91 ZzV
 w248:Sq 30 c82->Sq 37 c79->Sq 36 c97->Sq 13 ZES
 w170:Sq 22 ZEd->Sq 7 ZEe
 w146:Sq 239 c145->Sq 174 c146
 w145:Sq 239 c145
 w80:Sq 46 c29->Sq 154 c80
 w35:Sq 46 c29->Sq 308 c31->Sq 205 c34->Sq 271 c35
 w105:Sq 91 ZzV->Sq 238 ZDK->Sq 170 c105
 w167:Sq 67 ZC8->Sq 174 c146->Sq 175 ZD6->Sq 176 ZEb->Sq 177 ZEc->Sq 90 c167
 w120:Sq 110 c119->Sq 81 ZDR
 w136:Sq 82 ZD1->Sq 81 ZD2
 w126:Sq 49 ZBX->Sq 79 ZDV
 w129:Sq 226 ZDX
 w132:Sq 109 Zzq->Sq 161 ZDW->Sq 163 c131->Sq 80 ZDY
 w168:Sq 89 ZD4->Sq 90 c167->Sq 91 ZzV->Sq 34 c168
 w128:Sq 109 Zzq->Sq 162 c127->Sq 157 c85->Sq 161 ZDW
 w149:Sq 81 c148->Sq 175 ZD6
 w147:Sq 240 ZD5
 w95:Sq 46 c29->Sq 264 c93->Sq 69 c94->Sq 204 c95
 w42:Sq 172 c42
 w104:Sq 46 c29->Sq 238 ZDK
 w102:Sq 46 c29->Sq 178 ZDJ
 w68:Sq 220 c68
 w97:Sq 36 c97
 w69:Sq 223 c69
 w142:Sq 143 c141->Sq 67 ZC8
 w244:Sq 30 c82->Sq 85 ZC5->Sq 31 c91->Sq 86 ZEJ->Sq 87 ZEL->Sq 88 ZEN->Sq 48 c138->Sq 49 ZBX->Sq 33 ZEO
 w151:Sq 286 ZC9
 w241:Sq 171 ZEK->Sq 155 c41->Sq 172 c42->Sq 87 ZEL
 w242:Sq 109 Zzq->Sq 46 c29->Sq 173 ZEM
 w109:Sq 141 ZDM->Sq 140 c109
 w239:Sq 109 Zzq->Sq 168 ZEH->Sq 169 ZEI->Sq 91 ZzV->Sq 170 c105->Sq 86 ZEJ
 w165:Sq 241 ZD9->Sq 242 ZBY->Sq 243 c164->Sq 176 ZEb
 w156:Sq 293 ZD8->Sq 248 c156
 w0:Sq 5 c0
 w155:Sq 233 ZD7->Sq 321 c154->Sq 293 ZD8
 w85:Sq 157 c85
 w101:Sq 206 ZDH->Sq 135 ZDI
 w48:Sq 348 c47->Sq 337 c48
 w40:Sq 274 c39->Sq 221 c40
 w33:Sq 306 c32->Sq 265 c33
 w57:Sq 311 c56->Sq 330 c57
 w51:Sq 342 c50->Sq 341 c51
 w72:Sq 222 c71->Sq 274 c72
 w32:Sq 306 c32
 w45:Sq 340 c45
 w182:Sq 195 ZEk->Sq 196 ZEl->Sq 197 ZEm->Sq 113 c182
 w189:Sq 50 ZBF->Sq 119 ZEp->Sq 24 c21->Sq 54 ZEq
 w173:Sq 350 ZEf->Sq 24 c21->Sq 347 c173
 w183:Sq 24 c21->Sq 114 c183
 w21:Sq 24 c21
 w172:Sq 24 c21->Sq 350 ZEf
 w176:Sq 24 c21->Sq 323 c175->Sq 299 ZEh
 w7:Sq 21 c2->Sq 322 c6->Sq 297 c7
 w215:Sq 336 ZEA
 w196:Sq 53 c13->Sq 126 c196
 w193:Sq 53 c13->Sq 125 c193
 w14:Sq 53 c13->Sq 115 c14
 w222:Sq 324 ZDe->Sq 325 c222
 w17:Sq 21 c2->Sq 259 c15->Sq 260 c16->Sq 192 c17
 w216:Sq 260 c16->Sq 53 c13->Sq 115 c14->Sq 336 ZEA->Sq 324 ZDe
 w195:Sq 127 c194->Sq 124 ZEt
 w198:Sq 62 c198
 w211:Sq 201 ZEy
 w204:Sq 57 ZBG->Sq 59 ZBZ->Sq 60 ZBH->Sq 61 c203->Sq 62 c198->Sq 26 ZEv
 w202:Sq 132 ZEu
 w217:Sq 53 c13->Sq 324 ZDe->Sq 301 ZDf
 w225:Sq 301 ZDf->Sq 187 ZDg->Sq 303 ZDh->Sq 302 ZEB->Sq 304 ZEC->Sq 255 ZBI->Sq 262 ZED
 w231:Sq 202 c229->Sq 203 ZEE->Sq 129 ZEF
 w190:Sq 120 ZDc
 w229:Sq 262 ZED->Sq 263 c228->Sq 202 c229
 w22:Sq 198 c20->Sq 24 c21->Sq 116 c22
 w23:Sq 24 c21->Sq 117 c23
 w186:Sq 118 ZDb->Sq 52 ZEn
 w27:Sq 45 c26->Sq 21 c2->Sq 20 c27
 w205:Sq 64 ZEw
 w206:Sq 63 c24->Sq 64 ZEw->Sq 27 c206
set_option maxHeartbeats 100000000 in
theorem ws1:Ws1:=by
 refine ⟨(λq=>Hw Zy (Zb q Zl) {loops:=[(0,[.reg 7 (.own (.ol 143 (.flat (Zaj)))),.reg 21 (.dat Iq)]),(2,[.reg 7 (.own (.ol 143 (.flat (Zaj)))),.reg 29 (.dat Iq)])]} Tryz.func75 ?_),
 (λq=>Hw Zy (Zb q Zl) {loops:=[(0,[.reg 8 (.dat Iq),.ent 3 (nat_lit 2) (.flat Zza.ety)])],draws:=[(1,[],.u 0 7 (.alt 7 (.a [8,9] (.op 10 .done)) (.a [8,7,9] (.op 10 .done)))),(6,[],.u 0 22 (.d 22))]} Tryz.func160 ?_),
 (Hw Zy Zl {} Tryz.func342 ?_),
 (λq Q=>Hw Zy (Zb q (Zb Q Zl)) {} Tryz.func329 ?_),
 (λq=>Hw Zy (Zb q Zl) {} Tryz.func264 ?_),
 (Hw Zy Zl {} Tryz.func288 ?_),
 (Hw Zy Zl {} Tryz.func153 ?_),
 (λQ q=>Hw Zy (Zb Q (Zb q Zl)) {loops:=[(0,[.reg 3 (.own (.ol 9 (.flat (.str)))),.reg 9 (.dat Iq)])]} Tryz.func148 ?_),
 (λq=>Hw Zy (Zb q Zl) {} Tryz.func91 ?_),
 (λb Q q=>Hw Zy (Zb b (Zb Q (Zb q Zl))) {} Tryz.func13 ?_),
 (λq=>Hw Zy (Zb q Zl) {} Tryz.func7 ?_),
 (λq=>Hw Zy (Zb q Zl) {draws:=[(2,[],.o [0,1,2,5] (.alt 3 (.alt 4 (.alt 6 (.o [7,8] (.alt 9 (.o [10,11] (.d 12)) .done)) .done) (.alt 6 (.o [7,8] (.alt 4 (.alt 9 (.o [10,11] (.d 12)) .done) (.a [9,4] (.o [10,11] (.d 12))))) .done)) (.alt 4 (.alt 3 (.alt 6 (.o [7,8] (.alt 9 (.o [10,11] (.d 12)) .done)) .done) (.a [6,3] (.o [7,8] (.alt 9 (.o [10,11] (.d 12)) .done)))) (.alt 6 (.alt 3 (.o [7,8] (.alt 4 (.alt 9 (.o [10,11] (.d 12)) .done) (.a [9,4] (.o [10,11] (.d 12))))) (.a [4,3] (.o [7,8] (.alt 9 (.o [10,11] (.d 12)) .done)))) .done)))),(3,[],.u 0 7 (.u 8 5 (.a [7,13] (.o [14,15] (.alt 16 (.o [17,18] (.d 19)) .done)))))]} Tryz.func174 ?_),
 (Hw Zy Zl {} Tryz.func239 ?_),
 (λq=>Hw Zy (Zb q Zl) {loops:=[(0,[.reg 8 (.dat Iq)])]} Tryz.func154 ?_),
 (λb q Q=>Hw Zy (Zb b (Zb q (Zb Q Zl))) {loops:=[(0,[.reg 3 (.own (.ol 9 (.flat (.str)))),.reg 8 (.dat Iq)])]} Tryz.func271 ?_),
 (λq Q=>Hw Zy (Zb q (Zb Q Zl)) {} Tryz.func170 ?_),
 (λc q f Q b=>Hw Zy (Zb c (Zb q (Zb f (Zb Q (Zb b Zl))))) {loops:=[(0,[.reg 39 (.dat Iq),.cell 1012 0 Iq,.cell 1012 1 Iq,.cell 1012 2 Iq,.cell 1012 3 Iq,.cell 1012 4 Iq,.cell 1013 0 (.bool)])],draws:=[(11,[],.u 0 11 (.alt 11 (.o [12,13,14] (.alt 15 (.a [16,17,18] .done) (.a [16,15,17,18] .done))) (.alt 15 (.alt 11 (.o [12,13,14] (.a [16,17,18] .done)) (.a [16,11] (.o [12,13,14] (.a [17,18] .done)))) (.alt 16 (.alt 11 (.o [12,13,14] (.a [15,17,18] .done)) (.a [15,11] (.o [12,13,14] (.a [17,18] .done)))) .done)))),(12,[],.u 0 6 (.op 7 (.a [6,8] .done))),(16,[],.o [0,1] (.d 2))]} Tryz.func90 ?_),
 (λq=>Hw Zy (Zb q Zl) {loops:=[(0,[.reg 5 (.own (.ol 2 (.flat Iq))),.reg 16 (.dat Iq)])]} Tryz.func81 ?_),
 (λq=>Hw Zy (Zb q Zl) {loops:=[(0,[.reg 5 (.own (.ol 2 (.flat Iq))),.reg 16 (.dat Iq)])]} Tryz.func81 ?_),
 (λq=>Hw Zy (Zb q Zl) {} Tryz.func79 ?_),
 (Hw Zy Zl {} Tryz.func226 ?_),
 (λb q Q=>Hw Zcl (Zb b (Zb q (Zb Q Zl))) {loops:=[(0,[.reg 4 (.own (.ol 43 (.ol 4 (.flat (.bool))))),.reg 19 (.dat Iq)]),(2,[.reg 7 (.own (.ol 52 (.ol 2 (.flat Iq)))),.reg 33 (.dat Iq),.ent 0 (nat_lit 43) (Dp.ol (4:Go.TypeId) (Dp.flat Ty.bool)),.ent 1 (nat_lit 4) (.flat Zs7.ety)]),(4,[.reg 9 (.own (.ol 2 (.flat Iq))),.reg 41 (.dat Iq),.ent 0 (nat_lit 43) (Dp.ol (4:Go.TypeId) (Dp.flat Ty.bool))]),(6,[.reg 76 (.dat Iq),.ent 1 (nat_lit 4) (.flat Zs7.ety)])]} Tryz.func80 ?_),
 (λQ q b=>Hw Zy (Zb Q (Zb q (Zb b Zl))) {loops:=[(0,[.reg 22 (.dat Iq),.cello 1008 0 (.ol 4 (.flat (.bool))),.cello 1008 1 (.ol 120 (.flat (Zag))),.cello 1008 2 (.ol 120 (.flat (Zag))),.ent 2 (nat_lit 4) (.flat Ty.bool),.ent 3 (nat_lit 120) (.flat Zag),.ent 4 (nat_lit 120) (.flat Zag)])],draws:=[(8,[],.u 0 4 (.o [5,6,8,9,10,12,14] (.l [4,7,11,13] (.alt 15 (.op 16 (.alt 17 (.op 18 (.d 19)) .done)) .done))))]} Tryz.func34 ?_),
 (λQ b q=>Hw ZAU (Zb Q (Zb b (Zb q Zl))) {loops:=[(0,[.reg 29 (.dat Iq),.ent 0 (nat_lit 52) (Dp.ol (2:Go.TypeId) (Dp.flat (Ty.int IntKind.i64)))]),(2,[.reg 13 (.own (.ol 2 (.flat Iq))),.ent 0 (nat_lit 52) (Dp.ol (2:Go.TypeId) (Dp.flat (Ty.int IntKind.i64))),.ent 1 (nat_lit 4) (.flat ZCQ.ety)])]} Tryz.func161 ?_),
 (λq=>Hw Zy (Zb q Zl) {} Tryz.func175 ?_),
 (Hw Zy Zl {} Tryz.func240 ?_),
 (λQ q b=>Hw Zy (Zb Q (Zb q (Zb b Zl))) {} Tryz.func204 ?_),
 (Hw Zy Zl {loops:=[(0,[.reg 3 (.dat Iq)])],draws:=[(4,[],.u 0 10 .done)]} Tryz.func172 ?_),
 (λq=>Hw Zy (Zb q Zl) {} Tryz.func238 ?_),
 (λq=>Hw Zy (Zb q Zl) {} Tryz.func178 ?_),
 (Hw Zy Zl {} Tryz.func220 ?_),
 (Hw Zy Zl {} Tryz.func36 ?_),
 (Hw Zy Zl {} Tryz.func223 ?_),
 (λq=>Hw Zy (Zb q Zl) {} Tryz.func67 ?_),
 (λm j p Q b q c f=>Hw Zy (Zb m (Zb j (Zb p (Zb Q (Zb b (Zb q (Zb c (Zb f Zl)))))))) {} Tryz.func33 ?_),
 (Hw Zy Zl {draws:=[(1,[],.u 0 18 (.a [18,19] .done)),(2,[],.u 0 15 (.d 15))]} Tryz.func286 ?_),
 (λq b Q=>Hw Zy (Zb q (Zb b (Zb Q Zl))) {} Tryz.func87 ?_),
 (λq Q=>Hw Zy (Zb q (Zb Q Zl)) {} Tryz.func173 ?_),
 (λq=>Hw Zy (Zb q Zl) {} Tryz.func140 ?_),
 (λb Q q f c=>Hw Zy (Zb b (Zb Q (Zb q (Zb f (Zb c Zl))))) {loops:=[(0,[.reg 32 (.dat Iq)])]} Tryz.func86 ?_),
 (λq Q b=>Hw Zy (Zb q (Zb Q (Zb b Zl))) {draws:=[(1,[],.u 0 6 .done),(2,[],.u 0 4 (.u 5 4 (.u 11 4 (.u 16 4 (.alt 4 (.alt 9 (.op 10 (.alt 15 (.alt 20 (.o [21,22] (.a [23,24] .done)) (.a [23,20] (.o [21,22] (.d 24)))) (.a [23,15,20] (.o [21,22] (.d 24))))) (.a [23,9] (.op 10 (.a [15,20] (.o [21,22] (.d 24)))))) (.a [23,4,9] (.op 10 (.a [15,20] (.o [21,22] (.d 24)))))))))),(5,[],.u 0 6 (.alt 6 (.o [7,8,9] .done) .done)),(8,[],.op 0 (.alt 1 (.a [2,3] .done) (.a [2,1,3] .done)))]} Tryz.func176 ?_),
 (λq=>Hw Zy (Zb q Zl) {draws:=[(1,[],.u 0 13 .done),(5,[],.u 0 18 (.u 19 10 (.alt 18 (.o [29,30] .done) .done)))]} Tryz.func248 ?_),
 (Hw Zy Zl {} Tryz.func5 ?_),
 (λQ q=>Hw Zy (Zb Q (Zb q Zl)) {loops:=[(0,[.reg 7 (.dat Iq),.reg 8 (.dat Iq)])]} Tryz.func293 ?_),
 (Hw Zy Zl {} Tryz.func157 ?_),
 (λq=>Hw Zy (Zb q Zl) {} Tryz.func135 ?_),
 (λq=>Hw Zy (Zb q Zl) {} Tryz.func337 ?_),
 (λq=>Hw Zy (Zb q Zl) {} Tryz.func221 ?_),
 (λq=>Hw Zy (Zb q Zl) {} Tryz.func265 ?_),
 (λq=>Hw Zy (Zb q Zl) {loops:=[(0,[.reg 8 (.dat Iq)])]} Tryz.func330 ?_),
 (λq=>Hw Zy (Zb q Zl) {loops:=[(0,[.reg 8 (.dat Iq)])]} Tryz.func341 ?_),
 (λq=>Hw Zy (Zb q Zl) {loops:=[(0,[.reg 8 (.dat Iq)])]} Tryz.func274 ?_),
 (Hw Zy Zl {loops:=[(0,[.reg 8 (.dat Iq)])]} Tryz.func306 ?_),
 (Hw Zy Zl {loops:=[(0,[.reg 3 (.dat Iq),.reg 4 (.dat Iq)])]} Tryz.func340 ?_),
 (λq Q b=>Hw Zy (Zb q (Zb Q (Zb b Zl))) {loops:=[(0,[.reg 5 (.own (.ol 9 (.flat (.str)))),.reg 6 (.dat Iq)]),(2,[.reg 7 (.own (.ol 9 (.flat (.str)))),.reg 8 (.dat Iq)]),(4,[.reg 10 (.dat Iq),.ent 6 (nat_lit 2) (.flat Zza.ety)]),(6,[.reg 12 (.dat Iq),.ent 6 (nat_lit 2) (.flat Zza.ety)]),(8,[.reg 13 (.dat Iq)])]} Tryz.func113 ?_),
 (λQ q b=>Hw Zy (Zb Q (Zb q (Zb b Zl))) {} Tryz.func54 ?_),
 (λq Q=>Hw Zy (Zb q (Zb Q Zl)) {loops:=[(0,[.reg 3 (.dat Iq)])]} Tryz.func347 ?_),
 (λq=>Hw Zy (Zb q Zl) {loops:=[(0,[.reg 6 (.dat Iq)]),(2,[.reg 7 (.dat Iq)])]} Tryz.func114 ?_),
 (Hw Zy Zl {} Tryz.func24 ?_),
 (λq=>Hw Zy (Zb q Zl) {loops:=[(0,[.reg 3 (.dat Iq)])],draws:=[(4,[],.u 0 4 (.alt 4 (.u 5 17 .done) .done))]} Tryz.func350 ?_),
 (λQ q=>Hw Zy (Zb Q (Zb q Zl)) {} Tryz.func299 ?_),
 (λQ q=>Hw Zcl (Zb Q (Zb q Zl)) {} Tryz.func297 ?_),
 (Hw Zy Zl {draws:=[(3,[],.u 0 18 .done)]} Tryz.func336 ?_),
 (λq=>Hw Zy (Zb q Zl) {loops:=[(0,[.reg 6 (.dat Iq)])]} Tryz.func126 ?_),
 (λq=>Hw Zy (Zb q Zl) {loops:=[(0,[.reg 8 (.dat Iq)])]} Tryz.func125 ?_),
 (λq=>Hw Zy (Zb q Zl) {loops:=[(0,[.reg 5 (.own (.ol 2 (.flat Iq))),.reg 7 (.dat Iq)])]} Tryz.func115 ?_),
 (λq=>Hw Zy (Zb q Zl) {loops:=[(0,[.reg 7 (.own (.ol 2 (.flat Iq))),.reg 8 (.dat Iq)])],draws:=[(7,[],.u 0 20 (.a [20,21] (.op 22 .done)))]} Tryz.func325 ?_),
 (λQ q b=>Hw Zy (Zb Q (Zb q (Zb b Zl))) {loops:=[(0,[.reg 6 (.dat Iq),.cell 1000 0 (.sl (.int .u8)),.cell 1000 1 Iq,.cell 1000 2 Iq,.cello 1005 0 (.ol (nat_lit 2) (.flat (Ty.int IntKind.i64))),.cello 1005 1 (.ol (nat_lit 2) (.flat (Ty.int IntKind.i64))),.cello 1005 2 (.ol (nat_lit 2) (.flat (Ty.int IntKind.i64))),.cello 1005 3 (.ol (nat_lit 2) (.flat (Ty.int IntKind.i64)))]),(2,[.reg 8 (.dat Iq),.cell 1000 0 (.sl (.int .u8)),.cell 1000 1 Iq,.cell 1000 2 Iq,.ent 10 (nat_lit 2) (.flat (Ty.int IntKind.i64))])],draws:=[(6,[],.o [0,1,3,4,8,11,15,18,22] (.l [9,16,23] (.a [2,5,6,7,10,12,13,14,17,19,20,21] (.op 24 (.d 25))))),(10,[],.op 0 (.u 2 5 (.ld 1 (.alt 7 (.op 8 (.d 9)) .done))))]} Tryz.func192 ?_),
 (λb q Q c=>Hw Zy (Zb b (Zb q (Zb Q (Zb c Zl)))) {loops:=[(0,[.reg 9 (.dat Iq),.ent 2 (nat_lit 2) (.flat (Ty.int IntKind.i64))]),(2,[.reg 10 (.dat Iq),.ent 2 (nat_lit 2) (.flat (Ty.int IntKind.i64))])],draws:=[(8,[],.u 0 19 (.alt 19 (.o [20,21] (.d 22)) .done)),(12,[],.u 0 14 (.d 14))]} Tryz.func324 ?_),
 (λq=>Hw Zcl (Zb q Zl) {loops:=[(0,[.reg 0 (.own (.ol 143 (.flat (Zaj)))),.reg 11 (.dat Iq)]),(2,[.reg 0 (.own (.ol 143 (.flat (Zaj)))),.reg 12 (.dat Iq)])]} Tryz.func124 ?_),
 (Hw Zy Zl {loops:=[(0,[.reg 5 (.dat Iq)])]} Tryz.func62 ?_),
 (Hw Zy Zl {loops:=[(0,[.reg 8 (.own (.ol 2 (.flat Iq))),.ent 1 (nat_lit 4) (.flat Zs7.ety)]),(2,[.reg 11 (.dat Iq),.ent 3 (nat_lit 4) (.flat Zs7.ety)]),(4,[.reg 12 (.dat Iq)])]} Tryz.func201 ?_),
 (λq c Q b f=>Hw Zy (Zb q (Zb c (Zb Q (Zb b (Zb f Zl))))) {loops:=[(0,[.ent 3 (nat_lit 4) (.flat Ty.bool)]),(4,[.reg 9 (.own (.ol 2 (.flat Iq))),.reg 10 (.dat Iq)]),(2,[.reg 7 (.dat Iq),.reg 8 (.dat Iq),.ent 4 (nat_lit 52) (Dp.ol (2:Go.TypeId) (Dp.flat (Ty.int IntKind.i64)))])],draws:=[(10,[],.u 0 21 (.alt 21 (.u 22 10 (.alt 32 (.op 33 .done) .done)) .done))]} Tryz.func26 ?_),
 (Hw Zy Zl {loops:=[(0,[.reg 7 (.dat Iq)])]} Tryz.func132 ?_),
 (λq Q=>Hw Zy (Zb q (Zb Q Zl)) {draws:=[(1,[],.o [0,1,3,4,5] (.alt 2 (.o [6,7] (.a [8,9] .done)) (.a [8,2] (.o [6,7] (.d 9))))),(2,[],.u 0 21 (.alt 21 (.op 22 (.alt 23 (.alt 24 (.op 25 .done) .done) (.a [24,23] (.op 25 .done)))) .done))]} Tryz.func301 ?_),
 (λc b f q Q j=>Hw Zy (Zb c (Zb b (Zb f (Zb q (Zb Q (Zb j Zl)))))) {draws:=[(5,[],.o [0,1,2,4,6,7] (.a [3,5] (.o [8,9,10] .done)))]} Tryz.func262 ?_),
 (λq Q=>Hw Zy (Zb q (Zb Q Zl)) {loops:=[(0,[.reg 16 (.dat (.bool)),.reg 18 (.dat Iq),.cell 1017 0 Iq,.cell 1017 1 Iq,.cell 1017 2 Iq,.cell 1017 3 Iq,.cell 1017 4 Iq]),(2,[.reg 16 (.dat (.bool)),.reg 19 (.dat Iq),.cell 1017 0 Iq,.cell 1017 1 Iq,.cell 1017 2 Iq,.cell 1017 3 Iq,.cell 1017 4 Iq])],draws:=[(14,[],.u 0 9 (.alt 9 (.o [10,11,12] (.alt 13 (.a [14,15,16] .done) (.a [14,13,15,16] .done))) (.alt 13 (.alt 9 (.o [10,11,12] (.a [14,15,16] .done)) (.a [14,9] (.o [10,11,12] (.a [15,16] .done)))) (.alt 14 (.alt 9 (.o [10,11,12] (.a [13,15,16] .done)) (.a [13,9] (.o [10,11,12] (.a [15,16] .done)))) .done)))),(15,[],.u 0 21 (.a [21,22] .done)),(21,[],.o [0,1,2] (.d 3))]} Tryz.func129 ?_),
 (Hw Zy Zl {} Tryz.func120 ?_),
 (λq Q=>Hw Zy (Zb q (Zb Q Zl)) {draws:=[(1,[],.u 0 5 (.u 6 5 (.alt 5 (.alt 11 (.op 12 (.a [13,14] .done)) (.a [13,11] (.op 12 (.d 14)))) (.a [13,5,11] (.op 12 (.d 14)))))),(2,[],.u 0 4 (.u 5 4 (.alt 4 (.alt 9 (.op 10 (.a [11,12] .done)) (.a [11,9] (.op 10 (.d 12)))) (.a [11,4,9] (.op 10 (.d 12)))))),(3,[],.u 0 7 (.alt 7 (.o [8,9] (.d 10)) .done)),(4,[],.u 0 7 (.alt 7 (.o [8,9] (.d 10)) .done)),(5,[],.u 0 6 (.alt 6 (.o [7,8] (.d 9)) .done)),(6,[],.u 0 6 (.alt 6 (.o [7,8] (.d 9)) .done)),(7,[],.op 0 (.alt 1 (.a [2,3] .done) (.a [2,1,3] .done)))]} Tryz.func202 ?_),
 (λq Q=>Hw Zy (Zb q (Zb Q Zl)) {} Tryz.func116 ?_),
 (λq=>Hw Zy (Zb q Zl) {} Tryz.func117 ?_),
 (λq=>Hw Zy (Zb q Zl) {loops:=[(0,[.reg 3 (.dat Iq)]),(2,[.reg 4 (.dat Iq)])],draws:=[(9,[],.u 0 11 .done)]} Tryz.func52 ?_),
 (λq Q=>Hw Zcl (Zb q (Zb Q Zl)) {draws:=[(4,[],.o [0,3] (.ld 1 (.alt 2 (.alt 4 (.u 5 4 (.d 9)) .done) (.a [4,2] (.u 5 4 (.d 9)))))),(7,[],.o [0,3] (.ld 1 (.alt 2 (.alt 4 (.u 5 4 (.d 9)) .done) (.a [4,2] (.u 5 4 (.d 9)))))),(10,[],.u 0 12 (.d 12)),(15,[],.u 0 6 (.a [6,7] (.op 8 (.d 9)))),(20,[],.u 0 6 (.a [6,7] (.op 8 (.d 9)))),(23,[],.op 0 (.alt 1 (.a [2,3] .done) (.a [2,1,3] .done)))]} Tryz.func20 ?_),
 (Hw Zy Zl {loops:=[(0,[.reg 7 (.dat Iq)])],draws:=[(2,[],.u 0 14 .done),(4,[],.u 0 14 .done),(6,[],.o [0,1,3,4] (.alt 2 (.a [5,6] (.op 7 .done)) (.a [5,2,6] (.op 7 .done))))]} Tryz.func64 ?_),
 (λQ q=>Hw Zy (Zb Q (Zb q Zl)) {loops:=[(0,[.reg 3 (.dat (.sl (Xv))),.reg 4 (.dat Iq)]),(2,[.reg 3 (.dat (.sl (Xv))),.reg 9 (.dat Iq)])]} Tryz.func27 ?_)⟩
 all_goals
  intro a;repeat rcases a with⟨_,a⟩
  rintro K ⟨r,h,k⟩;repeat'
    conv=>whnf
    first
    |with_reducible refine Zz8 ?_
    |with_reducible refine Zlc (by assumption) (by assumption) (by assumption) ?_
    |with_reducible refine ZoA (by assumption) ?_
    |with_reducible refine Zlh (by assumption) ?_
    |(with_reducible refine shD ?_);first|refine Zsh h (λh=>?_) (λh=>?_)|refine ZBz h (λh=>?_) (λh=>?_)
    |(with_reducible refine ZAM ?_);first|refine ZCX ?_|refine ZxK ?_
    |(with_reducible refine ZE8 ?_);first|refine ZxI h (λh=>?_) (λh=>?_)|refine ZBy h (λh=>?_) (λh=>?_)
    |(with_reducible refine ZAL ?_);(refine⟨λL=>?_,?_⟩)<;>try subst L
    |(with_reducible refine ZFa ?_);first|with_reducible refine Ziu h (λx H h=>?_)|refine Zlh (by assumption) ?_|with_reducible refine pG h (λg h=>?_)|with_reducible refine pA h (λx n H i h=>?_)|with_reducible refine pB h (λx H h=>?_)|refine Ziu h (λx H h=>?_)
    |(with_reducible refine ZE7 ?_);first|with_reducible refine vAt h (λx n H i h=>?_)|refine Zlc (by assumption) (by assumption) (by assumption) ?_|with_reducible refine pG h (λg h=>?_)|with_reducible refine pA h (λx n H i h=>?_)|with_reducible refine pB h (λx H h=>?_)|refine vAt h (λx n H i h=>?_)
    |(with_reducible refine ZAK ?_);first|with_reducible refine Zvi h (λx H h=>?_)|refine ZoA (by assumption) ?_|with_reducible refine pG h (λg h=>?_)|with_reducible refine pA h (λx n H i h=>?_)|with_reducible refine pB h (λx H h=>?_)|refine Zvi h (λx H h=>?_)
    |with_reducible refine ZE9 ?_
    |(with_reducible refine Zxm ?_);refine ZxJ h k ?_;clear h k;intro I μ v r h k;(repeat rcases v with⟨_,v⟩);(try dsimp only at h)
    |with_reducible refine⟨by assumption,?_⟩
    |with_reducible refine orL ?_
    |with_reducible refine .inr ?_
    |(with_reducible refine ZAN ?_);first|refine⟨?_,True.intro⟩|refine⟨?_,?_⟩
    |refine⟨by kernel_rfl,?_⟩
    |refine⟨by decide,?_⟩
    |with_reducible refine ZBA h (λg h=>?_)
    |intro F
    |exact trivial
    |with_reducible exact Zz5 h
    |(refine pS h (λe=>?_));subst e;(repeat (first|exact k|exact⟨⟨rfl,rfl⟩,k.1 _ rfl⟩|(refine pR k (λe k=>?_));subst e));done
    |refine ZBA h (λg h=>?_)
    |refine⟨by assumption,?_⟩
    |with_reducible refine pG h (λg h=>?_)|with_reducible refine pA h (λx n H i h=>?_)|with_reducible refine pB h (λx H h=>?_)
    |refine pG h (λg h=>?_)
    |fail
theorem Zo6 (R:(List Zf)->Int->Option ZcF) (c:Sq 69 (Ze6 R)):Sq 69 (Ze6 (Zbf R)):=by
 refine Hw Zy (Zb c Zl) {} Tryz.func69 ?_;rintro⟨l,k0,⟨⟩⟩ K ⟨r,h,k⟩
 change Zbf R l k0=some r at h
 unfold Zbf at h
 conv=>whnf
 refine vAt h (λX a b x h=>?_)
 conv=>whnf
 refine Zsh h (λh=>?_) (λh=>?_)
 conv=>whnf
 cases h;exact k
 conv=>whnf
 refine Ziu h (λd H h=>?_)
 conv=>whnf
 refine Zsh h (λh=>?_) (λh=>?_)
 conv=>whnf
 refine⟨by decide,?_⟩
 conv=>whnf
 refine ZxI h (λh=>?_) (λh=>?_)
 conv=>whnf
 cases h;exact k
 conv=>whnf
 cases h;exact k
 conv=>whnf
 refine ZxI h (λh=>?_) (λh=>?_)
 conv=>whnf
 cases h;exact k
 conv=>whnf
 cases h;exact k
theorem w94:Sq 69 c94:=by
 have X:∀n,Sq 69 (Ze6 (ZaZ n)):=by
  intro n;induction n with
  |zero =>
  refine Hw Zy Zl {} Tryz.func69 ?_;rintro⟨l,k0,⟨⟩⟩ K ⟨r,h,k⟩;cases h
  |succ n I=>exact Zo6 _ I
 refine⟨(X 0).1,?_⟩;rintro w S vs ⟨l,k0,⟨⟩⟩ f K d H g i ⟨r,h,k⟩;obtain⟨n,F⟩:=Zn9 h;exact(X n).2 w S vs _ f K d H g i ⟨r,F,k⟩
end Go.Proofs.YtjkccpcebpeadaaGreatDoor
