/-
  The functions keep their contracts, if what they call does. Printed by program.
-/
import Derived.Test.YtjkccpcebpeadaaGreatDoorM
import Derived.KernelRfl
namespace Go.Proofs.YtjkccpcebpeadaaGreatDoor
open Go Go.Sx
set_option maxRecDepth 100000
set_option maxHeartbeats 100000000
set_option linter.unusedVariables false
set_option linter.unusedSimpArgs false
structure Ws3:Prop where
 w90:Sq 160 c89->Sq 78 c90
 w59:Sq 309 c55->Sq 310 c58->Sq 272 c59
 w55:Sq 179 c36->Sq 327 c49->Sq 328 c52->Sq 329 c54->Sq 312 c53->Sq 46 c29->Sq 309 c55
 w54:Sq 312 c53->Sq 46 c29->Sq 329 c54
 w64:Sq 312 c53->Sq 155 c41->Sq 292 c63->Sq 273 c64
 w53:Sq 308 c31->Sq 312 c53
 w159:Sq 288 c159
 w74:Sq 220 c68->Sq 46 c29->Sq 221 c73->Sq 150 c74
 w70:Sq 223 c69->Sq 46 c29->Sq 151 c70
 w185:Sq 37 c79->Sq 290 ZBF->Sq 244 ZDb
 w183:Sq 291 c183
 w86:Sq 37 c79->Sq 158 c86
 w78:Sq 148 c66->Sq 149 c67->Sq 150 c74->Sq 151 c70->Sq 152 c77->Sq 73 c78
 w103:Sq 178 ZDJ->Sq 91 ZzV
 w44:Sq 349 c43->Sq 155 c41->Sq 339 c44
 w81:Sq 76 c37->Sq 46 c29->Sq 154 c80->Sq 155 c41->Sq 74 c81
 w166:Sq 177 ZEc
 w112:Sq 167 ZDP
 w38:Sq 46 c29->Sq 225 c38
 w170:Sq 134 c96->Sq 133 c92->Sq 155 c41->Sq 100 ZEe
 w139:Sq 69 c94->Sq 68 c139
 w179:Sq 104 ZEj->Sq 42 ZEk
 w173:Sq 188 c173
 w167:Sq 67 ZC8->Sq 174 c146->Sq 175 ZD6->Sq 176 ZEb->Sq 177 ZEc->Sq 90 c167
 w136:Sq 82 ZD1->Sq 81 ZD2
 w128:Sq 109 Zzq->Sq 162 c127->Sq 157 c85->Sq 161 ZDW
 w147:Sq 240 ZD5
 w174:Sq 69 c94->Sq 188 c173->Sq 103 ZEg
 w42:Sq 172 c42
 w107:Sq 46 c29->Sq 208 c107
 w189:Sq 247 ZEq
 w188:Sq 246 ZEp
 w97:Sq 36 c97
 w176:Sq 256 ZEh
 w172:Sq 102 ZEf
 w161:Sq 242 ZBY->Sq 286 ZC9->Sq 182 ZDa->Sq 249 c157->Sq 288 c159->Sq 287 c160->Sq 241 ZD9
 w109:Sq 141 ZDM->Sq 140 c109
 w191:Sq 180 ZEo->Sq 181 ZDc->Sq 182 ZDa->Sq 93 ZEr
 w0:Sq 5 c0
 w101:Sq 206 ZDH->Sq 135 ZDI
 w33:Sq 306 c32->Sq 265 c33
 w141:Sq 144 ZD3->Sq 143 c141
 w72:Sq 222 c71->Sq 274 c72
 w39:Sq 225 c38->Sq 274 c39
 w32:Sq 306 c32
 w154:Sq 321 c154
 w201:Sq 298 c194->Sq 198 c20->Sq 24 c21->Sq 299 ZBZ->Sq 300 ZBH->Sq 261 c201
 w25:Sq 116 c22->Sq 117 c23->Sq 24 c21->Sq 63 c24->Sq 51 c25
 w212:Sq 50 ZEx->Sq 119 ZEy->Sq 24 c21->Sq 54 c212
 w265:Sq 183 ZMb->Sq 184 ZMc->Sq 94 ZMs
 w257:Sq 23 ZEA->Sq 24 c21->Sq 26 c227->Sq 27 c229->Sq 25 ZMm->Sq 8 ZMn
 w2:Sq 21 c2
 w195:Sq 24 c21->Sq 350 ZEt
 w199:Sq 24 c21->Sq 323 c198->Sq 299 ZBZ
 w219:Sq 53 c13->Sq 126 ZBI
 w216:Sq 53 c13->Sq 125 ZDe
 w203:Sq 24 c21->Sq 196 c203
 w245:Sq 324 ZEJ->Sq 325 ZEP
 w221:Sq 62 ZDh
 w220:Sq 125 ZDe->Sq 124 c218->Sq 126 ZBI->Sq 115 c14->Sq 127 ZDf->Sq 57 ZDg
 w222:Sq 62 ZDh->Sq 59 c222
 w224:Sq 131 ZEC
 w230:Sq 24 c21->Sq 200 ZEE
 w240:Sq 53 c13->Sq 324 ZEJ->Sq 301 ZEK
 w251:Sq 301 ZEK->Sq 187 ZEN->Sq 303 ZEO->Sq 305 ZMg->Sq 263 ZMh
 w236:Sq 50 ZEx->Sq 118 c208->Sq 121 ZEF->Sq 122 c233->Sq 123 ZEG->Sq 56 c236
 w255:Sq 60 ZEB->Sq 128 ZEH->Sq 129 ZMk->Sq 130 c232->Sq 58 ZMl
 w233:Sq 60 ZEB->Sq 24 c21->Sq 130 c232->Sq 120 c213->Sq 122 c233
 w267:Sq 51 c25->Sq 24 c21->Sq 185 ZMu
 w262:Sq 295 ZMq
 w259:Sq 294 ZMp
 w22:Sq 198 c20->Sq 24 c21->Sq 116 c22
 w214:Sq 53 c13->Sq 24 c21->Sq 120 c213->Sq 55 ZEz
set_option maxHeartbeats 100000000 in
theorem ws3:Ws3:=by
 refine ⟨(λq=>HK Zy (Zb q Zl) {loops:=[(0,[.reg 6 (.own (.ol 2 (.flat Iq))),.reg 19 (.dat Iq)])]} Tryz.func78 ?_),
 (λQ q=>HK Zy (Zb Q (Zb q Zl)) {loops:=[(0,[.reg 8 (.dat Iq)])]} Tryz.func272 ?_),
 (λf c b q Q i=>HK Zy (Zb f (Zb c (Zb b (Zb q (Zb Q (Zb i Zl)))))) {draws:=[(2,[],.u 0 12 (.alt 12 (.u 13 5 (.alt 18 (.u 19 11 (.alt 30 (.u 31 9 .done) .done)) .done)) .done)),(3,[],.o [0,1] (.alt 2 (.u 3 4 (.alt 7 (.u 8 6 (.alt 14 (.u 15 6 (.alt 21 (.o [22,23] .done) .done)) .done)) .done)) .done))]} Tryz.func309 ?_),
 (λq Q=>HK Zy (Zb q (Zb Q Zl)) {} Tryz.func329 ?_),
 (λq Q b=>HK Zy (Zb q (Zb Q (Zb b Zl))) {loops:=[(0,[.reg 3 (.dat Iq),.reg 9 (.dat Iq)])],draws:=[(10,[],.u 0 7 (.alt 7 (.u 8 6 (.alt 14 (.o [15,16] .done) .done)) .done)),(12,[],.u 0 10 (.alt 10 (.u 11 4 (.op 16 (.a [15,17] (.o [18,19,20] .done)))) .done))]} Tryz.func273 ?_),
 (λq=>HK Zy (Zb q Zl) {} Tryz.func312 ?_),
 (HK Zy Zl {} Tryz.func288 ?_),
 (λQ b q=>HK Zy (Zb Q (Zb b (Zb q Zl))) {draws:=[(1,[],.u 0 4 (.alt 4 (.op 5 (.alt 6 (.u 7 18 (.alt 25 (.o [26,27,28] .done) .done)) .done)) .done))]} Tryz.func150 ?_),
 (λq Q=>HK Zy (Zb q (Zb Q Zl)) {} Tryz.func151 ?_),
 (λQ q=>HK Zy (Zb Q (Zb q Zl)) {} Tryz.func244 ?_),
 (HK Zy Zl {} Tryz.func291 ?_),
 (λq=>HK Zy (Zb q Zl) {loops:=[(0,[.reg 5 (.own (.ol 2 (.flat Iq))),.reg 11 (.dat Iq)])]} Tryz.func158 ?_),
 (λf b Q c q=>HK Zy (Zb f (Zb b (Zb Q (Zb c (Zb q Zl))))) {loops:=[(0,[.reg 25 (.dat Iq),.ent 2 (nat_lit 3) (.flat Zsa.ety)]),(2,[.reg 51 (.dat Iq),.ent 2 (nat_lit 3) (.flat Zsa.ety)])]} Tryz.func73 ?_),
 (λq=>HK Zy (Zb q Zl) {} Tryz.func91 ?_),
 (λQ q=>HK Zy (Zb Q (Zb q Zl)) {} Tryz.func339 ?_),
 (λq c Q b=>HK Zy (Zb q (Zb c (Zb Q (Zb b Zl)))) {} Tryz.func74 ?_),
 (HK Zy Zl {} Tryz.func177 ?_),
 (HK Zy Zl {} Tryz.func167 ?_),
 (λq=>HK Zy (Zb q Zl) {} Tryz.func225 ?_),
 (λb q Q=>HK Zy (Zb b (Zb q (Zb Q Zl))) {} Tryz.func100 ?_),
 (λq=>HK Zy (Zb q Zl) {loops:=[(0,[.reg 7 (.own (.ol 149 (.flat (Xv)))),.reg 19 (.dat Iq)])],draws:=[(1,[],.u 0 6 (.alt 6 (.alt 7 (.a [8,9,10] .done) (.a [8,7,9,10] .done)) (.alt 7 (.alt 6 (.a [8,9,10] .done) (.a [8,6,9,10] .done)) (.alt 8 (.alt 6 (.a [7,9,10] .done) (.a [7,6,9,10] .done)) .done))))]} Tryz.func68 ?_),
 (λq=>HK Zy (Zb q Zl) {loops:=[(0,[.reg 3 (.dat Iq),.reg 12 (.dat Iq),.ent 1 (nat_lit 52) (Dp.ol (2:Go.TypeId) (Dp.flat (Ty.int IntKind.i64)))])],draws:=[(5,[],.u 0 10 .done)]} Tryz.func42 ?_),
 (HK Zy Zl {loops:=[(0,[.reg 0 (.dat Iq),.reg 1 (.dat Iq)])],draws:=[(2,[],.u 0 6 .done)]} Tryz.func188 ?_),
 (λc q f Q b=>HK Zy (Zb c (Zb q (Zb f (Zb Q (Zb b Zl))))) {loops:=[(0,[.reg 39 (.dat Iq),.cell 1012 0 Iq,.cell 1012 1 Iq,.cell 1012 2 Iq,.cell 1012 3 Iq,.cell 1012 4 Iq,.cell 1013 0 (.bool)])],draws:=[(11,[],.u 0 11 (.alt 11 (.o [12,13,14] (.alt 15 (.a [16,17,18] .done) (.a [16,15,17,18] .done))) (.alt 15 (.alt 11 (.o [12,13,14] (.a [16,17,18] .done)) (.a [16,11] (.o [12,13,14] (.a [17,18] .done)))) (.alt 16 (.alt 11 (.o [12,13,14] (.a [15,17,18] .done)) (.a [15,11] (.o [12,13,14] (.a [17,18] .done)))) .done)))),(12,[],.u 0 6 (.op 7 (.a [6,8] .done))),(16,[],.o [0,1] (.d 2))]} Tryz.func90 ?_),
 (λq=>HK Zy (Zb q Zl) {loops:=[(0,[.reg 5 (.own (.ol 2 (.flat Iq))),.reg 16 (.dat Iq)])]} Tryz.func81 ?_),
 (λQ b q=>HK ZAU (Zb Q (Zb b (Zb q Zl))) {loops:=[(0,[.reg 29 (.dat Iq),.ent 0 (nat_lit 52) (Dp.ol (2:Go.TypeId) (Dp.flat (Ty.int IntKind.i64)))]),(2,[.reg 13 (.own (.ol 2 (.flat Iq))),.ent 0 (nat_lit 52) (Dp.ol (2:Go.TypeId) (Dp.flat (Ty.int IntKind.i64))),.ent 1 (nat_lit 4) (.flat ZCQ.ety)])]} Tryz.func161 ?_),
 (HK Zy Zl {} Tryz.func240 ?_),
 (λq Q=>HK Zy (Zb q (Zb Q Zl)) {} Tryz.func103 ?_),
 (HK Zy Zl {loops:=[(0,[.reg 3 (.dat Iq)])],draws:=[(4,[],.u 0 10 .done)]} Tryz.func172 ?_),
 (λq=>HK Zy (Zb q Zl) {} Tryz.func208 ?_),
 (HK Zy Zl {} Tryz.func247 ?_),
 (HK Zy Zl {} Tryz.func246 ?_),
 (HK Zy Zl {} Tryz.func36 ?_),
 (HK Zy Zl {} Tryz.func256 ?_),
 (HK Zy Zl {loops:=[(0,[.reg 1 (.dat Iq)])]} Tryz.func102 ?_),
 (λb c Q f q i=>HK Zy (Zb b (Zb c (Zb Q (Zb f (Zb q (Zb i Zl)))))) {draws:=[(5,[],.o [0,1,4,5,6] (.u 9 9 (.alt 2 (.o [3,7,8] (.alt 18 (.op 19 .done) .done)) .done))),(6,[],.u 0 12 (.alt 12 (.op 13 .done) .done))]} Tryz.func241 ?_),
 (λq=>HK Zy (Zb q Zl) {} Tryz.func140 ?_),
 (λq Q b=>HK Zy (Zb q (Zb Q (Zb b Zl))) {draws:=[(4,[],.u 0 8 (.alt 8 (.o [9,10,11] (.a [12,13] (.op 14 .done))) (.a [12,8] (.o [9,10,11] (.alt 13 (.op 14 .done) .done))))),(5,[],.u 0 18 (.alt 18 (.op 19 .done) .done)),(7,[],.u 0 23 .done),(8,[],.u 0 23 .done)]} Tryz.func93 ?_),
 (HK Zy Zl {} Tryz.func5 ?_),
 (λq=>HK Zy (Zb q Zl) {} Tryz.func135 ?_),
 (λq=>HK Zy (Zb q Zl) {} Tryz.func265 ?_),
 (λq=>HK Zy (Zb q Zl) {loops:=[(0,[.reg 8 (.dat Iq)])]} Tryz.func143 ?_),
 (λq=>HK Zy (Zb q Zl) {loops:=[(0,[.reg 8 (.dat Iq)])]} Tryz.func274 ?_),
 (λq=>HK Zy (Zb q Zl) {loops:=[(0,[.reg 8 (.dat Iq)])]} Tryz.func274 ?_),
 (HK Zy Zl {loops:=[(0,[.reg 8 (.dat Iq)])]} Tryz.func306 ?_),
 (HK Zy Zl {} Tryz.func321 ?_),
 (λQ b f c q=>HK Zy (Zb Q (Zb b (Zb f (Zb c (Zb q Zl))))) {loops:=[(0,[.reg 5 (.dat Iq)]),(2,[.reg 7 (.dat Iq)]),(5,[.reg 9 (.dat Iq)])],draws:=[(13,[],.u 0 31 .done),(25,[],.u 0 26 .done)]} Tryz.func261 ?_),
 (λQ q b c=>HK Zy (Zb Q (Zb q (Zb b (Zb c Zl)))) {loops:=[(0,[.reg 3 (.dat Iq)]),(2,[.reg 5 (.dat Iq)])],draws:=[(10,[],.u 0 8 .done)]} Tryz.func51 ?_),
 (λQ q b=>HK Zy (Zb Q (Zb q (Zb b Zl))) {} Tryz.func54 ?_),
 (λQ q=>HK Zy (Zb Q (Zb q Zl)) {loops:=[(0,[.reg 14 (.dat Iq),.reg 15 (.dat Iq),.ent 0 (nat_lit 52) (Dp.ol (2:Go.TypeId) (Dp.flat (Ty.int IntKind.i64)))])],draws:=[(5,[],.u 0 12 .done),(9,[],.u 0 16 .done)]} Tryz.func94 ?_),
 (λc f b Q q=>HK Zy (Zb c (Zb f (Zb b (Zb Q (Zb q Zl))))) {draws:=[(5,[],.u 0 7 (.op 8 (.a [7,9,10] (.o [11,12] (.alt 13 (.op 14 .done) .done)))))]} Tryz.func8 ?_),
 (HK Zy Zl {draws:=[(3,[],.u 0 10 .done),(4,[],.u 0 10 (.alt 10 (.op 11 .done) .done))]} Tryz.func21 ?_),
 (λq=>HK Zy (Zb q Zl) {loops:=[(0,[.reg 3 (.dat Iq)])],draws:=[(4,[],.u 0 4 (.alt 4 (.u 5 17 .done) .done))]} Tryz.func350 ?_),
 (λQ q=>HK Zy (Zb Q (Zb q Zl)) {} Tryz.func299 ?_),
 (λq=>HK Zy (Zb q Zl) {loops:=[(0,[.reg 6 (.dat Iq)])]} Tryz.func126 ?_),
 (λq=>HK Zy (Zb q Zl) {loops:=[(0,[.reg 8 (.dat Iq)])]} Tryz.func125 ?_),
 (λq=>HK Zy (Zb q Zl) {loops:=[(0,[.reg 6 (.dat Iq)]),(2,[.reg 8 (.dat Iq)]),(4,[.reg 9 (.dat Iq)])],draws:=[(6,[],.u 0 6 (.alt 6 (.u 7 15 .done) .done))]} Tryz.func196 ?_),
 (λq=>HK Zy (Zb q Zl) {loops:=[(0,[.reg 7 (.own (.ol 2 (.flat Iq))),.reg 8 (.dat Iq)])],draws:=[(7,[],.u 0 20 (.a [20,21] (.op 22 .done)))]} Tryz.func325 ?_),
 (HK Zy Zl {loops:=[(0,[.reg 5 (.dat Iq)])]} Tryz.func62 ?_),
 (λb f q Q c=>HK Zy (Zb b (Zb f (Zb q (Zb Q (Zb c Zl))))) {loops:=[(0,[.reg 3 (.own (.ol 143 (.flat (Zaj)))),.reg 5 (.dat Iq)]),(2,[.reg 3 (.own (.ol 143 (.flat (Zaj)))),.reg 7 (.dat Iq)]),(4,[.reg 3 (.own (.ol 143 (.flat (Zaj)))),.reg 8 (.dat Iq)]),(6,[.reg 3 (.own (.ol 143 (.flat (Zaj)))),.reg 11 (.dat Iq)])],draws:=[(6,[],.u 0 13 .done),(11,[],.u 0 12 (.u 13 7 (.op 21 (.a [12,20,22] (.op 23 .done)))))]} Tryz.func57 ?_),
 (λq=>HK Zy (Zb q Zl) {loops:=[(0,[.reg 5 (.own (.ol 4 (.flat (.bool)))),.reg 6 (.dat Iq)])]} Tryz.func59 ?_),
 (HK Zy Zl {loops:=[(0,[.reg 12 (.dat (.bool)),.ent 0 (nat_lit 4) (.flat Zs7.ety)]),(2,[.reg 12 (.dat (.bool)),.reg 13 (.dat Iq),.ent 0 (nat_lit 4) (.flat Zs7.ety)])],draws:=[(9,[],.u 0 12 .done)]} Tryz.func131 ?_),
 (λq=>HK Zy (Zb q Zl) {loops:=[(0,[.reg 5 (.dat Iq)])],draws:=[(4,[],.u 0 6 (.alt 6 (.u 7 17 .done) .done))]} Tryz.func200 ?_),
 (λq Q=>HK Zy (Zb q (Zb Q Zl)) {draws:=[(1,[],.o [0,1,3,4,5] (.alt 2 (.o [6,7] (.a [8,9] .done)) (.a [8,2] (.o [6,7] (.d 9))))),(2,[],.u 0 21 (.alt 21 (.op 22 (.alt 23 (.alt 24 (.op 25 .done) .done) (.a [24,23] (.op 25 .done)))) .done))]} Tryz.func301 ?_),
 (λb q c Q=>HK Zy (Zb b (Zb q (Zb c (Zb Q Zl)))) {draws:=[(4,[],.o [0,1,2] (.u 4 4 (.a [3,8] (.o [9,10] .done))))]} Tryz.func263 ?_),
 (λc b f Q q=>HK Zy (Zb c (Zb b (Zb f (Zb Q (Zb q Zl))))) {} Tryz.func56 ?_),
 (λq Q b c=>HK Zy (Zb q (Zb Q (Zb b (Zb c Zl)))) {loops:=[(0,[.reg 15 (.dat Iq),.cello 2 0 (.ol 4 (.flat (.bool))),.cello 2 1 (.ol 120 (.flat (Zag))),.cello 2 2 (.ol 120 (.flat (Zag))),.ent 3 (nat_lit 4) (.flat Ty.bool),.ent 4 (nat_lit 120) (.flat Zag),.ent 5 (nat_lit 120) (.flat Zag)])]} Tryz.func58 ?_),
 (λq c b Q=>HK Zy (Zb q (Zb c (Zb b (Zb Q Zl)))) {loops:=[(0,[.reg 6 (.dat Iq)])],draws:=[(5,[],.u 0 7 (.alt 7 (.u 8 25 (.alt 33 (.u 34 8 (.alt 42 (.o [43,44] .done) .done)) .done)) .done))]} Tryz.func122 ?_),
 (λq Q=>HK Zy (Zb q (Zb Q Zl)) {} Tryz.func185 ?_),
 (HK Zy Zl {} Tryz.func295 ?_),
 (HK Zy Zl {loops:=[(0,[.reg 0 (.dat Iq),.reg 1 (.dat Iq)])]} Tryz.func294 ?_),
 (λq Q=>HK Zy (Zb q (Zb Q Zl)) {} Tryz.func116 ?_),
 (λq b Q=>HK Zy (Zb q (Zb b (Zb Q Zl))) {loops:=[(0,[.reg 10 (.dat Iq)])],draws:=[(6,[],.u 0 5 (.alt 5 (.u 6 23 (.alt 29 (.o [30,31] .done) .done)) .done))]} Tryz.func55 ?_)⟩
 all_goals
  intro a;repeat rcases a with⟨_,a⟩
  rintro K ⟨r,h,k⟩;repeat'
    conv=>whnf
    first
    |with_reducible refine Zz8 ?_
    |with_reducible refine Zlc (by assumption) (by assumption) (by assumption) ?_
    |with_reducible refine ZoA (by assumption) ?_
    |with_reducible refine Zlh (by assumption) ?_
    |(with_reducible refine shD ?_);first|refine Zsh h (λh=>?_) (λh=>?_)|refine ZBz h (λh=>?_) (λh=>?_)
    |(with_reducible refine ZAM ?_);first|refine ZCX ?_|refine ZxK ?_
    |(with_reducible refine ZE8 ?_);first|refine ZxI h (λh=>?_) (λh=>?_)|refine ZBy h (λh=>?_) (λh=>?_)
    |(with_reducible refine ZAL ?_);(refine⟨λL=>?_,?_⟩)<;>try subst L
    |(with_reducible refine ZFa ?_);first|with_reducible refine Ziu h (λx H h=>?_)|refine Zlh (by assumption) ?_|with_reducible refine pG h (λg h=>?_)|with_reducible refine pA h (λx m H Z h=>?_)|with_reducible refine pB h (λx H h=>?_)|refine Ziu h (λx H h=>?_)
    |(with_reducible refine ZE7 ?_);first|with_reducible refine vAt h (λx m H Z h=>?_)|refine Zlc (by assumption) (by assumption) (by assumption) ?_|with_reducible refine pG h (λg h=>?_)|with_reducible refine pA h (λx m H Z h=>?_)|with_reducible refine pB h (λx H h=>?_)|refine vAt h (λx m H Z h=>?_)
    |(with_reducible refine ZAK ?_);first|with_reducible refine Zvi h (λx H h=>?_)|refine ZoA (by assumption) ?_|with_reducible refine pG h (λg h=>?_)|with_reducible refine pA h (λx m H Z h=>?_)|with_reducible refine pB h (λx H h=>?_)|refine Zvi h (λx H h=>?_)
    |with_reducible refine ZE9 ?_
    |(with_reducible refine Zxm ?_);refine ZxJ h k ?_;clear h k;intro I μ v r h k;(repeat rcases v with⟨_,v⟩);(try dsimp only at h)
    |with_reducible refine⟨by assumption,?_⟩
    |with_reducible refine orL ?_
    |with_reducible refine .inr ?_
    |(with_reducible refine ZAN ?_);first|refine⟨?_,True.intro⟩|refine⟨?_,?_⟩
    |refine⟨by kernel_rfl,?_⟩
    |refine⟨by decide,?_⟩
    |with_reducible refine ZBA h (λg h=>?_)
    |intro p
    |exact trivial
    |with_reducible exact Zz5 h
    |(refine pS h (λe=>?_));subst e;(repeat (first|exact k|exact⟨⟨rfl,rfl⟩,k.1 _ rfl⟩|(refine pR k (λe k=>?_));subst e));done
    |refine ZBA h (λg h=>?_)
    |refine⟨by assumption,?_⟩
    |with_reducible refine pG h (λg h=>?_)|with_reducible refine pA h (λx m H Z h=>?_)|with_reducible refine pB h (λx H h=>?_)
    |refine pG h (λg h=>?_)
    |fail
theorem ZNv (Q:Sq 189 ZEi):Sq 104 ZEj:=by
 refine HK Zcl (Zb Q Zl) {loops:=[(0,[.reg 3 (.own (.ol 52 (.ol 2 (.flat Iq)))),.reg 4 (.dat Iq)])]} Tryz.func104 ?_;rintro⟨X,⟨⟩⟩ K ⟨r,h,k⟩
 change ZIX X=some r at h
 unfold ZIX at h
 conv=>whnf
 refine ZBA h (λq h=>?_)
 conv=>whnf
 refine ZBA h (λs h=>?_)
 conv=>whnf
 refine⟨λi=>?_,λi=>?_,trivial⟩;have i:Zjt.ea X=(0:Int):=i;simp only[i,Uk,Int.reduceEq,Uj]at h
 conv=>whnf
 refine ZCW h ?_;rintro I2 u ⟨l,l0,⟨⟩⟩ z h f a
 change ZIF X l l0=some z at h
 unfold ZIF at h
 conv=>whnf
 intro e
 conv=>whnf
 refine Zsh h (λh=>?_) (λh=>?_)
 conv=>whnf
 refine Ziu h (λn p h=>?_)
 conv=>whnf
 intro j
 conv=>whnf
 refine ZBA h (λt h=>?_)
 conv=>whnf
 intro m
 conv=>whnf
 cases h;exact⟨⟨rfl,rfl⟩,f _ rfl⟩
 conv=>whnf
 cases h;obtain rfl:=a _ rfl;exact k;have i:Zjt.ea X=(1:Int):=i;simp only[i,Uk,Int.reduceEq,Uj]at h
 conv=>whnf
 refine ZCW h ?_;rintro I8 v ⟨l,l0,⟨⟩⟩ Z h H b
 change ZIF X l l0=some Z at h
 unfold ZIF at h
 conv=>whnf
 intro o
 conv=>whnf
 refine Zsh h (λh=>?_) (λh=>?_)
 conv=>whnf
 refine Ziu h (λn g h=>?_)
 conv=>whnf
 intro F
 conv=>whnf
 refine ZBA h (λd h=>?_)
 conv=>whnf
 intro c
 conv=>whnf
 cases h;exact⟨⟨rfl,rfl⟩,H _ rfl⟩
 conv=>whnf
 cases h;obtain rfl:=b _ rfl;exact k
theorem Zmg (R:Int->Option (List UInt8)) (c:Sq 193 (Zcn R)):Sq 193 (Zcn (Xb R)):=by
 refine HK Zy (Zb c Zl) {draws:=[(5,[],.o [0,1,3,4,5] (.alt 2 (.a [6,7,8] (.o [9,10] .done)) (.alt 6 (.alt 2 (.a [7,8] (.o [9,10] .done)) (.alt 7 (.alt 2 (.alt 8 (.o [9,10] .done) .done) (.a [8,2] (.o [9,10] .done))) .done)) .done)))]} Tryz.func193 ?_;rintro⟨n0,⟨⟩⟩ K ⟨r,h,k⟩
 change Xb R n0=some r at h
 unfold Xb at h
 conv=>whnf
 refine Zsh h (λh=>?_) (λh=>?_)
 conv=>whnf
 refine Ziu h (λe b h=>?_)
 conv=>whnf
 refine ZBA h (λd h=>?_)
 conv=>whnf
 cases h;exact k
 conv=>whnf
 refine Zsh h (λh=>?_) (λh=>?_)
 conv=>whnf
 cases h;exact k
 focus
  conv=>whnf
  refine⟨by kernel_rfl,?_⟩
  conv=>whnf
  refine⟨by decide,?_⟩
  conv=>whnf
  refine⟨by decide,?_⟩
  conv=>whnf
  obtain⟨e,m,h⟩:=KH.1 h;obtain⟨H,h⟩:=guardE h;refine⟨?_,?_⟩;rotate_left
  focus
   conv=>whnf
   refine⟨?_,?_⟩;rotate_left
   focus
    conv=>whnf
    refine⟨?_,?_⟩;rotate_left
    focus
     conv=>whnf
     refine⟨_,m,?_⟩
     conv=>whnf
     refine⟨H,?_⟩
     conv=>whnf
     refine⟨trivial,?_⟩
    rotate_right
    focus
     conv=>whnf
     refine⟨_,m,?_⟩
     conv=>whnf
     refine⟨H,?_⟩
     conv=>whnf
     refine⟨trivial,?_⟩
   rotate_right
   focus
    conv=>whnf
    refine⟨_,m,?_⟩
    conv=>whnf
    refine⟨H,?_⟩
    conv=>whnf
    refine⟨trivial,?_⟩
  rotate_right
  focus
   conv=>whnf
   refine⟨_,m,?_⟩
   conv=>whnf
   refine⟨H,?_⟩
   conv=>whnf
   refine⟨trivial,?_⟩
  all_goals
   conv=>whnf
   cases h;exact k
theorem w11:Sq 193 c11:=by
 have W:∀n,Sq 193 (Zcn (Q9 n)):=by
  intro n;induction n with
  |zero =>
  refine HK Zy Zl {draws:=[(5,[],.o [0,1,3,4,5] (.alt 2 (.a [6,7,8] (.o [9,10] .done)) (.alt 6 (.alt 2 (.a [7,8] (.o [9,10] .done)) (.alt 7 (.alt 2 (.alt 8 (.o [9,10] .done) .done) (.a [8,2] (.o [9,10] .done))) .done)) .done)))]} Tryz.func193 ?_;rintro⟨n0,⟨⟩⟩ K ⟨r,h,k⟩;cases h
  |succ n I=>exact Zmg _ I
 refine⟨(W 0).1,?_⟩;rintro w S vs ⟨n0,⟨⟩⟩ f K d H g i ⟨r,h,k⟩;obtain⟨n,E⟩:=Zn9 h;exact(W n).2 w S vs _ f K d H g i ⟨r,E,k⟩
end Go.Proofs.YtjkccpcebpeadaaGreatDoor
