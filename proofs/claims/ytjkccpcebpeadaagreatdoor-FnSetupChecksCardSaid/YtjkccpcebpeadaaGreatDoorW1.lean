/-
  The functions keep their contracts, if what they call does. Printed by program.
-/
import Derived.Test.YtjkccpcebpeadaaGreatDoorM
import Derived.KernelRfl
namespace Go.Proofs.YtjkccpcebpeadaaGreatDoor
open Go Go.Sx
set_option maxRecDepth 100000
set_option maxHeartbeats 100000000
set_option linter.unusedVariables false
set_option linter.unusedSimpArgs false
structure Ws1:Prop where
 w284:Sq 44 ZMJ->Sq 38 ZEs->Sq 18 ZMK
 w84:Sq 156 c83->Sq 75 c84
 w190:Sq 246 ZEp->Sq 46 c29->Sq 247 ZEq->Sq 179 c36->Sq 181 ZDc
 w182:Sq 179 c36->Sq 92 c182
 w52:Sq 341 c51->Sq 328 c52
 w50:Sq 342 c50
 w60:Sq 320 c60
 w93:Sq 46 c29->Sq 264 c93
 w79:Sq 37 c79
 w96:Sq 204 c95->Sq 205 c34->Sq 134 c96
 w193:Sq 22 ZEd->Sq 17 ZEm->Sq 38 ZEs->Sq 15 c193
 w49:Sq 337 c48->Sq 327 c49
 w46:Sq 339 c44->Sq 340 c45->Sq 338 c46
 w41:Sq 221 c40->Sq 155 c41
 w120:Sq 110 c119->Sq 81 ZDR
 w132:Sq 109 Zzq->Sq 161 ZDW->Sq 163 c131->Sq 80 ZDY
 w125:Sq 109 Zzq->Sq 81 ZDR->Sq 111 ZDS->Sq 112 c124->Sq 49 ZBX
 w119:Sq 110 c119
 w149:Sq 81 c148->Sq 175 ZD6
 w36:Sq 179 c36
 w171:Sq 101 c171
 w31:Sq 308 c31
 w91:Sq 37 c79->Sq 75 c84->Sq 76 c37->Sq 77 c88->Sq 78 c90->Sq 31 c91
 w160:Sq 249 c157->Sq 287 c160
 w169:Sq 28 c117->Sq 47 ZC6->Sq 46 c29->Sq 31 c91->Sq 32 ZC7->Sq 48 c138->Sq 29 c143->Sq 49 ZBX->Sq 34 c168->Sq 22 ZEd
 w142:Sq 143 c141->Sq 67 ZC8
 w135:Sq 83 ZD0->Sq 82 ZD1
 w192:Sq 92 c182->Sq 93 ZEr->Sq 38 ZEs
 w138:Sq 48 c138
 w108:Sq 36 c97->Sq 155 c41->Sq 208 c107->Sq 172 c42->Sq 141 ZDM
 w98:Sq 36 c97->Sq 46 c29->Sq 137 c98
 w144:Sq 109 Zzq->Sq 89 ZD4
 w118:Sq 36 c97->Sq 109 Zzq
 w163:Sq 319 c162->Sq 249 c157->Sq 289 ZEa
 w111:Sq 207 ZDN->Sq 139 ZDO
 w40:Sq 274 c39->Sq 221 c40
 w110:Sq 140 c109->Sq 207 ZDN
 w47:Sq 338 c46->Sq 348 c47
 w76:Sq 153 c75->Sq 224 c76
 w45:Sq 340 c45
 w28:Sq 19 c1->Sq 20 c27->Sq 21 c2->Sq 14 c28
 w266:Sq 183 ZMb->Sq 184 ZMc->Sq 63 c24->Sq 95 ZMt
 w208:Sq 24 c21->Sq 198 c20->Sq 118 c208
 w205:Sq 195 ZEu->Sq 196 c203->Sq 197 ZEv->Sq 113 ZEw
 w215:Sq 50 ZEx->Sq 51 c25->Sq 52 ZDd->Sq 53 c13->Sq 54 c212->Sq 55 ZEz->Sq 23 ZEA
 w276:Sq 8 ZMn->Sq 39 ZMw->Sq 40 ZMB->Sq 16 ZMC
 w235:Sq 121 ZEF->Sq 57 ZDg->Sq 60 ZEB->Sq 59 c222->Sq 201 c234->Sq 123 ZEG
 w1:Sq 19 c1
 w5:Sq 346 c4->Sq 21 c2->Sq 334 c5
 w4:Sq 21 c2->Sq 346 c4
 w16:Sq 260 c16
 w241:Sq 254 ZEL
 w7:Sq 21 c2->Sq 322 c6->Sq 297 c7
 w8:Sq 21 c2->Sq 296 c3->Sq 297 c7->Sq 257 c8
 w20:Sq 198 c20
 w194:Sq 198 c20->Sq 24 c21->Sq 298 c194
 w238:Sq 336 ZEI
 w218:Sq 127 ZDf->Sq 124 c218
 w223:Sq 53 c13->Sq 60 ZEB
 w227:Sq 57 ZDg->Sq 59 c222->Sq 60 ZEB->Sq 61 c226->Sq 62 ZDh->Sq 26 c227
 w226:Sq 131 ZEC->Sq 132 ZED->Sq 61 c226
 w244:Sq 53 c13->Sq 303 ZEO
 w237:Sq 128 ZEH
 w253:Sq 203 ZMj
 w213:Sq 120 c213
 w260:Sq 63 c24->Sq 294 ZMp->Sq 251 ZMa
 w270:Sq 97 ZMx
 w211:Sq 199 c210->Sq 24 c21->Sq 119 ZEy
 w209:Sq 118 c208->Sq 52 ZDd
 w27:Sq 45 c26->Sq 21 c2->Sq 20 c27
 w229:Sq 63 c24->Sq 64 c228->Sq 27 c229
set_option maxHeartbeats 100000000 in
theorem ws1:Ws1:=by
 refine ⟨(λQ q=>HK Zy (Zb Q (Zb q Zl)) {} Tryz.func18 ?_),
 (λq=>HK Zy (Zb q Zl) {loops:=[(0,[.reg 7 (.own (.ol 143 (.flat (Zaj)))),.reg 21 (.dat Iq)]),(2,[.reg 7 (.own (.ol 143 (.flat (Zaj)))),.reg 29 (.dat Iq)])]} Tryz.func75 ?_),
 (λq c Q b=>HK Zy (Zb q (Zb c (Zb Q (Zb b Zl)))) {draws:=[(3,[],.u 0 14 .done)]} Tryz.func181 ?_),
 (λq=>HK Zy (Zb q Zl) {loops:=[(0,[.reg 3 (.own (.ol 71 (.flat (ZCE)))),.reg 12 (.dat Iq)]),(2,[.reg 3 (.own (.ol 71 (.flat (ZCE)))),.reg 26 (.dat Iq)])]} Tryz.func92 ?_),
 (λq=>HK Zy (Zb q Zl) {} Tryz.func328 ?_),
 (HK Zy Zl {} Tryz.func342 ?_),
 (HK Zy Zl {} Tryz.func320 ?_),
 (λq=>HK Zy (Zb q Zl) {} Tryz.func264 ?_),
 (HK Zy Zl {loops:=[(0,[.reg 3 (.own (.ol 98 (.flat (Zk7)))),.reg 13 (.dat Iq)]),(2,[.reg 3 (.own (.ol 98 (.flat (Zk7)))),.reg 21 (.dat Iq)]),(4,[.reg 3 (.own (.ol 98 (.flat (Zk7)))),.reg 44 (.dat Iq)])]} Tryz.func37 ?_),
 (λQ q=>HK Zy (Zb Q (Zb q Zl)) {loops:=[(0,[.reg 3 (.own (.ol 9 (.flat (.str)))),.reg 11 (.dat Iq)])]} Tryz.func134 ?_),
 (λQ b q=>HK Zy (Zb Q (Zb b (Zb q Zl))) {draws:=[(7,[],.u 0 12 (.alt 12 (.o [13,14] .done) .done))]} Tryz.func15 ?_),
 (λq=>HK Zy (Zb q Zl) {} Tryz.func327 ?_),
 (λQ q=>HK Zy (Zb Q (Zb q Zl)) {} Tryz.func338 ?_),
 (λq=>HK Zy (Zb q Zl) {} Tryz.func155 ?_),
 (λq=>HK Zy (Zb q Zl) {loops:=[(0,[.reg 5 (.own (.ol 2 (.flat Iq))),.reg 16 (.dat Iq)])]} Tryz.func81 ?_),
 (λb q Q=>HK Zcl (Zb b (Zb q (Zb Q Zl))) {loops:=[(0,[.reg 4 (.own (.ol 43 (.ol 4 (.flat (.bool))))),.reg 19 (.dat Iq)]),(2,[.reg 7 (.own (.ol 52 (.ol 2 (.flat Iq)))),.reg 33 (.dat Iq),.ent 0 (nat_lit 43) (Dp.ol (4:Go.TypeId) (Dp.flat Ty.bool)),.ent 1 (nat_lit 4) (.flat Zs7.ety)]),(4,[.reg 9 (.own (.ol 2 (.flat Iq))),.reg 41 (.dat Iq),.ent 0 (nat_lit 43) (Dp.ol (4:Go.TypeId) (Dp.flat Ty.bool))]),(6,[.reg 76 (.dat Iq),.ent 1 (nat_lit 4) (.flat Zs7.ety)])]} Tryz.func80 ?_),
 (λb q Q c=>HK Zy (Zb b (Zb q (Zb Q (Zb c Zl)))) {loops:=[(0,[.reg 20 (.dat Iq),.ent 0 (nat_lit 3) (.flat Zsa.ety)]),(2,[.reg 7 (.own (.ol 2 (.flat Iq))),.reg 43 (.dat Iq),.ent 0 (nat_lit 3) (.flat Zsa.ety)]),(4,[.reg 60 (.dat Iq),.ent 0 (nat_lit 3) (.flat Zsa.ety)])]} Tryz.func49 ?_),
 (HK Zy Zl {} Tryz.func110 ?_),
 (λq=>HK Zy (Zb q Zl) {} Tryz.func175 ?_),
 (HK Zy Zl {} Tryz.func179 ?_),
 (HK Zy Zl {} Tryz.func101 ?_),
 (HK Zy Zl {} Tryz.func308 ?_),
 (λc Q f b q=>HK Zcl (Zb c (Zb Q (Zb f (Zb b (Zb q Zl))))) {loops:=[(0,[.reg 4 (.dat Iq),.reg 25 (.dat Iq),.cello 1020 6 (.ol 143 (.flat (Zaj)))]),(2,[.reg 60 (.dat Iq),.ent 4 (nat_lit 2) (.flat Zza.ety),.ent 5 (nat_lit 52) (Dp.ol (2:Go.TypeId) (Dp.flat (Ty.int IntKind.i64)))]),(4,[.reg 88 (.dat Iq),.cello 1020 7 (.ol 2 (.flat Iq)),.cello 1020 8 (.ol 52 (.ol 2 (.flat Iq))),.cello 1020 6 (.ol (nat_lit 143) (.flat Zaj)),.ent 5 (nat_lit 52) (Dp.ol (2:Go.TypeId) (Dp.flat (Ty.int IntKind.i64)))]),(6,[.reg 122 (.dat Iq),.cello 1020 6 (.ol (nat_lit 143) (.flat Zaj))]),(8,[.reg 127 (.dat Iq),.cello 1020 6 (.ol (nat_lit 143) (.flat Zaj))])],draws:=[(1,[],.o [0,1,2] (.alt 3 (.op 4 (.alt 5 (.op 6 .done) .done)) .done)),(6,[],.u 0 8 (.a [8,9] (.o [10,11] (.d 12)))),(16,[],.o [0,1] (.u 3 6 (.ld 2 (.a [9,10] (.op 11 (.d 12)))))),(21,[],.u 0 7 (.alt 7 (.o [8,9] (.a [10,11] (.o [12,13] (.d 14)))) .done)),(22,[],.u 0 7 (.a [7,8,9] (.o [10,11] (.d 12)))),(29,[],.u 0 18 (.a [18,19] (.o [20,21] (.d 22))))]} Tryz.func31 ?_),
 (λq=>HK Zy (Zb q Zl) {} Tryz.func287 ?_),
 (λj q n l Q c i f b=>HK Zy (Zb j (Zb q (Zb n (Zb l (Zb Q (Zb c (Zb i (Zb f (Zb b Zl))))))))) {draws:=[(6,[],.o [0,1] (.u 4 6 (.op 11 (.a [2,3,10] (.op 12 (.alt 13 (.op 14 .done) .done)))))),(10,[],.u 0 14 (.alt 14 (.u 15 5 (.alt 20 (.op 21 .done) .done)) .done))]} Tryz.func22 ?_),
 (λq=>HK Zy (Zb q Zl) {} Tryz.func67 ?_),
 (λq=>HK Zy (Zb q Zl) {} Tryz.func82 ?_),
 (λQ q=>HK Zy (Zb Q (Zb q Zl)) {loops:=[(0,[.reg 7 (.own (.ol 71 (.flat (ZCE)))),.reg 18 (.dat Iq)])]} Tryz.func38 ?_),
 (HK Zy Zl {loops:=[(0,[.reg 23 (.dat Iq),.ent 0 (nat_lit 4) (.flat Zs7.ety)]),(2,[.reg 35 (.dat Iq),.ent 0 (nat_lit 4) (.flat Zs7.ety)])]} Tryz.func48 ?_),
 (λq b c Q=>HK Zy (Zb q (Zb b (Zb c (Zb Q Zl)))) {loops:=[(0,[.reg 15 (.dat Iq)])]} Tryz.func141 ?_),
 (λq Q=>HK Zy (Zb q (Zb Q Zl)) {} Tryz.func137 ?_),
 (λq=>HK Zy (Zb q Zl) {draws:=[(2,[],.o [0,2,4] (.alt 1 (.alt 3 (.alt 5 (.op 6 (.d 7)) .done) (.a [5,3] (.op 6 (.d 7)))) (.alt 3 (.alt 1 (.alt 5 (.op 6 (.d 7)) .done) (.a [5,1] (.op 6 (.d 7)))) (.alt 5 (.alt 1 (.alt 3 (.op 6 (.d 7)) .done) (.a [3,1] (.op 6 (.d 7)))) .done))))]} Tryz.func89 ?_),
 (λq=>HK Zy (Zb q Zl) {} Tryz.func109 ?_),
 (λQ q=>HK Zy (Zb Q (Zb q Zl)) {} Tryz.func289 ?_),
 (λq=>HK Zy (Zb q Zl) {} Tryz.func139 ?_),
 (λq=>HK Zy (Zb q Zl) {} Tryz.func221 ?_),
 (λq=>HK Zy (Zb q Zl) {loops:=[(0,[.reg 8 (.dat Iq)])]} Tryz.func207 ?_),
 (λq=>HK Zy (Zb q Zl) {loops:=[(0,[.reg 8 (.dat Iq)])]} Tryz.func348 ?_),
 (λq=>HK Zy (Zb q Zl) {loops:=[(0,[.reg 8 (.dat Iq)])]} Tryz.func224 ?_),
 (HK Zy Zl {loops:=[(0,[.reg 3 (.dat Iq),.reg 4 (.dat Iq)])]} Tryz.func340 ?_),
 (λQ q b=>HK Zcl (Zb Q (Zb q (Zb b Zl))) {draws:=[(4,[],.u 2 6 (.op 9 (.ld 0 (.alt 1 (.a [8,10] (.o [11,12] (.a [13,14] (.o [15,16] .done)))) (.alt 8 (.alt 1 (.alt 10 (.o [11,12] (.a [13,14] (.o [15,16] .done))) .done) (.alt 10 (.o [11,12] (.alt 1 (.a [13,14] (.o [15,16] .done)) (.a [13,1,14] (.o [15,16] .done)))) .done)) .done)))))]} Tryz.func14 ?_),
 (λQ q b=>HK Zy (Zb Q (Zb q (Zb b Zl))) {loops:=[(0,[.reg 15 (.dat Iq),.reg 16 (.dat Iq),.ent 0 (nat_lit 52) (Dp.ol (2:Go.TypeId) (Dp.flat (Ty.int IntKind.i64)))])],draws:=[(6,[],.u 0 14 .done),(10,[],.u 0 18 .done)]} Tryz.func95 ?_),
 (λQ q=>HK Zy (Zb Q (Zb q Zl)) {loops:=[(0,[.reg 4 (.dat Iq)])]} Tryz.func118 ?_),
 (λq Q b=>HK Zy (Zb q (Zb Q (Zb b Zl))) {loops:=[(0,[.reg 5 (.own (.ol 9 (.flat (.str)))),.reg 6 (.dat Iq)]),(2,[.reg 7 (.own (.ol 9 (.flat (.str)))),.reg 8 (.dat Iq)]),(4,[.reg 10 (.dat Iq),.ent 6 (nat_lit 2) (.flat Zza.ety)]),(6,[.reg 12 (.dat Iq),.ent 6 (nat_lit 2) (.flat Zza.ety)]),(8,[.reg 13 (.dat Iq)])]} Tryz.func113 ?_),
 (λi f b c Q q=>HK Zy (Zb i (Zb f (Zb b (Zb c (Zb Q (Zb q Zl)))))) {loops:=[(0,[.reg 5 (.dat Iq)]),(2,[.reg 6 (.dat Iq)])],draws:=[(6,[],.u 0 8 (.alt 8 (.o [9,10] .done) .done)),(11,[],.u 0 6 (.alt 6 (.op 7 .done) .done))]} Tryz.func23 ?_),
 (λq Q b=>HK Zy (Zb q (Zb Q (Zb b Zl))) {} Tryz.func16 ?_),
 (λc q Q f b=>HK Zy (Zb c (Zb q (Zb Q (Zb f (Zb b Zl))))) {} Tryz.func123 ?_),
 (HK Zy Zl {loops:=[(0,[.reg 4 (.dat Iq),.cell 1007 2 Iq])],draws:=[(5,[],.u 0 10 (.alt 10 (.u 11 4 (.d 15)) .done))]} Tryz.func19 ?_),
 (λq Q=>HK Zy (Zb q (Zb Q Zl)) {loops:=[(0,[.reg 7 (.own (.ol 2 (.flat Iq))),.reg 9 (.dat Iq),.cell 1000 0 (.sl (.int .u8)),.cell 1000 1 Iq,.cell 1000 2 Iq])],draws:=[(10,[],.u 0 5 (.op 6 (.alt 5 (.alt 7 (.o [8,9,10] .done) .done) (.a [7,5] (.o [8,9,10] .done))))),(12,[],.u 0 6 (.op 7 (.alt 6 (.alt 8 (.o [9,10,11] .done) .done) (.a [8,6] (.o [9,10,11] .done)))))]} Tryz.func334 ?_),
 (λq=>HK Zy (Zb q Zl) {loops:=[(0,[.reg 5 (.own (.ol 2 (.flat Iq))),.reg 6 (.dat Iq),.reg 7 (.dat Iq),.cell 0 0 (.sl (.int .u8)),.cell 0 1 Iq,.cell 0 2 Iq])]} Tryz.func346 ?_),
 (HK Zy Zl {} Tryz.func260 ?_),
 (HK Zy Zl {loops:=[(0,[.reg 8 (.dat Iq)])],draws:=[(10,[],.u 0 17 .done)]} Tryz.func254 ?_),
 (λQ q=>HK Zcl (Zb Q (Zb q Zl)) {} Tryz.func297 ?_),
 (λb Q q=>HK Zcl (Zb b (Zb Q (Zb q Zl))) {loops:=[(0,[.reg 9 (.own (.ol 303 (.flat (ZqP)))),.reg 10 (.dat Iq),.cell 1000 0 (.sl (.int .u8)),.cell 1000 1 Iq,.cell 1000 2 Iq]),(2,[.reg 12 (.own (.ol 220 (ZB5))),.reg 13 (.dat Iq),.cell 1000 0 (.sl (.int .u8)),.cell 1000 1 Iq,.cell 1000 2 Iq])],draws:=[(7,[],.u 0 5 (.op 6 (.alt 5 (.alt 7 (.o [8,9] (.a [10,11] (.op 12 .done))) .done) (.alt 7 (.op 8 (.alt 5 (.op 9 (.a [10,11] (.op 12 .done))) .done)) .done))))]} Tryz.func257 ?_),
 (HK Zy Zl {loops:=[(0,[.reg 3 (.dat Iq)])]} Tryz.func198 ?_),
 (λq Q=>HK Zy (Zb q (Zb Q Zl)) {loops:=[(0,[.reg 5 (.dat Iq),.reg 6 (.dat Iq)]),(2,[.reg 8 (.dat Iq)])],draws:=[(12,[],.u 0 9 .done)]} Tryz.func298 ?_),
 (HK Zy Zl {draws:=[(3,[],.u 0 18 .done)]} Tryz.func336 ?_),
 (λq=>HK Zcl (Zb q Zl) {loops:=[(0,[.reg 0 (.own (.ol 143 (.flat (Zaj)))),.reg 11 (.dat Iq)]),(2,[.reg 0 (.own (.ol 143 (.flat (Zaj)))),.reg 12 (.dat Iq)])]} Tryz.func124 ?_),
 (λq=>HK Zy (Zb q Zl) {} Tryz.func60 ?_),
 (λq c Q b f=>HK Zy (Zb q (Zb c (Zb Q (Zb b (Zb f Zl))))) {loops:=[(0,[.ent 3 (nat_lit 4) (.flat Ty.bool)]),(4,[.reg 9 (.own (.ol 2 (.flat Iq))),.reg 10 (.dat Iq)]),(2,[.reg 7 (.dat Iq),.reg 8 (.dat Iq),.ent 4 (nat_lit 52) (Dp.ol (2:Go.TypeId) (Dp.flat (Ty.int IntKind.i64)))])],draws:=[(10,[],.u 0 21 (.alt 21 (.u 22 10 (.alt 32 (.op 33 .done) .done)) .done))]} Tryz.func26 ?_),
 (λq Q=>HK Zcl (Zb q (Zb Q Zl)) {loops:=[(0,[.reg 7 (.own (.ol 52 (.ol 2 (.flat Iq)))),.reg 9 (.dat Iq),.ent 1 (nat_lit 4) (.flat Zs7.ety)]),(2,[.reg 12 (.own (.ol 2 (.flat Iq))),.reg 13 (.dat Iq),.ent 1 (nat_lit 4) (.flat Zs7.ety)])]} Tryz.func61 ?_),
 (λq=>HK Zy (Zb q Zl) {draws:=[(1,[],.o [0,1,3,4,5] (.alt 2 (.u 6 4 .done) .done))]} Tryz.func303 ?_),
 (HK Zy Zl {draws:=[(1,[],.o [0,2,4] (.alt 1 (.alt 3 (.alt 5 (.op 6 (.d 7)) .done) (.a [5,3] (.op 6 (.d 7)))) (.alt 3 (.alt 1 (.alt 5 (.op 6 (.d 7)) .done) (.a [5,1] (.op 6 (.d 7)))) (.alt 5 (.alt 1 (.alt 3 (.op 6 (.d 7)) .done) (.a [3,1] (.op 6 (.d 7)))) .done))))]} Tryz.func128 ?_),
 (HK Zy Zl {} Tryz.func203 ?_),
 (HK Zy Zl {} Tryz.func120 ?_),
 (λQ q=>HK Zy (Zb Q (Zb q Zl)) {} Tryz.func251 ?_),
 (HK Zcl Zl {loops:=[(0,[.reg 3 (.own (.ol 52 (.ol 2 (.flat Iq)))),.reg 4 (.dat Iq)]),(2,[.reg 3 (.own (.ol 52 (.ol 2 (.flat Iq)))),.reg 6 (.dat Iq)])],draws:=[(5,[],.u 0 14 .done)]} Tryz.func97 ?_),
 (λq Q=>HK Zy (Zb q (Zb Q Zl)) {loops:=[(0,[.reg 7 (.dat Iq)])],draws:=[(4,[],.u 0 5 (.alt 5 (.op 6 (.alt 7 (.u 8 20 .done) .done)) .done))]} Tryz.func119 ?_),
 (λq=>HK Zy (Zb q Zl) {loops:=[(0,[.reg 3 (.dat Iq)]),(2,[.reg 4 (.dat Iq)])],draws:=[(9,[],.u 0 11 .done)]} Tryz.func52 ?_),
 (λq Q=>HK Zcl (Zb q (Zb Q Zl)) {draws:=[(4,[],.o [0,3] (.ld 1 (.alt 2 (.alt 4 (.u 5 4 (.d 9)) .done) (.a [4,2] (.u 5 4 (.d 9)))))),(7,[],.o [0,3] (.ld 1 (.alt 2 (.alt 4 (.u 5 4 (.d 9)) .done) (.a [4,2] (.u 5 4 (.d 9)))))),(10,[],.u 0 12 (.d 12)),(15,[],.u 0 6 (.a [6,7] (.op 8 (.d 9)))),(20,[],.u 0 6 (.a [6,7] (.op 8 (.d 9)))),(23,[],.op 0 (.alt 1 (.a [2,3] .done) (.a [2,1,3] .done)))]} Tryz.func20 ?_),
 (λQ q=>HK Zy (Zb Q (Zb q Zl)) {loops:=[(0,[.reg 3 (.dat (.sl (Xv))),.reg 4 (.dat Iq)]),(2,[.reg 3 (.dat (.sl (Xv))),.reg 9 (.dat Iq)])]} Tryz.func27 ?_)⟩
 all_goals
  intro a;repeat rcases a with⟨_,a⟩
  rintro K ⟨r,h,k⟩;repeat'
    conv=>whnf
    first
    |with_reducible refine Zz8 ?_
    |with_reducible refine Zlc (by assumption) (by assumption) (by assumption) ?_
    |with_reducible refine ZoA (by assumption) ?_
    |with_reducible refine Zlh (by assumption) ?_
    |(with_reducible refine shD ?_);first|refine Zsh h (λh=>?_) (λh=>?_)|refine ZBz h (λh=>?_) (λh=>?_)
    |(with_reducible refine ZAM ?_);first|refine ZCX ?_|refine ZxK ?_
    |(with_reducible refine ZE8 ?_);first|refine ZxI h (λh=>?_) (λh=>?_)|refine ZBy h (λh=>?_) (λh=>?_)
    |(with_reducible refine ZAL ?_);(refine⟨λL=>?_,?_⟩)<;>try subst L
    |(with_reducible refine ZFa ?_);first|with_reducible refine Ziu h (λx H h=>?_)|refine Zlh (by assumption) ?_|with_reducible refine pG h (λg h=>?_)|with_reducible refine pA h (λx m H Z h=>?_)|with_reducible refine pB h (λx H h=>?_)|refine Ziu h (λx H h=>?_)
    |(with_reducible refine ZE7 ?_);first|with_reducible refine vAt h (λx m H Z h=>?_)|refine Zlc (by assumption) (by assumption) (by assumption) ?_|with_reducible refine pG h (λg h=>?_)|with_reducible refine pA h (λx m H Z h=>?_)|with_reducible refine pB h (λx H h=>?_)|refine vAt h (λx m H Z h=>?_)
    |(with_reducible refine ZAK ?_);first|with_reducible refine Zvi h (λx H h=>?_)|refine ZoA (by assumption) ?_|with_reducible refine pG h (λg h=>?_)|with_reducible refine pA h (λx m H Z h=>?_)|with_reducible refine pB h (λx H h=>?_)|refine Zvi h (λx H h=>?_)
    |with_reducible refine ZE9 ?_
    |(with_reducible refine Zxm ?_);refine ZxJ h k ?_;clear h k;intro I μ v r h k;(repeat rcases v with⟨_,v⟩);(try dsimp only at h)
    |with_reducible refine⟨by assumption,?_⟩
    |with_reducible refine orL ?_
    |with_reducible refine .inr ?_
    |(with_reducible refine ZAN ?_);first|refine⟨?_,True.intro⟩|refine⟨?_,?_⟩
    |refine⟨by kernel_rfl,?_⟩
    |refine⟨by decide,?_⟩
    |with_reducible refine ZBA h (λg h=>?_)
    |intro p
    |exact trivial
    |with_reducible exact Zz5 h
    |(refine pS h (λe=>?_));subst e;(repeat (first|exact k|exact⟨⟨rfl,rfl⟩,k.1 _ rfl⟩|(refine pR k (λe k=>?_));subst e));done
    |refine ZBA h (λg h=>?_)
    |refine⟨by assumption,?_⟩
    |with_reducible refine pG h (λg h=>?_)|with_reducible refine pA h (λx m H Z h=>?_)|with_reducible refine pB h (λx H h=>?_)
    |refine pG h (λg h=>?_)
    |fail
theorem ZNt (s:Sq 100 ZEe) (q:Sq 101 c171) (t:Sq 102 ZEf) (u:Sq 69 c94) (Q:Sq 103 ZEg):Sq 41 c175:=by
 refine HK Zy (Zb s (Zb q (Zb t (Zb u (Zb Q Zl))))) {} Tryz.func41 ?_;rintro⟨a0,a1,A,b,j,⟨⟩⟩ K ⟨r,h,k⟩
 change ZJt a0 a1 A b j=some r at h
 unfold ZJt at h
 conv=>whnf
 refine Ziu h (λc d h=>?_)
 conv=>whnf
 refine ZxK ?_;refine Zsh h (λh=>?_) (λh=>?_)
 conv=>whnf
 refine Ziu h (λi l h=>?_)
 conv=>whnf
 refine ZCX ?_;refine ZxI h (λh=>?_) (λh=>?_)
 conv=>whnf
 refine Ziu h (λI m h=>?_)
 conv=>whnf
 refine ZxK ?_;refine ZxI h (λh=>?_) (λh=>?_)
 conv=>whnf
 refine Ziu h (λR e h=>?_)
 conv=>whnf
 refine Ziu h (λa f h=>?_)
 conv=>whnf
 refine ZxK ?_;refine Zsh h (λh=>?_) (λh=>?_)
 conv=>whnf
 refine Ziu h (λw g h=>?_)
 conv=>whnf
 refine Ziu h (λW n h=>?_)
 conv=>whnf
 refine Ziu h (λH o h=>?_)
 conv=>whnf
 refine ZBz h (λh=>?_) (λh=>?_)
 conv=>whnf
 cases h;exact k
 conv=>whnf
 refine ZBA h (λp h=>?_)
 conv=>whnf
 refine Zsh h (λh=>?_) (λh=>?_)
 conv=>whnf
 cases h;exact k
 conv=>whnf
 cases h;exact k
 conv=>whnf
 cases h;exact k
 conv=>whnf
 cases h;exact k
 conv=>whnf
 cases h;exact k
 conv=>whnf
 cases h;exact k
theorem ZNu (q:Sq 256 ZEh):Sq 189 ZEi:=by
 refine HK Zy (Zb q Zl) {draws:=[(1,[],.u 0 9 (.alt 9 (.o [10,11] .done) .done))]} Tryz.func189 ?_;rintro⟨w0,e,t,⟨⟩⟩ K ⟨r,h,k⟩
 change ZJi w0 e t=some r at h
 unfold ZJi at h
 conv=>whnf
 refine⟨by kernel_rfl,?_⟩
 conv=>whnf
 refine ZBA h (λb h=>?_)
 conv=>whnf
 refine ZBA h (λc h=>?_)
 conv=>whnf
 refine⟨λl=>?_,λl=>?_,trivial⟩;have l:e=(0:Int):=l;simp only[l,Uk,Int.reduceEq,Uj]at h
 conv=>whnf
 refine Ziu h (λm H h=>?_)
 conv=>whnf
 refine⟨trivial,?_⟩
 conv=>whnf
 cases h;exact k;have l:e=(1:Int):=l;simp only[l,Uk,Int.reduceEq,Uj]at h
 conv=>whnf
 refine Ziu h (λm a h=>?_)
 conv=>whnf
 refine⟨trivial,?_⟩
 conv=>whnf
 cases h;exact k
theorem w_laws_FnSetupChecks (C:Sq 5 c0) (Q:Sq 14 c28) (t:Sq 15 c193) (v:Sq 16 ZMC) (w:Sq 7 ZMD) (y:Sq 17 ZEm) (A:Sq 18 ZMK):Sq 4 ZJn:=by
 refine HK Zy (Zb C (Zb Q (Zb t (Zb v (Zb w (Zb y (Zb A Zl))))))) {loops:=[(0,[.reg 17 (.dat Iq)])],draws:=[(18,[],.u 0 9 .done)]} Tryz.func4 ?_;rintro⟨a0,⟨⟩⟩ K ⟨r,h,k⟩
 change ZIK a0=some r at h
 unfold ZIK at h
 conv=>whnf
 refine Ziu h (λB m h=>?_)
 conv=>whnf
 refine ZxI h (λh=>?_) (λh=>?_)
 conv=>whnf
 cases h;exact k
 conv=>whnf
 refine Ziu h (λDrawSetupChecks0 n h=>?_)
 conv=>whnf
 intro F
 conv=>whnf
 intro i
 conv=>whnf
 intro j
 conv=>whnf
 intro l
 conv=>whnf
 refine Ziu h (λSetupChecks0 o h=>?_)
 conv=>whnf
 refine Ziu h (λSetupChecks1 p h=>?_)
 conv=>whnf
 refine ZCX ?_;refine Zsh h (λh=>?_) (λh=>?_)
 conv=>whnf
 refine ZxK ?_;refine Zsh h (λh=>?_) (λh=>?_)
 conv=>whnf
 refine ZxK ?_;refine Zsh h (λh=>?_) (λh=>?_)
 conv=>whnf
 refine Ziu h (λSetupTiming0 q h=>?_)
 conv=>whnf
 refine Ziu h (λRelationOf0 s h=>?_)
 conv=>whnf
 refine Ziu h (λAllChecks0 g h=>?_)
 conv=>whnf
 refine ZCX ?_;refine Zsh h (λh=>?_) (λh=>?_)
 conv=>whnf
 refine ZxK ?_;refine Zsh h (λh=>?_) (λh=>?_)
 conv=>whnf
 refine ZCW h ?_;rintro I11 D ⟨v0,⟨⟩⟩ z h f H
 change ZIt SetupChecks0 AllChecks0 v0=some z at h
 unfold ZIt at h
 conv=>whnf
 refine Zsh h (λh=>?_) (λh=>?_)
 conv=>whnf
 refine⟨by kernel_rfl,?_⟩
 conv=>whnf
 refine vAt h (λX a b x h=>?_)
 conv=>whnf
 refine⟨by kernel_rfl,?_⟩
 conv=>whnf
 refine⟨a,b,ZoA x ?_⟩
 conv=>whnf
 refine vAt h (λE c d e h=>?_)
 conv=>whnf
 refine⟨by kernel_rfl,?_⟩
 conv=>whnf
 refine⟨c,d,ZoA e ?_⟩
 conv=>whnf
 refine⟨trivial,?_⟩
 conv=>whnf
 refine ZxK ?_;refine ZxI h (λh=>?_) (λh=>?_)
 conv=>whnf
 cases h;exact⟨⟨rfl,rfl⟩,f _ rfl⟩
 conv=>whnf
 cases h;obtain rfl:=H _ rfl;exact k
 conv=>whnf
 cases h;obtain rfl:=H _ rfl;exact k
 conv=>whnf
 cases h;exact k
 conv=>whnf
 cases h;exact k
 conv=>whnf
 cases h;exact k
 conv=>whnf
 cases h;exact k
 conv=>whnf
 cases h;exact k
end Go.Proofs.YtjkccpcebpeadaaGreatDoor
