/-
  The functions keep their contracts, if what they call does. Printed by program.
-/
import Derived.Test.YtjkccpcebpeadaaGreatDoorM
import Derived.KernelRfl
namespace Go.Proofs.YtjkccpcebpeadaaGreatDoor
open Go Go.Sx
set_option maxRecDepth 100000
set_option maxHeartbeats 100000000
set_option linter.unusedVariables false
set_option linter.unusedSimpArgs false
structure Ws0:Prop where
 w153:Sq 147 c152->Sq 233 ZD7
 w152:Sq 147 c152
 w83:Sq 156 c83
 w90:Sq 160 c89->Sq 78 c90
 w236:Sq 30 c82->Sq 31 c91->Sq 32 ZC7->Sq 10 c236
 w59:Sq 309 c55->Sq 310 c58->Sq 272 c59
 w63:Sq 310 c62->Sq 292 c63
 w53:Sq 308 c31->Sq 312 c53
 w74:Sq 220 c68->Sq 46 c29->Sq 221 c73->Sq 150 c74
 w86:Sq 37 c79->Sq 158 c86
 w65:Sq 166 c30->Sq 271 c35->Sq 272 c59->Sq 46 c29->Sq 273 c64->Sq 219 c65
 w115:Sq 85 ZC5->Sq 47 ZC6->Sq 46 c29->Sq 205 c34->Sq 142 ZDQ
 w117:Sq 30 c82->Sq 31 c91->Sq 65 c116->Sq 28 c117
 w81:Sq 76 c37->Sq 46 c29->Sq 154 c80->Sq 155 c41->Sq 74 c81
 w245:Sq 33 ZEO->Sq 34 c168->Sq 11 ZEP
 w158:Sq 248 c156->Sq 249 c157->Sq 182 ZDa
 w112:Sq 167 ZDP
 w49:Sq 337 c48->Sq 327 c49
 w38:Sq 46 c29->Sq 225 c38
 w139:Sq 69 c94->Sq 68 c139
 w130:Sq 226 ZDX->Sq 81 c130
 w148:Sq 240 ZD5->Sq 81 c148
 w124:Sq 81 ZDU->Sq 112 c124
 w122:Sq 194 ZDT
 w131:Sq 81 c130->Sq 163 c131
 w125:Sq 109 Zzq->Sq 81 ZDR->Sq 111 ZDS->Sq 112 c124->Sq 49 ZBX
 w43:Sq 76 c37->Sq 46 c29->Sq 155 c41->Sq 172 c42->Sq 349 c43
 w36:Sq 179 c36
 w30:Sq 46 c29->Sq 236 Zjy->Sq 237 Zgg->Sq 166 c30
 w237:Sq 168 ZEH
 w92:Sq 133 c92
 w240:Sq 171 ZEK
 w37:Sq 76 c37
 w169:Sq 28 c117->Sq 47 ZC6->Sq 46 c29->Sq 31 c91->Sq 32 ZC7->Sq 48 c138->Sq 29 c143->Sq 49 ZBX->Sq 34 c168->Sq 22 ZEd
 w137:Sq 79 ZDV->Sq 80 ZDY->Sq 81 ZD2->Sq 84 Znq->Sq 32 ZC7
 w135:Sq 83 ZD0->Sq 82 ZD1
 w161:Sq 242 ZBY->Sq 286 ZC9->Sq 182 ZDa->Sq 249 c157->Sq 288 c159->Sq 287 c160->Sq 241 ZD9
 w98:Sq 36 c97->Sq 46 c29->Sq 137 c98
 w144:Sq 109 Zzq->Sq 89 ZD4
 w118:Sq 36 c97->Sq 109 Zzq
 w164:Sq 242 ZBY->Sq 286 ZC9->Sq 182 ZDa->Sq 289 ZEa->Sq 243 c164
 w29:Sq 46 c29
 w246:Sq 35 ZEQ
 w58:Sq 330 c57->Sq 310 c58
 w111:Sq 207 ZDN->Sq 139 ZDO
 w77:Sq 224 c76->Sq 152 c77
 w61:Sq 320 c60->Sq 330 c61
 w100:Sq 136 c99->Sq 206 ZDH
 w141:Sq 144 ZD3->Sq 143 c141
 w76:Sq 153 c75->Sq 224 c76
 w121:Sq 111 ZDS
 w154:Sq 321 c154
 w28:Sq 19 c1->Sq 20 c27->Sq 21 c2->Sq 6 c28
 w184:Sq 113 c182->Sq 115 c14->Sq 114 c183->Sq 50 ZBF
 w179:Sq 261 ZEj->Sq 195 ZEk
 w192:Sq 50 ZBF->Sq 51 c25->Sq 52 ZEn->Sq 53 c13->Sq 54 ZEq->Sq 55 ZEr->Sq 23 ZEs
 w2:Sq 21 c2
 w5:Sq 346 c4->Sq 21 c2->Sq 334 c5
 w220:Sq 254 c218->Sq 255 ZBI->Sq 187 ZDg
 w177:Sq 300 ZEi
 w3:Sq 296 c3
 w175:Sq 335 ZEg->Sq 323 c175
 w181:Sq 198 c20->Sq 197 ZEm
 w180:Sq 24 c21->Sq 196 ZEl
 w15:Sq 259 c15
 w226:Sq 326 c226
 w223:Sq 325 c222->Sq 255 ZBI->Sq 302 ZEB
 w203:Sq 131 c201->Sq 132 ZEu->Sq 61 c203
 w224:Sq 304 ZEC
 w221:Sq 53 c13->Sq 303 ZDh
 w228:Sq 301 ZDf->Sq 187 ZDg->Sq 303 ZDh->Sq 305 c227->Sq 263 c228
 w213:Sq 50 ZBF->Sq 118 ZDb->Sq 121 c208->Sq 122 c210->Sq 123 c212->Sq 56 c213
 w214:Sq 128 ZEz
 w232:Sq 60 ZBH->Sq 128 ZEz->Sq 129 ZEF->Sq 130 ZDd->Sq 58 c232
 w187:Sq 53 c13->Sq 199 ZEo
 w26:Sq 107 c18->Sq 21 c2->Sq 53 c13->Sq 108 c19->Sq 51 c25->Sq 45 c26
set_option maxHeartbeats 100000000 in
theorem ws0:Ws0:=by
 refine ⟨(λq=>Hw Zy (Zb q Zl) {} Tryz.func233 ?_),
 (Hw Zy Zl {} Tryz.func147 ?_),
 (Hw Zy Zl {} Tryz.func156 ?_),
 (λq=>Hw Zy (Zb q Zl) {loops:=[(0,[.reg 6 (.own (.ol 2 (.flat Iq))),.reg 19 (.dat Iq)])]} Tryz.func78 ?_),
 (λQ b q=>Hw Zy (Zb Q (Zb b (Zb q Zl))) {} Tryz.func10 ?_),
 (λQ q=>Hw Zy (Zb Q (Zb q Zl)) {loops:=[(0,[.reg 8 (.dat Iq)])]} Tryz.func272 ?_),
 (λq=>Hw Zy (Zb q Zl) {} Tryz.func292 ?_),
 (λq=>Hw Zy (Zb q Zl) {} Tryz.func312 ?_),
 (λQ b q=>Hw Zy (Zb Q (Zb b (Zb q Zl))) {draws:=[(1,[],.u 0 4 (.alt 4 (.op 5 (.alt 6 (.u 7 18 (.alt 25 (.o [26,27,28] .done) .done)) .done)) .done))]} Tryz.func150 ?_),
 (λq=>Hw Zy (Zb q Zl) {loops:=[(0,[.reg 5 (.own (.ol 2 (.flat Iq))),.reg 11 (.dat Iq)])]} Tryz.func158 ?_),
 (λc b Q f q=>Hw Zy (Zb c (Zb b (Zb Q (Zb f (Zb q Zl))))) {} Tryz.func219 ?_),
 (λQ q c b=>Hw Zy (Zb Q (Zb q (Zb c (Zb b Zl)))) {loops:=[(0,[.reg 3 (.own (.ol 9 (.flat (.str)))),.reg 8 (.dat Iq)])]} Tryz.func142 ?_),
 (λQ b q=>Hw Zy (Zb Q (Zb b (Zb q Zl))) {draws:=[(1,[],.op 0 (.alt 1 (.o [2,3,5] (.a [4,6] (.o [7,8] .done))) .done))]} Tryz.func28 ?_),
 (λq c Q b=>Hw Zy (Zb q (Zb c (Zb Q (Zb b Zl)))) {} Tryz.func74 ?_),
 (λQ q=>Hw Zy (Zb Q (Zb q Zl)) {} Tryz.func11 ?_),
 (λq Q=>Hw Zy (Zb q (Zb Q Zl)) {loops:=[(0,[.reg 13 (.dat Iq),.reg 34 (.dat Iq)]),(2,[.reg 13 (.dat Iq),.reg 40 (.dat Iq)])],draws:=[(10,[],.u 0 22 .done)]} Tryz.func182 ?_),
 (Hw Zy Zl {} Tryz.func167 ?_),
 (λq=>Hw Zy (Zb q Zl) {} Tryz.func327 ?_),
 (λq=>Hw Zy (Zb q Zl) {} Tryz.func225 ?_),
 (λq=>Hw Zy (Zb q Zl) {loops:=[(0,[.reg 7 (.own (.ol 149 (.flat (Xv)))),.reg 19 (.dat Iq)])],draws:=[(1,[],.u 0 6 (.alt 6 (.alt 7 (.a [8,9,10] .done) (.a [8,7,9,10] .done)) (.alt 7 (.alt 6 (.a [8,9,10] .done) (.a [8,6,9,10] .done)) (.alt 8 (.alt 6 (.a [7,9,10] .done) (.a [7,6,9,10] .done)) .done))))]} Tryz.func68 ?_),
 (λq=>Hw Zy (Zb q Zl) {loops:=[(0,[.reg 5 (.own (.ol 2 (.flat Iq))),.reg 16 (.dat Iq)])]} Tryz.func81 ?_),
 (λq=>Hw Zy (Zb q Zl) {loops:=[(0,[.reg 5 (.own (.ol 2 (.flat Iq))),.reg 16 (.dat Iq)])]} Tryz.func81 ?_),
 (λq=>Hw Zy (Zb q Zl) {} Tryz.func112 ?_),
 (Hw Zy Zl {} Tryz.func194 ?_),
 (λq=>Hw Zy (Zb q Zl) {} Tryz.func163 ?_),
 (λb q Q c=>Hw Zy (Zb b (Zb q (Zb Q (Zb c Zl)))) {loops:=[(0,[.reg 20 (.dat Iq),.ent 0 (nat_lit 3) (.flat Zsa.ety)]),(2,[.reg 7 (.own (.ol 2 (.flat Iq))),.reg 43 (.dat Iq),.ent 0 (nat_lit 3) (.flat Zsa.ety)]),(4,[.reg 60 (.dat Iq),.ent 0 (nat_lit 3) (.flat Zsa.ety)])]} Tryz.func49 ?_),
 (λq c b Q=>Hw Zy (Zb q (Zb c (Zb b (Zb Q Zl)))) {} Tryz.func349 ?_),
 (Hw Zy Zl {} Tryz.func179 ?_),
 (λb Q q=>Hw Zy (Zb b (Zb Q (Zb q Zl))) {} Tryz.func166 ?_),
 (Hw Zy Zl {} Tryz.func168 ?_),
 (Hw Zy Zl {} Tryz.func133 ?_),
 (Hw Zy Zl {} Tryz.func171 ?_),
 (Hw Zy Zl {} Tryz.func76 ?_),
 (λj q p m Q c i f b=>Hw Zy (Zb j (Zb q (Zb p (Zb m (Zb Q (Zb c (Zb i (Zb f (Zb b Zl))))))))) {draws:=[(6,[],.o [0,1] (.u 4 6 (.op 11 (.a [2,3,10] (.op 12 (.alt 13 (.op 14 .done) .done)))))),(10,[],.u 0 14 (.alt 14 (.u 15 5 (.alt 20 (.op 21 .done) .done)) .done))]} Tryz.func22 ?_),
 (λQ b q c=>Hw Zy (Zb Q (Zb b (Zb q (Zb c (Zwv (Zzx Zcl Zl mixed {loops:=[(0,[.reg 23 (.dat Iq),.ent 0 (nat_lit 4) (.flat Zs7.ety)]),(2,[.reg 35 (.dat Iq)])]} Tryz.func48 (by kernel_rfl) (by kernel_rfl)) Zl))))) {loops:=[(0,[.reg 4 (.own (.ol 2 (.flat Iq))),.ent 0 (nat_lit 4) (.flat Zs7.ety)])]} Tryz.func32 ?_),
 (λq=>Hw Zy (Zb q Zl) {} Tryz.func82 ?_),
 (λb c Q f q i=>Hw Zy (Zb b (Zb c (Zb Q (Zb f (Zb q (Zb i Zl)))))) {draws:=[(5,[],.o [0,1,4,5,6] (.u 9 9 (.alt 2 (.o [3,7,8] (.alt 18 (.op 19 .done) .done)) .done))),(6,[],.u 0 12 (.alt 12 (.op 13 .done) .done))]} Tryz.func241 ?_),
 (λq Q=>Hw Zy (Zb q (Zb Q Zl)) {} Tryz.func137 ?_),
 (λq=>Hw Zy (Zb q Zl) {draws:=[(2,[],.o [0,2,4] (.alt 1 (.alt 3 (.alt 5 (.op 6 (.d 7)) .done) (.a [5,3] (.op 6 (.d 7)))) (.alt 3 (.alt 1 (.alt 5 (.op 6 (.d 7)) .done) (.a [5,1] (.op 6 (.d 7)))) (.alt 5 (.alt 1 (.alt 3 (.op 6 (.d 7)) .done) (.a [3,1] (.op 6 (.d 7)))) .done))))]} Tryz.func89 ?_),
 (λq=>Hw Zy (Zb q Zl) {} Tryz.func109 ?_),
 (λQ b q c=>Hw Zy (Zb Q (Zb b (Zb q (Zb c Zl)))) {draws:=[(4,[],.o [0,1,4,5,6] (.u 9 9 (.alt 2 (.o [3,7,8] (.alt 18 (.o [19,20] .done) .done)) .done))),(5,[],.u 0 13 (.alt 13 (.o [14,15] .done) .done))]} Tryz.func243 ?_),
 (Hw Zy Zl {} Tryz.func46 ?_),
 (Hw Zy Zl {loops:=[(0,[.reg 5 (.dat Iq)])],draws:=[(6,[],.u 0 9 .done)]} Tryz.func35 ?_),
 (λq=>Hw Zy (Zb q Zl) {} Tryz.func310 ?_),
 (λq=>Hw Zy (Zb q Zl) {} Tryz.func139 ?_),
 (λq=>Hw Zy (Zb q Zl) {} Tryz.func152 ?_),
 (λq=>Hw Zy (Zb q Zl) {loops:=[(0,[.reg 8 (.dat Iq)])]} Tryz.func330 ?_),
 (λq=>Hw Zy (Zb q Zl) {loops:=[(0,[.reg 8 (.dat Iq)])]} Tryz.func206 ?_),
 (λq=>Hw Zy (Zb q Zl) {loops:=[(0,[.reg 8 (.dat Iq)])]} Tryz.func143 ?_),
 (λq=>Hw Zy (Zb q Zl) {loops:=[(0,[.reg 8 (.dat Iq)])]} Tryz.func224 ?_),
 (Hw Zy Zl {loops:=[(0,[.reg 8 (.dat Iq)])]} Tryz.func111 ?_),
 (Hw Zy Zl {} Tryz.func321 ?_),
 (λQ q b=>Hw Zcl (Zb Q (Zb q (Zb b Zl))) {draws:=[(3,[],.u 2 5 (.op 8 (.ld 0 (.alt 1 (.a [7,9] (.o [10,11] (.a [12,13] (.op 14 .done)))) (.alt 7 (.alt 1 (.alt 9 (.o [10,11] (.a [12,13] (.op 14 .done))) .done) (.alt 9 (.o [10,11] (.alt 1 (.a [12,13] (.op 14 .done)) (.a [12,1,13] (.op 14 .done)))) .done)) .done)))))]} Tryz.func6 ?_),
 (λq Q b=>Hw Zy (Zb q (Zb Q (Zb b Zl))) {loops:=[(0,[.reg 3 (.dat Iq)])],draws:=[(6,[],.u 0 8 (.alt 8 (.op 9 (.alt 10 (.op 11 .done) .done)) .done))]} Tryz.func50 ?_),
 (λq=>Hw Zy (Zb q Zl) {loops:=[(0,[.reg 3 (.dat Iq)]),(2,[.reg 4 (.dat Iq)])],draws:=[(9,[],.u 0 13 .done)]} Tryz.func195 ?_),
 (λi f b c Q q=>Hw Zy (Zb i (Zb f (Zb b (Zb c (Zb Q (Zb q Zl)))))) {loops:=[(0,[.reg 5 (.dat Iq)]),(2,[.reg 6 (.dat Iq)])],draws:=[(6,[],.u 0 8 (.alt 8 (.o [9,10] .done) .done)),(11,[],.u 0 6 (.alt 6 (.op 7 .done) .done))]} Tryz.func23 ?_),
 (Hw Zy Zl {draws:=[(3,[],.u 0 10 .done),(4,[],.u 0 10 (.alt 10 (.op 11 .done) .done))]} Tryz.func21 ?_),
 (λq Q=>Hw Zy (Zb q (Zb Q Zl)) {loops:=[(0,[.reg 7 (.own (.ol 2 (.flat Iq))),.reg 9 (.dat Iq),.cell 1000 0 (.sl (.int .u8)),.cell 1000 1 Iq,.cell 1000 2 Iq])],draws:=[(10,[],.u 0 5 (.op 6 (.alt 5 (.alt 7 (.o [8,9,10] .done) .done) (.a [7,5] (.o [8,9,10] .done))))),(12,[],.u 0 6 (.op 7 (.alt 6 (.alt 8 (.o [9,10,11] .done) .done) (.a [8,6] (.o [9,10,11] .done)))))]} Tryz.func334 ?_),
 (λq Q=>Hw Zy (Zb q (Zb Q Zl)) {loops:=[(0,[.reg 16 (.dat Iq),.reg 17 (.dat Iq)]),(2,[.reg 16 (.dat Iq),.reg 18 (.dat Iq)])]} Tryz.func187 ?_),
 (Hw Zy Zl {loops:=[(0,[.reg 4 (.dat Iq),.ent 1 (nat_lit 2) (.flat Zza.ety)])]} Tryz.func300 ?_),
 (Hw Zy Zl {loops:=[(0,[.reg 5 (.dat (.bool)),.reg 6 (.dat (.bool)),.reg 8 (.dat Iq)])],draws:=[(7,[],.u 0 17 .done),(8,[],.u 0 17 .done)]} Tryz.func296 ?_),
 (λq=>Hw Zy (Zb q Zl) {loops:=[(0,[.reg 5 (.dat Iq)])]} Tryz.func323 ?_),
 (λq=>Hw Zy (Zb q Zl) {loops:=[(0,[.reg 3 (.dat Iq)]),(2,[.reg 4 (.dat Iq)])],draws:=[(9,[],.u 0 9 .done)]} Tryz.func197 ?_),
 (λq=>Hw Zy (Zb q Zl) {loops:=[(0,[.reg 6 (.dat Iq)]),(2,[.reg 8 (.dat Iq)]),(4,[.reg 9 (.dat Iq)])],draws:=[(6,[],.u 0 6 (.alt 6 (.u 7 15 .done) .done))]} Tryz.func196 ?_),
 (Hw Zy Zl {} Tryz.func259 ?_),
 (Hw Zy Zl {loops:=[(0,[.reg 5 (.dat Iq),.reg 6 (.dat Iq)])]} Tryz.func326 ?_),
 (λq Q=>Hw Zy (Zb q (Zb Q Zl)) {loops:=[(0,[.reg 8 (.own (.ol 2 (.flat Iq))),.reg 9 (.dat Iq)])]} Tryz.func302 ?_),
 (λq Q=>Hw Zcl (Zb q (Zb Q Zl)) {loops:=[(0,[.reg 7 (.own (.ol 52 (.ol 2 (.flat Iq)))),.reg 9 (.dat Iq),.ent 1 (nat_lit 4) (.flat Zs7.ety)]),(2,[.reg 12 (.own (.ol 2 (.flat Iq))),.reg 13 (.dat Iq),.ent 1 (nat_lit 4) (.flat Zs7.ety)])]} Tryz.func61 ?_),
 (Hw Zy Zl {} Tryz.func304 ?_),
 (λq=>Hw Zy (Zb q Zl) {draws:=[(1,[],.o [0,1,3,4,5] (.alt 2 (.u 6 4 .done) .done))]} Tryz.func303 ?_),
 (λb q c Q=>Hw Zy (Zb b (Zb q (Zb c (Zb Q Zl)))) {draws:=[(4,[],.o [0,1,2] (.u 4 4 (.a [3,8] (.o [9,10] .done))))]} Tryz.func263 ?_),
 (λc b f Q q=>Hw Zy (Zb c (Zb b (Zb f (Zb Q (Zb q Zl))))) {} Tryz.func56 ?_),
 (Hw Zy Zl {draws:=[(1,[],.o [0,2,4] (.alt 1 (.alt 3 (.alt 5 (.op 6 (.d 7)) .done) (.a [5,3] (.op 6 (.d 7)))) (.alt 3 (.alt 1 (.alt 5 (.op 6 (.d 7)) .done) (.a [5,1] (.op 6 (.d 7)))) (.alt 5 (.alt 1 (.alt 3 (.op 6 (.d 7)) .done) (.a [3,1] (.op 6 (.d 7)))) .done))))]} Tryz.func128 ?_),
 (λq Q b c=>Hw Zy (Zb q (Zb Q (Zb b (Zb c Zl)))) {loops:=[(0,[.reg 15 (.dat Iq),.cello 2 0 (.ol 4 (.flat (.bool))),.cello 2 1 (.ol 120 (.flat (Zag))),.cello 2 2 (.ol 120 (.flat (Zag))),.ent 3 (nat_lit 4) (.flat Ty.bool),.ent 4 (nat_lit 120) (.flat Zag),.ent 5 (nat_lit 120) (.flat Zag)])]} Tryz.func58 ?_),
 (λq=>Hw Zy (Zb q Zl) {} Tryz.func199 ?_),
 (λb c q f Q=>Hw Zcl (Zb b (Zb c (Zb q (Zb f (Zb Q Zl))))) {loops:=[(0,[.reg 9 (.dat Iq),.cell 1000 0 (.sl (.int .u8)),.cell 1000 1 Iq,.cell 1000 2 Iq,.cello 1008 0 (.ol 114 (.flat (ZbL)))]),(2,[.reg 11 (.own (.ol 122 (.flat (Jz)))),.reg 12 (.own (.ol 122 (.flat (Jz)))),.reg 13 (.dat Iq),.cell 1000 0 (.sl (.int .u8)),.cell 1000 1 Iq,.cell 1000 2 Iq]),(5,[.reg 17 (.own (.ol 124 (Zja))),.reg 18 (.dat Iq),.cell 1000 0 (.sl (.int .u8)),.cell 1000 1 Iq,.cell 1000 2 Iq])],draws:=[(17,[],.o [1,2] (.ld 4 (.alt 0 (.alt 3 (.a [5,6] (.op 7 (.d 8))) (.a [5,3,6] (.op 7 (.d 8)))) (.a [5,0,3,6] (.op 7 (.d 8)))))),(48,[],.op 0 (.alt 1 (.a [2,3] .done) (.a [2,1,3] .done)))]} Tryz.func45 ?_)⟩
 all_goals
  intro a;repeat rcases a with⟨_,a⟩
  rintro K ⟨r,h,k⟩;repeat'
    conv=>whnf
    first
    |with_reducible refine Zz8 ?_
    |with_reducible refine Zlc (by assumption) (by assumption) (by assumption) ?_
    |with_reducible refine ZoA (by assumption) ?_
    |with_reducible refine Zlh (by assumption) ?_
    |(with_reducible refine shD ?_);first|refine Zsh h (λh=>?_) (λh=>?_)|refine ZBz h (λh=>?_) (λh=>?_)
    |(with_reducible refine ZAM ?_);first|refine ZCX ?_|refine ZxK ?_
    |(with_reducible refine ZE8 ?_);first|refine ZxI h (λh=>?_) (λh=>?_)|refine ZBy h (λh=>?_) (λh=>?_)
    |(with_reducible refine ZAL ?_);(refine⟨λL=>?_,?_⟩)<;>try subst L
    |(with_reducible refine ZFa ?_);first|with_reducible refine Ziu h (λx H h=>?_)|refine Zlh (by assumption) ?_|with_reducible refine pG h (λg h=>?_)|with_reducible refine pA h (λx n H l h=>?_)|with_reducible refine pB h (λx H h=>?_)|refine Ziu h (λx H h=>?_)
    |(with_reducible refine ZE7 ?_);first|with_reducible refine vAt h (λx n H l h=>?_)|refine Zlc (by assumption) (by assumption) (by assumption) ?_|with_reducible refine pG h (λg h=>?_)|with_reducible refine pA h (λx n H l h=>?_)|with_reducible refine pB h (λx H h=>?_)|refine vAt h (λx n H l h=>?_)
    |(with_reducible refine ZAK ?_);first|with_reducible refine Zvi h (λx H h=>?_)|refine ZoA (by assumption) ?_|with_reducible refine pG h (λg h=>?_)|with_reducible refine pA h (λx n H l h=>?_)|with_reducible refine pB h (λx H h=>?_)|refine Zvi h (λx H h=>?_)
    |with_reducible refine ZE9 ?_
    |(with_reducible refine Zxm ?_);refine ZxJ h k ?_;clear h k;intro I μ v r h k;(repeat rcases v with⟨_,v⟩);(try dsimp only at h)
    |with_reducible refine⟨by assumption,?_⟩
    |with_reducible refine orL ?_
    |with_reducible refine .inr ?_
    |(with_reducible refine ZAN ?_);first|refine⟨?_,True.intro⟩|refine⟨?_,?_⟩
    |refine⟨by kernel_rfl,?_⟩
    |refine⟨by decide,?_⟩
    |with_reducible refine ZBA h (λg h=>?_)
    |intro F
    |exact trivial
    |with_reducible exact Zz5 h
    |(refine pS h (λe=>?_));subst e;(repeat (first|exact k|exact⟨⟨rfl,rfl⟩,k.1 _ rfl⟩|(refine pR k (λe k=>?_));subst e));done
    |refine ZBA h (λg h=>?_)
    |refine⟨by assumption,?_⟩
    |with_reducible refine pG h (λg h=>?_)|with_reducible refine pA h (λx n H l h=>?_)|with_reducible refine pB h (λx H h=>?_)
    |refine pG h (λg h=>?_)
    |fail
theorem ZIo:Sq 164 ZDZ:=by
 refine Hw Zy Zl {loops:=[(0,[.reg 8 (.dat Iq)])]} Tryz.func164 ?_;rintro⟨s0,v0,⟨⟩⟩ K ⟨r,h,k⟩
 change Xz s0 v0=some r at h
 unfold Xz at h
 conv=>whnf
 refine ZCW h ?_;rintro I0 c ⟨v1,⟨⟩⟩ z h A H
 change Xg s0 v0 v1=some z at h
 unfold Xg at h
 conv=>whnf
 refine Zsh h (λh=>?_) (λh=>?_)
 conv=>whnf
 refine vAt h (λX a b x h=>?_)
 conv=>whnf
 refine Zsh h (λh=>?_) (λh=>?_)
 conv=>whnf
 cases h;obtain rfl:=H _ rfl;exact k
 conv=>whnf
 cases h;exact⟨⟨rfl,rfl⟩,A _ rfl⟩
 conv=>whnf
 cases h;obtain rfl:=H _ rfl;exact k
end Go.Proofs.YtjkccpcebpeadaaGreatDoor
