/-
  The functions keep their contracts, if what they call does. Printed by program.
-/
import Derived.Test.YthkhedimjmkifaaGreatDoorM
import Derived.KernelRfl
namespace Go.Proofs.YthkhedimjmkifaaGreatDoor
open Go Go.Sx
set_option maxRecDepth 100000
set_option maxHeartbeats 3200000
set_option linter.unusedVariables false
set_option linter.unusedSimpArgs false
structure Ws3:Prop where
 w187:Zc Tryz.prog 181 ZBT→Zc Tryz.prog 250 ZC4
 w158:Zc Tryz.prog 362 ZEK
 w153:Zc Tryz.prog 357 ZCS→Zc Tryz.prog 358 ZDx→Zc Tryz.prog 359 ZCE→Zc Tryz.prog 360 c152→Zc Tryz.prog 346 ZAY→Zc Tryz.prog 245 c127→Zc Tryz.prog 343 ZFi
 w185:Zc Tryz.prog 249 ZDD
 w168:Zc Tryz.prog 229 c167→Zc Tryz.prog 245 c127→Zc Tryz.prog 242 c168
 w237:Zc Tryz.prog 230 c236→Zc Tryz.prog 159 ZuU→Zc Tryz.prog 196 ZCF
 w256:Zc Tryz.prog 60 ZCD→Zc Tryz.prog 196 ZCF→Zc Tryz.prog 195 ZEg→Zc Tryz.prog 86 ZCA→Zc Tryz.prog 39 ZCc→Zc Tryz.prog 101 ZCT
 w203:Zc Tryz.prog 255 c201→Zc Tryz.prog 297 ZE2→Zc Tryz.prog 256 c203
 w136:Zc Tryz.prog 245 c127→Zc Tryz.prog 292 ZEN
 w242:Zc Tryz.prog 128 c183→Zc Tryz.prog 208 ZDR
 w141:Zc Tryz.prog 180 ZzS→Zc Tryz.prog 245 c127→Zc Tryz.prog 247 c139→Zc Tryz.prog 259 ZCx→Zc Tryz.prog 378 c141
 w202:Zc Tryz.prog 245 c127→Zc Tryz.prog 297 ZE2
 w212:Zc Tryz.prog 261 c212
 w206:Zc Tryz.prog 254 ZA5→Zc Tryz.prog 247 c139→Zc Tryz.prog 258 ZEC→Zc Tryz.prog 259 ZCx→Zc Tryz.prog 191 c206
 w127:Zc Tryz.prog 245 c127
 w277:Zc Tryz.prog 61 ZDy→Zc Tryz.prog 62 ZEd→Zc Tryz.prog 63 ZDs→Zc Tryz.prog 19 ZDM
 w289:Zc Tryz.prog 33 ZFc→Zc Tryz.prog 41 ZEh
 w261:Zc Tryz.prog 166 ZzO
 w287:Zc Tryz.prog 64 ZCH→Zc Tryz.prog 65 ZDB→Zc Tryz.prog 66 ZDk→Zc Tryz.prog 67 ZDY→Zc Tryz.prog 20 ZES
 w263:Zc Tryz.prog 355 ZEk→Zc Tryz.prog 338 ZEV
 w10:Zc Tryz.prog 156 c2→Zc Tryz.prog 198 c10
 w9:Zc Tryz.prog 102 c8→Zc Tryz.prog 42 c9
 w0:Zc Tryz.prog 307 c0
 w14:Zc Tryz.prog 199 c13→Zc Tryz.prog 105 c14
 w4:Zc Tryz.prog 353 c3→Zc Tryz.prog 336 c4
 w35:Zc Tryz.prog 337 c34→Zc Tryz.prog 311 c35
 w37:Zc Tryz.prog 276 c31→Zc Tryz.prog 277 c36→Zc Tryz.prog 157 c32→Zc Tryz.prog 202 c37
 w43:Zc Tryz.prog 204 c43
 w44:Zc Tryz.prog 204 c43→Zc Tryz.prog 117 c44
 w246:Zc Tryz.prog 211 ZDq
 w183:Zc Tryz.prog 128 c183
 w171:Zc Tryz.prog 326 ZEZ→Zc Tryz.prog 289 c171
 w208:Zc Tryz.prog 190 ZE8→Zc Tryz.prog 257 c208
 w149:Zc Tryz.prog 372 c148→Zc Tryz.prog 371 ZEb
 w72:Zc Tryz.prog 287 c71→Zc Tryz.prog 234 c72
 w126:Zc Tryz.prog 36 c91→Zc Tryz.prog 37 ZEe→Zc Tryz.prog 9 ZDw
 w78:Zc Tryz.prog 172 c63→Zc Tryz.prog 168 c78
 w69:Zc Tryz.prog 172 c63→Zc Tryz.prog 341 c68→Zc Tryz.prog 321 c69
 w70:Zc Tryz.prog 322 c70
 w62:Zc Tryz.prog 237 c62
 w111:Zc Tryz.prog 200 ZEI→Zc Tryz.prog 111 ZFb
 w112:Zc Tryz.prog 201 c107→Zc Tryz.prog 112 ZEQ
 w73:Zc Tryz.prog 172 c63→Zc Tryz.prog 235 c73
 w77:Zc Tryz.prog 94 c76→Zc Tryz.prog 169 c77
 w113:Zc Tryz.prog 201 c107→Zc Tryz.prog 113 ZA2
 w81:Zc Tryz.prog 172 c63→Zc Tryz.prog 171 c81
 w103:Zc Tryz.prog 94 c76→Zc Tryz.prog 223 ZE1
 w104:Zc Tryz.prog 109 ZDX
 w124:Zc Tryz.prog 151 ZDb→Zc Tryz.prog 152 ZCu→Zc Tryz.prog 153 ZDN→Zc Tryz.prog 79 c124
set_option maxHeartbeats 100000000 in
theorem ws3:Ws3:=by
 refine ⟨(fun q0=>Zf Zq (Zd q0 Zk) mixed {loops:=[(0,[.reg 8 (.dat (.int .i64)),.ent 3 (nat_lit 2) (.flat Zvn.ety)])],draws:=[(1,[0,1,0,7,15,0,0,96,0,511,1023],.op 0 (.op 1 (.op 2 (.op 3 (.op 4 (.op 5 (.op 6 (.alt 7 (.alt 8 (.alt 9 (.op 10 (.done)) (.done)) (.done)) (.alt 8 (.alt 7 (.alt 9 (.op 10 (.done)) (.done)) (.done)) (.done)))))))))),(6,[0,0,0,0,8,0,56,120,252,508,0,1024,0,7168,15360,0,0,98304,229376,523264,1048572,2097151,4194303],.op 0 (.op 1 (.op 2 (.op 3 (.op 4 (.op 5 (.op 6 (.op 7 (.op 8 (.op 9 (.op 10 (.op 11 (.op 12 (.op 13 (.op 14 (.op 15 (.op 16 (.op 17 (.op 18 (.op 19 (.op 20 (.op 21 (.alt 22 (.done) (.done))))))))))))))))))))))))]} (fn:=Tryz.f250) Tryz.func250 (by kernel_rfl) (by kernel_rfl) ?_),
 (Zf Zq Zk mixed {} (fn:=Tryz.f362) Tryz.func362 (by kernel_rfl) (by kernel_rfl) ?_),
 (fun q4 q3 q2 q0 q1 q5=>Zf Zq (Zd q4 (Zd q3 (Zd q2 (Zd q0 (Zd q1 (Zd q5 Zk)))))) mixed {draws:=[(2,[0,1,3,7,15,31,63,127,255,511,1023,2047,4095,8191,16383,32767,65535,32767,163839,524287,1048575,2097151,4194303,8388607,16777215,33554431,67108863,134217727,134217727,402653183,1073741823,2147483647,4294967295,8589934591,17179869183,8589934591,42949672959,137438953471,274877906943,549755813887],.op 0 (.op 1 (.op 2 (.op 3 (.op 4 (.op 5 (.op 6 (.op 7 (.op 8 (.op 9 (.op 10 (.op 11 (.alt 12 (.op 13 (.op 14 (.op 15 (.op 16 (.op 17 (.alt 18 (.op 19 (.op 20 (.op 21 (.op 22 (.op 23 (.op 24 (.op 25 (.op 26 (.op 27 (.op 28 (.op 29 (.alt 30 (.op 31 (.op 32 (.op 33 (.op 34 (.op 35 (.op 36 (.op 37 (.op 38 (.op 39 (.done)))))))))) (.done))))))))))))) (.done))))))) (.done)))))))))))))),(3,[0,1,3,7,15,31,63,127,255,511,1023,2047,4095,2047,10239,32767,65535,131071,262143,262143,786431,2097151,4194303,8388607],.op 0 (.op 1 (.alt 2 (.op 3 (.op 4 (.op 5 (.op 6 (.alt 7 (.op 8 (.op 9 (.op 10 (.op 11 (.op 12 (.op 13 (.alt 14 (.op 15 (.op 16 (.op 17 (.op 18 (.op 19 (.op 20 (.alt 21 (.op 22 (.op 23 (.done))) (.done)))))))) (.done)))))))) (.done)))))) (.done))))]} (fn:=Tryz.f343) Tryz.func343 (by kernel_rfl) (by kernel_rfl) ?_),
 (Zf Zq Zk mixed {draws:=[(3,[0,1,0,4,0,16,60,124,252,511,1023,2047,0,4096,16383,32767,65535,131071],.op 0 (.op 1 (.op 2 (.op 3 (.op 4 (.op 5 (.op 6 (.op 7 (.op 8 (.op 9 (.op 10 (.op 11 (.op 12 (.op 13 (.op 14 (.op 15 (.op 16 (.op 17 (.done)))))))))))))))))))]} (fn:=Tryz.f249) Tryz.func249 (by kernel_rfl) (by kernel_rfl) ?_),
 (fun q0 q1=>Zf Zq (Zd q0 (Zd q1 Zk)) mixed {} (fn:=Tryz.f242) Tryz.func242 (by kernel_rfl) (by kernel_rfl) ?_),
 (fun q0 q1=>Zf Zq (Zd q0 (Zd q1 Zk)) mixed {loops:=[(0,[.reg 5 (.own (.ol 2 (.flat (.int .i64)))),.reg 19 (.dat (.int .i64))])]} (fn:=Tryz.f196) Tryz.func196 (by kernel_rfl) (by kernel_rfl) ?_),
 (fun q1 q0 q2 q3 q4=>Zf Xa (Zd q1 (Zd q0 (Zd q2 (Zd q3 (Zd q4 Zk))))) mixed {draws:=[(2,[0,0,3,7,15,31,63,63,255,63,1023,2047,4095],.op 0 (.op 1 (.alt 2 (.alt 3 (.op 4 (.op 5 (.op 6 (.op 7 (.op 9 (.alt 8 (.alt 10 (.op 11 (.op 12 (.done))) (.done)) (.done))))))) (.done)) (.done))))]} (fn:=Tryz.f101) Tryz.func101 (by kernel_rfl) (by kernel_rfl) ?_),
 (fun q0 q1=>Zf Zq (Zd q0 (Zd q1 Zk)) mixed {} (fn:=Tryz.f256) Tryz.func256 (by kernel_rfl) (by kernel_rfl) ?_),
 (fun q0=>Zf Zq (Zd q0 Zk) mixed {} (fn:=Tryz.f292) Tryz.func292 (by kernel_rfl) (by kernel_rfl) ?_),
 (fun q0=>Zf Xa (Zd q0 Zk) mixed {loops:=[(0,[.reg 3 (.own (.ol 341 (Zgw))),.reg 8 (.dat (.int .i64))])],draws:=[(5,[0,0,2,6,0,16,62,0,128,510,1022,2046,4095,8191],.op 0 (.op 1 (.op 2 (.op 4 (.op 5 (.op 7 (.op 8 (.alt 3 (.alt 6 (.alt 9 (.op 10 (.alt 11 (.alt 12 (.op 13 (.done)) (.done)) (.done))) (.done)) (.done)) (.done)))))))))]} (fn:=Tryz.f208) Tryz.func208 (by kernel_rfl) (by kernel_rfl) ?_),
 (fun q0 q3 q2 q1=>Zf Zq (Zd q0 (Zd q3 (Zd q2 (Zd q1 Zk)))) mixed {} (fn:=Tryz.f378) Tryz.func378 (by kernel_rfl) (by kernel_rfl) ?_),
 (fun q0=>Zf Zq (Zd q0 Zk) mixed {} (fn:=Tryz.f297) Tryz.func297 (by kernel_rfl) (by kernel_rfl) ?_),
 (Zf Zq Zk mixed {} (fn:=Tryz.f261) Tryz.func261 (by kernel_rfl) (by kernel_rfl) ?_),
 (fun q0 q2 q3 q1=>Zf Zq (Zd q0 (Zd q2 (Zd q3 (Zd q1 Zk)))) mixed {loops:=[(0,[.reg 15 (.dat (.int .i64))])]} (fn:=Tryz.f191) Tryz.func191 (by kernel_rfl) (by kernel_rfl) ?_),
 (Zf Zq Zk mixed {} (fn:=Tryz.f245) Tryz.func245 (by kernel_rfl) (by kernel_rfl) ?_),
 (fun q0 q1 q2=>Zf Zq (Zd q0 (Zd q1 (Zd q2 Zk))) mixed {} (fn:=Tryz.f19) Tryz.func19 (by kernel_rfl) (by kernel_rfl) ?_),
 (fun q0=>Zf Zq (Zd q0 Zk) mixed {loops:=[(0,[.reg 5 (.dat (.int .i64))])],draws:=[(6,[0,0,3,7,0,0,48,112,255,511],.op 0 (.op 1 (.op 2 (.op 3 (.op 4 (.op 5 (.op 6 (.op 7 (.alt 8 (.op 9 (.done)) (.done))))))))))]} (fn:=Tryz.f41) Tryz.func41 (by kernel_rfl) (by kernel_rfl) ?_),
 (Zf Zq Zk mixed {loops:=[(0,[.reg 5 (.dat (.int .i64))])],draws:=[(6,[0,0,3,7,0,0,48,112,255],.op 0 (.op 1 (.op 2 (.op 3 (.op 4 (.op 5 (.op 6 (.op 7 (.op 8 (.done))))))))))]} (fn:=Tryz.f166) Tryz.func166 (by kernel_rfl) (by kernel_rfl) ?_),
 (fun q3 q1 q0 q2=>Zf Zq (Zd q3 (Zd q1 (Zd q0 (Zd q2 Zk)))) mixed {} (fn:=Tryz.f20) Tryz.func20 (by kernel_rfl) (by kernel_rfl) ?_),
 (fun q0=>Zf Zq (Zd q0 Zk) mixed {loops:=[(0,[.reg 5 (.dat (.int .i64))])],draws:=[(6,[0,0,3,7,0,0,48,112,255,511],.op 0 (.op 1 (.op 2 (.op 3 (.op 4 (.op 5 (.op 6 (.op 7 (.alt 8 (.op 9 (.done)) (.done))))))))))]} (fn:=Tryz.f338) Tryz.func338 (by kernel_rfl) (by kernel_rfl) ?_),
 (fun q0=>Zf Zq (Zd q0 Zk) mixed {} (fn:=Tryz.f198) Tryz.func198 (by kernel_rfl) (by kernel_rfl) ?_),
 (fun q0=>Zf Zq (Zd q0 Zk) mixed {} (fn:=Tryz.f42) Tryz.func42 (by kernel_rfl) (by kernel_rfl) ?_),
 (Zf Zq Zk mixed {} (fn:=Tryz.f307) Tryz.func307 (by kernel_rfl) (by kernel_rfl) ?_),
 (fun q0=>Zf Zq (Zd q0 Zk) mixed {loops:=[(0,[.reg 1 (.dat (.int .i64)),.reg 5 (.dat (.int .i64))])]} (fn:=Tryz.f105) Tryz.func105 (by kernel_rfl) (by kernel_rfl) ?_),
 (fun q0=>Zf Zq (Zd q0 Zk) mixed {loops:=[(0,[.reg 1 (.dat (.int .i64)),.reg 5 (.dat (.int .i64))])]} (fn:=Tryz.f336) Tryz.func336 (by kernel_rfl) (by kernel_rfl) ?_),
 (fun q0=>Zf Xa (Zd q0 Zk) mixed {} (fn:=Tryz.f311) Tryz.func311 (by kernel_rfl) (by kernel_rfl) ?_),
 (fun q1 q2 q0=>Zf Xa (Zd q1 (Zd q2 (Zd q0 Zk))) mixed {} (fn:=Tryz.f202) Tryz.func202 (by kernel_rfl) (by kernel_rfl) ?_),
 (Zf Zq Zk mixed {} (fn:=Tryz.f204) Tryz.func204 (by kernel_rfl) (by kernel_rfl) ?_),
 (fun q0=>Zf Zq (Zd q0 Zk) mixed {loops:=[(0,[.reg 4 (.dat (.int .i64)),.ent 0 (nat_lit 246) (.flat ZAK.ety)])]} (fn:=Tryz.f117) Tryz.func117 (by kernel_rfl) (by kernel_rfl) ?_),
 (Zf Zq Zk mixed {} (fn:=Tryz.f211) Tryz.func211 (by kernel_rfl) (by kernel_rfl) ?_),
 (Zf Zq Zk mixed {} (fn:=Tryz.f128) Tryz.func128 (by kernel_rfl) (by kernel_rfl) ?_),
 (fun q0=>Zf Zq (Zd q0 Zk) mixed {} (fn:=Tryz.f289) Tryz.func289 (by kernel_rfl) (by kernel_rfl) ?_),
 (fun q0=>Zf Zq (Zd q0 Zk) mixed {loops:=[(0,[.reg 8 (.dat (.int .i64))])]} (fn:=Tryz.f257) Tryz.func257 (by kernel_rfl) (by kernel_rfl) ?_),
 (fun q0=>Zf Zq (Zd q0 Zk) mixed {loops:=[(0,[.reg 8 (.dat (.int .i64))])]} (fn:=Tryz.f371) Tryz.func371 (by kernel_rfl) (by kernel_rfl) ?_),
 (fun q0=>Zf Zq (Zd q0 Zk) mixed {loops:=[(0,[.reg 3 (.dat (.int .i64))]),(2,[.reg 4 (.dat (.int .i64))])],draws:=[(9,[0,1,0,7,15,31,0,64,0,448,960,1984,4095],.op 0 (.op 1 (.op 2 (.op 3 (.op 4 (.op 5 (.op 6 (.op 7 (.op 8 (.op 9 (.op 10 (.op 11 (.op 12 (.done))))))))))))))]} (fn:=Tryz.f234) Tryz.func234 (by kernel_rfl) (by kernel_rfl) ?_),
 (fun q1 q0=>Zf Zq (Zd q1 (Zd q0 Zk)) mixed {} (fn:=Tryz.f9) Tryz.func9 (by kernel_rfl) (by kernel_rfl) ?_),
 (fun q0=>Zf Zq (Zd q0 Zk) mixed {loops:=[(0,[.reg 6 (.dat (.int .i64))]),(2,[.reg 7 (.dat (.int .i64))])]} (fn:=Tryz.f168) Tryz.func168 (by kernel_rfl) (by kernel_rfl) ?_),
 (fun q1 q0=>Zf Zq (Zd q1 (Zd q0 Zk)) mixed {} (fn:=Tryz.f321) Tryz.func321 (by kernel_rfl) (by kernel_rfl) ?_),
 (Zf Zq Zk mixed {loops:=[(0,[.reg 4 (.dat (.int .i64)),.ent 1 (nat_lit 2) (.flat Zvn.ety)])]} (fn:=Tryz.f322) Tryz.func322 (by kernel_rfl) (by kernel_rfl) ?_),
 (Zf Zq Zk mixed {loops:=[(0,[.reg 3 (.dat (.int .i64))])]} (fn:=Tryz.f237) Tryz.func237 (by kernel_rfl) (by kernel_rfl) ?_),
 (fun q0=>Zf Xa (Zd q0 Zk) mixed {loops:=[(0,[.reg 4 (.dat (.int .i64)),.cello 1003 0 (.ol 277 (Zoy))])],draws:=[(5,[0,1,0,4,0,28,60,124,252,511,1023,2047],.op 0 (.op 1 (.op 2 (.op 3 (.op 4 (.op 5 (.op 6 (.alt 7 (.alt 8 (.alt 9 (.op 10 (.alt 11 (.done) (.done))) (.done)) (.done)) (.done)))))))))]} (fn:=Tryz.f111) Tryz.func111 (by kernel_rfl) (by kernel_rfl) ?_),
 (fun q0=>Zf Xa (Zd q0 Zk) mixed {loops:=[(0,[.reg 4 (.dat (.int .i64)),.cello 1003 0 (.ol 219 (Zb9))])],draws:=[(1,[0,0,2,7,0,0,32,127,255,0,1023],.op 1 (.op 2 (.op 5 (.ld 6 (.alt 0 (.alt 3 (.alt 4 (.alt 7 (.op 8 (.alt 9 (.alt 10 (.done) (.done)) (.done))) (.alt 9 (.alt 7 (.op 8 (.alt 10 (.done) (.done))) (.done)) (.done))) (.alt 9 (.alt 4 (.alt 7 (.op 8 (.alt 10 (.done) (.done))) (.done)) (.done)) (.done))) (.alt 4 (.alt 3 (.alt 7 (.op 8 (.alt 9 (.alt 10 (.done) (.done)) (.done))) (.alt 9 (.alt 7 (.op 8 (.alt 10 (.done) (.done))) (.done)) (.done))) (.alt 9 (.alt 3 (.alt 7 (.op 8 (.alt 10 (.done) (.done))) (.done)) (.done)) (.done))) (.alt 9 (.alt 3 (.alt 4 (.alt 7 (.op 8 (.alt 10 (.done) (.done))) (.done)) (.done)) (.alt 4 (.alt 3 (.alt 7 (.op 8 (.alt 10 (.done) (.done))) (.done)) (.done)) (.done))) (.done)))) (.alt 4 (.alt 0 (.alt 3 (.alt 7 (.op 8 (.alt 9 (.alt 10 (.done) (.done)) (.done))) (.alt 9 (.alt 7 (.op 8 (.alt 10 (.done) (.done))) (.done)) (.done))) (.alt 9 (.alt 3 (.alt 7 (.op 8 (.alt 10 (.done) (.done))) (.done)) (.done)) (.done))) (.alt 9 (.alt 0 (.alt 3 (.alt 7 (.op 8 (.alt 10 (.done) (.done))) (.done)) (.done)) (.done)) (.done))) (.alt 9 (.alt 0 (.alt 3 (.alt 4 (.alt 7 (.op 8 (.alt 10 (.done) (.done))) (.done)) (.done)) (.alt 4 (.alt 3 (.alt 7 (.op 8 (.alt 10 (.done) (.done))) (.done)) (.done)) (.done))) (.alt 4 (.alt 0 (.alt 3 (.alt 7 (.op 8 (.alt 10 (.done) (.done))) (.done)) (.done)) (.done)) (.done))) (.done))))))))]} (fn:=Tryz.f112) Tryz.func112 (by kernel_rfl) (by kernel_rfl) ?_),
 (fun q0=>Zf Zq (Zd q0 Zk) mixed {loops:=[(0,[.reg 6 (.dat (.int .i64))]),(2,[.reg 8 (.dat (.int .i64))]),(4,[.reg 9 (.dat (.int .i64))])],draws:=[(6,[0,1,0,4,12,28,63,127,255,511,1023,2047,511,4607,511,16895,61951,127487,258559,520703,1048575,2097151],.op 0 (.op 1 (.op 2 (.op 3 (.op 4 (.op 5 (.alt 6 (.op 7 (.op 8 (.op 9 (.op 10 (.op 11 (.op 12 (.op 13 (.op 14 (.op 15 (.op 16 (.op 17 (.op 18 (.op 19 (.op 20 (.op 21 (.done)))))))))))))))) (.done))))))))]} (fn:=Tryz.f235) Tryz.func235 (by kernel_rfl) (by kernel_rfl) ?_),
 (fun q0=>Zf Zq (Zd q0 Zk) mixed {loops:=[(0,[.reg 5 (.own (.ol 2 (.flat (.int .i64)))),.reg 7 (.dat (.int .i64))])]} (fn:=Tryz.f169) Tryz.func169 (by kernel_rfl) (by kernel_rfl) ?_),
 (fun q0=>Zf Zq (Zd q0 Zk) mixed {draws:=[(1,[0,1,3,0,8,31,0,64,255,0,512,2047,4095,8191],.op 0 (.op 1 (.op 3 (.op 4 (.op 6 (.op 7 (.op 9 (.op 10 (.alt 2 (.alt 5 (.alt 8 (.alt 11 (.op 12 (.alt 13 (.done) (.done))) (.done)) (.done)) (.done)) (.done))))))))))]} (fn:=Tryz.f113) Tryz.func113 (by kernel_rfl) (by kernel_rfl) ?_),
 (fun q0=>Zf Zq (Zd q0 Zk) mixed {} (fn:=Tryz.f171) Tryz.func171 (by kernel_rfl) (by kernel_rfl) ?_),
 (fun q0=>Zf Zq (Zd q0 Zk) mixed {loops:=[(0,[.reg 5 (.own (.ol 2 (.flat (.int .i64)))),.reg 8 (.dat (.int .i64))])]} (fn:=Tryz.f223) Tryz.func223 (by kernel_rfl) (by kernel_rfl) ?_),
 (Zf Zq Zk mixed {loops:=[(0,[.reg 6 (.own (.ol 2 (.flat (.int .i64)))),.reg 7 (.dat (.int .i64))])]} (fn:=Tryz.f109) Tryz.func109 (by kernel_rfl) (by kernel_rfl) ?_),
 (fun q0 q2 q1=>Zf Xa (Zd q0 (Zd q2 (Zd q1 Zk))) mixed {draws:=[(4,[0,0,3,0,0,0,55,119,255,511,1023],.op 0 (.op 1 (.op 4 (.op 5 (.alt 2 (.alt 3 (.alt 6 (.alt 7 (.alt 8 (.alt 9 (.op 10 (.done)) (.done)) (.done)) (.done)) (.done)) (.alt 6 (.alt 3 (.alt 7 (.alt 8 (.alt 9 (.op 10 (.done)) (.done)) (.done)) (.done)) (.alt 7 (.alt 3 (.alt 8 (.alt 9 (.op 10 (.done)) (.done)) (.done)) (.done)) (.done))) (.done))) (.alt 3 (.alt 2 (.alt 6 (.alt 7 (.alt 8 (.alt 9 (.op 10 (.done)) (.done)) (.done)) (.done)) (.done)) (.done)) (.done)))))))]} (fn:=Tryz.f79) Tryz.func79 (by kernel_rfl) (by kernel_rfl) ?_)⟩
 all_goals
  intro a
  repeat rcases a with ⟨_,a⟩
  rintro K ⟨r,h,hK⟩
  repeat'
    conv=>whnf
    first
    | with_reducible refine ZvK ?_
    | with_reducible refine ZeS (by assumption) (by assumption) (by assumption) ?_
    | with_reducible refine QO (by assumption) ?_
    | with_reducible refine ZeX (by assumption) ?_
    | (with_reducible refine shD ?_);first | refine ZsV h (fun h=>?_) (fun h=>?_) | refine Zvc h (fun h=>?_) (fun h=>?_)
    | (with_reducible refine Zvw ?_);first | refine Zzx ?_ | refine Zs3 ?_
    | (with_reducible refine ZAC ?_);first | refine ZuI h (fun h=>?_) (fun h=>?_) | refine Zvv h (fun h=>?_) (fun h=>?_)
    | (with_reducible refine Zva ?_);(refine ⟨fun hd=>?_,?_⟩)<;>try subst hd
    | (with_reducible refine ZAt ?_);first | with_reducible refine Zc5 h (fun x hb h=>?_) | refine ZeX (by assumption) ?_ | with_reducible refine pG h (fun hp h=>?_) | with_reducible refine pA h (fun x ha hb hx h=>?_) | with_reducible refine pB h (fun x hb h=>?_) | refine Zc5 h (fun x hb h=>?_)
    | (with_reducible refine ZAA ?_);first | with_reducible refine vAt h (fun x ha hb hx h=>?_) | refine ZeS (by assumption) (by assumption) (by assumption) ?_ | with_reducible refine pG h (fun hp h=>?_) | with_reducible refine pA h (fun x ha hb hx h=>?_) | with_reducible refine pB h (fun x hb h=>?_) | refine vAt h (fun x ha hb hx h=>?_)
    | (with_reducible refine ZvL ?_);first | with_reducible refine Zok h (fun x hb h=>?_) | refine QO (by assumption) ?_ | with_reducible refine pG h (fun hp h=>?_) | with_reducible refine pA h (fun x ha hb hx h=>?_) | with_reducible refine pB h (fun x hb h=>?_) | refine Zok h (fun x hb h=>?_)
    | with_reducible refine ZAF ?_
    | (with_reducible refine ZqE ?_);refine ZqA h hK ?_;clear h hK;intro I μ v r h hK;(repeat rcases v with ⟨_,v⟩);(try dsimp only at h)
    | with_reducible refine ⟨by assumption,?_⟩
    | with_reducible refine orL ?_
    | with_reducible refine .inr ?_
    | (with_reducible refine ZvB ?_);first | refine ⟨?_,True.intro⟩ | refine ⟨?_,?_⟩
    | refine ⟨by kernel_rfl,?_⟩
    | refine ⟨by decide,?_⟩
    | with_reducible refine ZpS h (fun hp h=>?_)
    | intro fp
    | exact trivial
    | with_reducible exact Zvu h
    | (refine pS h (fun e=>?_));subst e;(repeat (first | exact hK | exact ⟨⟨rfl,rfl⟩,hK.1 _ rfl⟩ | (refine pR hK (fun e hK=>?_));subst e));done
    | refine ZpS h (fun hp h=>?_)
    | refine ⟨by assumption,?_⟩
    | with_reducible refine pG h (fun hp h=>?_) | with_reducible refine pA h (fun x ha hb hx h=>?_) | with_reducible refine pB h (fun x hb h=>?_)
    | refine pG h (fun hp h=>?_)
    | fail
end Go.Proofs.YthkhedimjmkifaaGreatDoor
