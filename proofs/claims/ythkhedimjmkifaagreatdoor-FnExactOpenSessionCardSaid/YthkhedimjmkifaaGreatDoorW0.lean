/-
  The functions keep their contracts, if what they call does. Printed by program.
-/
import Derived.Test.YthkhedimjmkifaaGreatDoorM
import Derived.KernelRfl
namespace Go.Proofs.YthkhedimjmkifaaGreatDoor
open Go Go.Sx
set_option maxRecDepth 100000
set_option maxHeartbeats 3200000
set_option linter.unusedVariables false
set_option linter.unusedSimpArgs false
structure Ws0:Prop where
 w158:Zc Tryz.prog 128 ZE6→Zc Tryz.prog 159 ZEb→Zc Tryz.prog 231 c156→Zc Tryz.prog 249 c157→Zc Tryz.prog 181 ZEK
 w140:Zc Tryz.prog 229 c139→Zc Tryz.prog 245 c99→Zc Tryz.prog 242 ZCx
 w201:Zc Tryz.prog 125 c198→Zc Tryz.prog 126 ZDF→Zc Tryz.prog 127 ZCJ→Zc Tryz.prog 128 ZE6→Zc Tryz.prog 60 c201
 w182:Zc Tryz.prog 298 c182
 w105:Zc Tryz.prog 245 c99→Zc Tryz.prog 342 ZC2→Zc Tryz.prog 252 ZDX→Zc Tryz.prog 323 c105
 w108:Zc Tryz.prog 245 c99→Zc Tryz.prog 292 ZCC
 w190:Zc Tryz.prog 128 ZE6→Zc Tryz.prog 208 ZDW
 w162:Zc Tryz.prog 183 c162
 w101:Zc Tryz.prog 342 ZC2
 w229:Zc Tryz.prog 136 c229
 w233:Zc Tryz.prog 33 c232→Zc Tryz.prog 41 c233
 w212:Zc Tryz.prog 129 ZER→Zc Tryz.prog 61 c212
 w206:Zc Tryz.prog 166 ZEC→Zc Tryz.prog 355 c206
 w207:Zc Tryz.prog 355 c206→Zc Tryz.prog 338 ZE8
 w266:Zc Tryz.prog 143 ZE9→Zc Tryz.prog 144 ZEU→Zc Tryz.prog 145 ZDt→Zc Tryz.prog 76 ZFa
 w270:Zc Tryz.prog 142 ZCD→Zc Tryz.prog 149 ZEu
 w255:Zc Tryz.prog 142 ZCD→Zc Tryz.prog 281 ZCA
 w262:Zc Tryz.prog 142 ZCD→Zc Tryz.prog 220 ZEk
 w247:Zc Tryz.prog 68 ZEr→Zc Tryz.prog 69 ZDZ→Zc Tryz.prog 70 ZDq→Zc Tryz.prog 21 ZEj
 w248:Zc Tryz.prog 142 ZCD→Zc Tryz.prog 71 ZBV
 w253:Zc Tryz.prog 142 ZCD→Zc Tryz.prog 141 ZCF→Zc Tryz.prog 75 ZCQ
 w250:Zc Tryz.prog 141 ZCF→Zc Tryz.prog 73 ZAL
 w236:Zc Tryz.prog 142 ZCD→Zc Tryz.prog 216 c236
 w5:Zc Tryz.prog 336 c4→Zc Tryz.prog 308 c5
 w6:Zc Tryz.prog 308 c5→Zc Tryz.prog 274 c6
 w18:Zc Tryz.prog 42 c9→Zc Tryz.prog 43 c15→Zc Tryz.prog 44 c17→Zc Tryz.prog 13 c18
 w25:Zc Tryz.prog 108 c24→Zc Tryz.prog 48 c25
 w11:Zc Tryz.prog 198 c10→Zc Tryz.prog 103 c11
 w13:Zc Tryz.prog 199 c13
 w17:Zc Tryz.prog 83 c16→Zc Tryz.prog 44 c17
 w35:Zc Tryz.prog 202 c34→Zc Tryz.prog 114 c35
 w46:Zc Tryz.prog 118 c46
 w52:Zc Tryz.prog 120 c51→Zc Tryz.prog 57 c52
 w36:Zc Tryz.prog 114 c35→Zc Tryz.prog 52 c36
 w200:Zc Tryz.prog 127 ZCJ
 w188:Zc Tryz.prog 206 ZDG
 w143:Zc Tryz.prog 326 ZEP→Zc Tryz.prog 289 c143
 w117:Zc Tryz.prog 368 c116→Zc Tryz.prog 377 c117
 w60:Zc Tryz.prog 376 c59→Zc Tryz.prog 172 c57→Zc Tryz.prog 366 c60
 w61:Zc Tryz.prog 366 c60→Zc Tryz.prog 356 c61
 w91:Zc Tryz.prog 201 c90→Zc Tryz.prog 309 c91
 w94:Zc Tryz.prog 200 c93→Zc Tryz.prog 111 c94
 w71:Zc Tryz.prog 94 c70→Zc Tryz.prog 169 c71
 w88:Zc Tryz.prog 110 c88
set_option maxHeartbeats 100000000 in
theorem ws0:Ws0:=by
 refine ⟨(fun q0 q1 q2 q3=>Zf Zq (Zd q0 (Zd q1 (Zd q2 (Zd q3 Zk)))) mixed {loops:=[(0,[.reg 27 (.dat (.int .i64)),.ent 2 (nat_lit 2) (.flat (Ty.int IntKind.i64))]),(2,[.reg 10 (.dat (.int .i64)),.ent 2 (nat_lit 2) (.flat (Ty.int IntKind.i64))])],draws:=[(7,[0,0,2,0,14,30,63,127,0,256,0,1024,0,0,12288,28672,65280,131071,262143,524287],.op 0 (.op 1 (.op 2 (.op 3 (.op 4 (.op 5 (.op 6 (.op 7 (.op 8 (.op 9 (.op 10 (.op 11 (.op 12 (.op 13 (.op 14 (.op 15 (.alt 16 (.op 17 (.op 18 (.alt 19 (.done) (.done)))) (.done)))))))))))))))))),(12,[0,0,2,0,14,30,63,127,0,0,768,1792,4095,8191,16383],.op 0 (.op 1 (.op 2 (.op 3 (.op 4 (.op 5 (.op 6 (.op 7 (.op 8 (.op 9 (.op 10 (.op 11 (.op 12 (.op 13 (.alt 14 (.done) (.done))))))))))))))))]} (fn:=Tryz.f181) Tryz.func181 (by kernel_rfl) (by kernel_rfl) ?_),
 (fun q0 q1=>Zf Zq (Zd q0 (Zd q1 Zk)) mixed {} (fn:=Tryz.f242) Tryz.func242 (by kernel_rfl) (by kernel_rfl) ?_),
 (fun q2 q0 q1 q3=>Zf Xa (Zd q2 (Zd q0 (Zd q1 (Zd q3 Zk)))) mixed {loops:=[(0,[.reg 22 (.dat (.int .i64)),.cello 1003 3 (.ol 155 (ZaM))])],draws:=[(1,[0,1,3,0,8,31,0,64,255,0,512,2047,4095,0,16383],.op 0 (.op 1 (.op 3 (.op 4 (.op 6 (.op 7 (.op 9 (.op 10 (.alt 2 (.alt 5 (.alt 8 (.alt 11 (.op 12 (.alt 13 (.alt 14 (.done) (.done)) (.done))) (.alt 13 (.alt 11 (.op 12 (.alt 14 (.done) (.done))) (.done)) (.done))) (.alt 13 (.alt 8 (.alt 11 (.op 12 (.alt 14 (.done) (.done))) (.done)) (.done)) (.done))) (.alt 13 (.alt 5 (.alt 8 (.alt 11 (.op 12 (.alt 14 (.done) (.done))) (.done)) (.done)) (.done)) (.done))) (.alt 13 (.alt 2 (.alt 5 (.alt 8 (.alt 11 (.op 12 (.alt 14 (.done) (.done))) (.done)) (.done)) (.done)) (.done)) (.done))))))))))),(5,[0,1,0,4,0,16,0,64,192,0,512,1984,0,4096,16320,32764,65532,131071,262143,524287],.op 0 (.op 1 (.op 2 (.op 3 (.op 4 (.op 5 (.op 6 (.op 7 (.op 9 (.op 10 (.op 12 (.op 13 (.alt 8 (.alt 11 (.alt 14 (.op 15 (.alt 16 (.alt 17 (.op 18 (.alt 19 (.done) (.done))) (.done)) (.done))) (.done)) (.done)) (.done))))))))))))))]} (fn:=Tryz.f60) Tryz.func60 (by kernel_rfl) (by kernel_rfl) ?_),
 (Zf Zq Zk mixed {} (fn:=Tryz.f298) Tryz.func298 (by kernel_rfl) (by kernel_rfl) ?_),
 (fun q2 q0 q1=>Zf Zq (Zd q2 (Zd q0 (Zd q1 Zk))) mixed {loops:=[(0,[.reg 3 (.own (.ol 9 (.flat (.str)))),.reg 8 (.dat (.int .i64))])]} (fn:=Tryz.f323) Tryz.func323 (by kernel_rfl) (by kernel_rfl) ?_),
 (fun q0=>Zf Zq (Zd q0 Zk) mixed {} (fn:=Tryz.f292) Tryz.func292 (by kernel_rfl) (by kernel_rfl) ?_),
 (fun q0=>Zf Xa (Zd q0 Zk) mixed {loops:=[(0,[.reg 3 (.own (.ol 341 (Zgw))),.reg 8 (.dat (.int .i64))])],draws:=[(5,[0,0,2,6,0,16,62,0,128,510,1022,2046,4095,8191],.op 0 (.op 1 (.op 2 (.op 4 (.op 5 (.op 7 (.op 8 (.alt 3 (.alt 6 (.alt 9 (.op 10 (.alt 11 (.alt 12 (.op 13 (.done)) (.done)) (.done))) (.done)) (.done)) (.done)))))))))]} (fn:=Tryz.f208) Tryz.func208 (by kernel_rfl) (by kernel_rfl) ?_),
 (Zf Zq Zk mixed {} (fn:=Tryz.f183) Tryz.func183 (by kernel_rfl) (by kernel_rfl) ?_),
 (Zf Zq Zk mixed {} (fn:=Tryz.f342) Tryz.func342 (by kernel_rfl) (by kernel_rfl) ?_),
 (Zf Zq Zk mixed {} (fn:=Tryz.f136) Tryz.func136 (by kernel_rfl) (by kernel_rfl) ?_),
 (fun q0=>Zf Zq (Zd q0 Zk) mixed {loops:=[(0,[.reg 5 (.dat (.int .i64))])],draws:=[(6,[0,0,3,7,0,0,48,112,255,511],.op 0 (.op 1 (.op 2 (.op 3 (.op 4 (.op 5 (.op 6 (.op 7 (.alt 8 (.op 9 (.done)) (.done))))))))))]} (fn:=Tryz.f41) Tryz.func41 (by kernel_rfl) (by kernel_rfl) ?_),
 (fun q0=>Zf Zq (Zd q0 Zk) mixed {} (fn:=Tryz.f61) Tryz.func61 (by kernel_rfl) (by kernel_rfl) ?_),
 (fun q0=>Zf Zq (Zd q0 Zk) mixed {} (fn:=Tryz.f355) Tryz.func355 (by kernel_rfl) (by kernel_rfl) ?_),
 (fun q0=>Zf Zq (Zd q0 Zk) mixed {loops:=[(0,[.reg 5 (.dat (.int .i64))])],draws:=[(6,[0,0,3,7,0,0,48,112,255,511],.op 0 (.op 1 (.op 2 (.op 3 (.op 4 (.op 5 (.op 6 (.op 7 (.alt 8 (.op 9 (.done)) (.done))))))))))]} (fn:=Tryz.f338) Tryz.func338 (by kernel_rfl) (by kernel_rfl) ?_),
 (fun q0 q1 q2=>Zf Zq (Zd q0 (Zd q1 (Zd q2 Zk))) mixed {} (fn:=Tryz.f76) Tryz.func76 (by kernel_rfl) (by kernel_rfl) ?_),
 (fun q0=>Zf Zq (Zd q0 Zk) mixed {loops:=[(0,[.reg 1 (.dat (.int .i64)),.reg 5 (.dat (.int .i64))])],draws:=[(4,[0,0,3,7,15,0,32,127],.op 0 (.op 1 (.op 2 (.op 3 (.op 4 (.op 5 (.alt 6 (.op 7 (.done)) (.done))))))))]} (fn:=Tryz.f149) Tryz.func149 (by kernel_rfl) (by kernel_rfl) ?_),
 (fun q0=>Zf Zq (Zd q0 Zk) mixed {loops:=[(0,[.reg 1 (.dat (.int .i64)),.reg 5 (.dat (.int .i64))])],draws:=[(4,[0,0,3,7,15,0,32,127],.op 0 (.op 1 (.op 2 (.op 3 (.op 4 (.op 5 (.alt 6 (.op 7 (.done)) (.done))))))))]} (fn:=Tryz.f281) Tryz.func281 (by kernel_rfl) (by kernel_rfl) ?_),
 (fun q0=>Zf Zq (Zd q0 Zk) mixed {loops:=[(0,[.reg 1 (.dat (.int .i64)),.reg 5 (.dat (.int .i64))])],draws:=[(4,[0,0,3,7,0,16,63],.op 0 (.op 1 (.op 2 (.op 3 (.op 4 (.alt 5 (.op 6 (.done)) (.done)))))))]} (fn:=Tryz.f220) Tryz.func220 (by kernel_rfl) (by kernel_rfl) ?_),
 (fun q0 q1 q2=>Zf Xa (Zd q0 (Zd q1 (Zd q2 Zk))) mixed {} (fn:=Tryz.f21) Tryz.func21 (by kernel_rfl) (by kernel_rfl) ?_),
 (fun q0=>Zf Xa (Zd q0 Zk) mixed {loops:=[(0,[.reg 1 (.dat (.int .i64)),.reg 5 (.dat (.int .i64)),.ent 0 (nat_lit 150) (.flat XF)])]} (fn:=Tryz.f71) Tryz.func71 (by kernel_rfl) (by kernel_rfl) ?_),
 (fun q1 q0=>Zf Xa (Zd q1 (Zd q0 Zk)) mixed {loops:=[(0,[.reg 1 (.dat (.int .i64)),.reg 5 (.dat (.int .i64)),.ent 0 (nat_lit 88) (Dp.pair (Dp.flat (Ty.int IntKind.i64)) (Dp.pair (Dp.flat (Ty.int IntKind.i64)) (Dp.pair (Dp.flat (Ty.int IntKind.i64)) (Dp.pair (Dp.flat (Ty.int IntKind.i64)) (Dp.pair (Dp.flat (Ty.int IntKind.i64)) (Dp.pair (Dp.flat Ty.str) (Dp.pair Zl3 (Dp.flat Ty.unit))))))))])]} (fn:=Tryz.f75) Tryz.func75 (by kernel_rfl) (by kernel_rfl) ?_),
 (fun q0=>Zf Xa (Zd q0 Zk) mixed {loops:=[(0,[.reg 1 (.dat (.int .i64)),.reg 5 (.dat (.int .i64)),.ent 0 (nat_lit 155) (Dp.pair (Dp.flat (Ty.int IntKind.i64)) (Dp.pair (Dp.flat (Ty.int IntKind.i64)) (Dp.pair (Dp.ol (2:Go.TypeId) (Dp.flat (Ty.int IntKind.i64))) (Dp.pair (Dp.ol (2:Go.TypeId) (Dp.flat (Ty.int IntKind.i64))) (Dp.pair (Dp.ol (2:Go.TypeId) (Dp.flat (Ty.int IntKind.i64))) (Dp.flat Ty.unit))))))])]} (fn:=Tryz.f73) Tryz.func73 (by kernel_rfl) (by kernel_rfl) ?_),
 (fun q0=>Zf Xa (Zd q0 Zk) mixed {loops:=[(0,[.reg 1 (.dat (.int .i64)),.reg 5 (.dat (.int .i64)),.ent 0 (nat_lit 285) (.flat ZgP)])]} (fn:=Tryz.f216) Tryz.func216 (by kernel_rfl) (by kernel_rfl) ?_),
 (fun q0=>Zf Zq (Zd q0 Zk) mixed {} (fn:=Tryz.f308) Tryz.func308 (by kernel_rfl) (by kernel_rfl) ?_),
 (fun q0=>Zf Zq (Zd q0 Zk) mixed {loops:=[(0,[.reg 1 (.dat (.int .i64)),.reg 5 (.dat (.int .i64))])]} (fn:=Tryz.f274) Tryz.func274 (by kernel_rfl) (by kernel_rfl) ?_),
 (fun q0 q1 q2=>Zf Zq (Zd q0 (Zd q1 (Zd q2 Zk))) mixed {} (fn:=Tryz.f13) Tryz.func13 (by kernel_rfl) (by kernel_rfl) ?_),
 (fun q0=>Zf Zq (Zd q0 Zk) mixed {loops:=[(0,[.reg 1 (.dat (.int .i64)),.reg 5 (.dat (.int .i64))])]} (fn:=Tryz.f48) Tryz.func48 (by kernel_rfl) (by kernel_rfl) ?_),
 (fun q0=>Zf Zq (Zd q0 Zk) mixed {loops:=[(0,[.reg 1 (.dat (.int .i64)),.reg 5 (.dat (.int .i64))])]} (fn:=Tryz.f103) Tryz.func103 (by kernel_rfl) (by kernel_rfl) ?_),
 (Zf Zq Zk mixed {} (fn:=Tryz.f199) Tryz.func199 (by kernel_rfl) (by kernel_rfl) ?_),
 (fun q0=>Zf Zq (Zd q0 Zk) mixed {loops:=[(0,[.reg 1 (.dat (.int .i64)),.reg 5 (.dat (.int .i64))])]} (fn:=Tryz.f44) Tryz.func44 (by kernel_rfl) (by kernel_rfl) ?_),
 (fun q0=>Zf Xa (Zd q0 Zk) mixed {loops:=[(0,[.reg 4 (.dat (.int .i64)),.ent 0 (nat_lit 277) Zoy])]} (fn:=Tryz.f114) Tryz.func114 (by kernel_rfl) (by kernel_rfl) ?_),
 (Zf Zq Zk mixed {} (fn:=Tryz.f118) Tryz.func118 (by kernel_rfl) (by kernel_rfl) ?_),
 (fun q0=>Zf Xa (Zd q0 Zk) mixed {loops:=[(0,[.reg 4 (.dat (.int .i64)),.ent 0 (nat_lit 155) ZaM])]} (fn:=Tryz.f57) Tryz.func57 (by kernel_rfl) (by kernel_rfl) ?_),
 (fun q0=>Zf Xa (Zd q0 Zk) mixed {} (fn:=Tryz.f52) Tryz.func52 (by kernel_rfl) (by kernel_rfl) ?_),
 (Zf Zq Zk mixed {} (fn:=Tryz.f127) Tryz.func127 (by kernel_rfl) (by kernel_rfl) ?_),
 (Zf Zq Zk mixed {} (fn:=Tryz.f206) Tryz.func206 (by kernel_rfl) (by kernel_rfl) ?_),
 (fun q0=>Zf Zq (Zd q0 Zk) mixed {} (fn:=Tryz.f289) Tryz.func289 (by kernel_rfl) (by kernel_rfl) ?_),
 (fun q0=>Zf Zq (Zd q0 Zk) mixed {loops:=[(0,[.reg 8 (.dat (.int .i64))])]} (fn:=Tryz.f377) Tryz.func377 (by kernel_rfl) (by kernel_rfl) ?_),
 (fun q0 q1=>Zf Zq (Zd q0 (Zd q1 Zk)) mixed {loops:=[(0,[.reg 3 (.dat (.int .i64))])]} (fn:=Tryz.f366) Tryz.func366 (by kernel_rfl) (by kernel_rfl) ?_),
 (fun q0=>Zf Zq (Zd q0 Zk) mixed {loops:=[(0,[.reg 5 (.dat (.int .i64)),.cell 1004 0 (.int .i64),.cell 1004 1 (.int .i64)])],draws:=[(3,[0,1,3,7,0,16,48,112,255,0,1023],.op 0 (.op 1 (.op 2 (.op 3 (.op 4 (.op 5 (.op 6 (.op 7 (.op 8 (.alt 9 (.alt 10 (.done) (.done)) (.done))))))))))),(7,[0,1,0,4,0,28,60,127,255,511],.op 0 (.op 1 (.op 2 (.op 3 (.op 4 (.op 5 (.op 6 (.op 7 (.op 8 (.alt 9 (.done) (.done))))))))))),(8,[0,1,0,4,0,28,60,127,255,511],.op 0 (.op 1 (.op 2 (.op 3 (.op 4 (.op 5 (.op 6 (.op 7 (.op 8 (.alt 9 (.done) (.done)))))))))))]} (fn:=Tryz.f356) Tryz.func356 (by kernel_rfl) (by kernel_rfl) ?_),
 (fun q0=>Zf Zq (Zd q0 Zk) mixed {draws:=[(1,[0,1,3,0,8,31,0,64,255,511,1023],.op 0 (.op 1 (.op 3 (.op 4 (.op 6 (.op 7 (.alt 2 (.alt 5 (.alt 8 (.op 9 (.alt 10 (.done) (.done))) (.done)) (.done)) (.done))))))))]} (fn:=Tryz.f309) Tryz.func309 (by kernel_rfl) (by kernel_rfl) ?_),
 (fun q0=>Zf Xa (Zd q0 Zk) mixed {loops:=[(0,[.reg 4 (.dat (.int .i64)),.cello 1003 0 (.ol 277 (Zoy))])],draws:=[(5,[0,1,0,4,0,28,60,124,252,511,1023,2047],.op 0 (.op 1 (.op 2 (.op 3 (.op 4 (.op 5 (.op 6 (.alt 7 (.alt 8 (.alt 9 (.op 10 (.alt 11 (.done) (.done))) (.done)) (.done)) (.done)))))))))]} (fn:=Tryz.f111) Tryz.func111 (by kernel_rfl) (by kernel_rfl) ?_),
 (fun q0=>Zf Zq (Zd q0 Zk) mixed {loops:=[(0,[.reg 5 (.own (.ol 2 (.flat (.int .i64)))),.reg 7 (.dat (.int .i64))])]} (fn:=Tryz.f169) Tryz.func169 (by kernel_rfl) (by kernel_rfl) ?_),
 (Zf Zq Zk mixed {loops:=[(0,[.reg 5 (.own (.ol 187 (.flat (Yg)))),.reg 6 (.dat (.int .i64))])]} (fn:=Tryz.f110) Tryz.func110 (by kernel_rfl) (by kernel_rfl) ?_)⟩
 all_goals
  intro a
  repeat rcases a with ⟨_,a⟩
  rintro K ⟨r,h,hK⟩
  repeat'
    conv=>whnf
    first
    | with_reducible refine ZvK ?_
    | with_reducible refine ZeS (by assumption) (by assumption) (by assumption) ?_
    | with_reducible refine QO (by assumption) ?_
    | with_reducible refine ZeX (by assumption) ?_
    | (with_reducible refine shD ?_);first | refine ZsV h (fun h=>?_) (fun h=>?_) | refine Zvc h (fun h=>?_) (fun h=>?_)
    | (with_reducible refine Zvw ?_);first | refine Zzx ?_ | refine Zs3 ?_
    | (with_reducible refine ZAC ?_);first | refine ZuI h (fun h=>?_) (fun h=>?_) | refine Zvv h (fun h=>?_) (fun h=>?_)
    | (with_reducible refine Zva ?_);(refine ⟨fun hd=>?_,?_⟩)<;>try subst hd
    | (with_reducible refine ZAt ?_);first | with_reducible refine Zc5 h (fun x hb h=>?_) | refine ZeX (by assumption) ?_ | with_reducible refine pG h (fun hp h=>?_) | with_reducible refine pA h (fun x ha hb hx h=>?_) | with_reducible refine pB h (fun x hb h=>?_) | refine Zc5 h (fun x hb h=>?_)
    | (with_reducible refine ZAA ?_);first | with_reducible refine vAt h (fun x ha hb hx h=>?_) | refine ZeS (by assumption) (by assumption) (by assumption) ?_ | with_reducible refine pG h (fun hp h=>?_) | with_reducible refine pA h (fun x ha hb hx h=>?_) | with_reducible refine pB h (fun x hb h=>?_) | refine vAt h (fun x ha hb hx h=>?_)
    | (with_reducible refine ZvL ?_);first | with_reducible refine Zok h (fun x hb h=>?_) | refine QO (by assumption) ?_ | with_reducible refine pG h (fun hp h=>?_) | with_reducible refine pA h (fun x ha hb hx h=>?_) | with_reducible refine pB h (fun x hb h=>?_) | refine Zok h (fun x hb h=>?_)
    | with_reducible refine ZAF ?_
    | (with_reducible refine ZqE ?_);refine ZqA h hK ?_;clear h hK;intro I μ v r h hK;(repeat rcases v with ⟨_,v⟩);(try dsimp only at h)
    | with_reducible refine ⟨by assumption,?_⟩
    | with_reducible refine orL ?_
    | with_reducible refine .inr ?_
    | (with_reducible refine ZvB ?_);first | refine ⟨?_,True.intro⟩ | refine ⟨?_,?_⟩
    | refine ⟨by kernel_rfl,?_⟩
    | refine ⟨by decide,?_⟩
    | with_reducible refine ZpS h (fun hp h=>?_)
    | intro fp
    | exact trivial
    | with_reducible exact Zvu h
    | (refine pS h (fun e=>?_));subst e;(repeat (first | exact hK | exact ⟨⟨rfl,rfl⟩,hK.1 _ rfl⟩ | (refine pR hK (fun e hK=>?_));subst e));done
    | refine ZpS h (fun hp h=>?_)
    | refine ⟨by assumption,?_⟩
    | with_reducible refine pG h (fun hp h=>?_) | with_reducible refine pA h (fun x ha hb hx h=>?_) | with_reducible refine pB h (fun x hb h=>?_)
    | refine pG h (fun hp h=>?_)
    | fail
theorem w_laws_FnExactOpenSession (q7:Zc Tryz.prog 13 c18) (q8:Zc Tryz.prog 14 c26) (q9:Zc Tryz.prog 16 c45) (q10:Zc Tryz.prog 17 c55) (q0:Zc Tryz.prog 15 c98) (q1:Zc Tryz.prog 18 ZE2) (q4:Zc Tryz.prog 12 c234) (q11:Zc Tryz.prog 19 ZEA) (q12:Zc Tryz.prog 20 ZEq) (q5:Zc Tryz.prog 21 ZEj) (q6:Zc Tryz.prog 22 ZBb) (q2:Zc Tryz.prog 23 ZDT) (q3:Zc Tryz.prog 24 ZEG):Zc Tryz.prog 4 ZJ2:=by
 refine Zf Zq (Zd q7 (Zd q8 (Zd q9 (Zd q10 (Zd q0 (Zd q1 (Zd q4 (Zd q11 (Zd q12 (Zd q5 (Zd q6 (Zd q2 (Zd q3 Zk))))))))))))) mixed {draws:=[(8,[0,1,0,7,15,31,63,63,0,383,1023],.op 0 (.op 2 (.alt 1 (.alt 3 (.alt 4 (.op 5 (.op 6 (.op 7 (.alt 8 (.alt 9 (.op 10 (.done)) (.done)) (.done))))) (.alt 8 (.alt 4 (.op 5 (.op 6 (.op 7 (.alt 9 (.op 10 (.done)) (.done))))) (.done)) (.done))) (.alt 8 (.alt 3 (.alt 4 (.op 5 (.op 6 (.op 7 (.alt 9 (.op 10 (.done)) (.done))))) (.done)) (.done)) (.done))) (.alt 8 (.alt 1 (.alt 3 (.alt 4 (.op 5 (.op 6 (.op 7 (.alt 9 (.op 10 (.done)) (.done))))) (.done)) (.done)) (.done)) (.done))))),(14,[0,0,2,7,15],.op 0 (.op 1 (.alt 2 (.alt 3 (.op 4 (.done)) (.done)) (.done)))),(16,[0,0,2,7,15],.op 0 (.op 1 (.alt 2 (.alt 3 (.op 4 (.done)) (.done)) (.done)))),(31,[0,1,0,7,15,31,63,63,0,383,1023],.op 0 (.op 2 (.alt 1 (.alt 3 (.alt 4 (.op 5 (.op 6 (.op 7 (.alt 8 (.alt 9 (.op 10 (.done)) (.done)) (.done))))) (.alt 8 (.alt 4 (.op 5 (.op 6 (.op 7 (.alt 9 (.op 10 (.done)) (.done))))) (.done)) (.done))) (.alt 8 (.alt 3 (.alt 4 (.op 5 (.op 6 (.op 7 (.alt 9 (.op 10 (.done)) (.done))))) (.done)) (.done)) (.done))) (.alt 8 (.alt 1 (.alt 3 (.alt 4 (.op 5 (.op 6 (.op 7 (.alt 9 (.op 10 (.done)) (.done))))) (.done)) (.done)) (.done)) (.done)))))]} (fn:=Tryz.f4) Tryz.func4 (by kernel_rfl) (by kernel_rfl) ?_
 rintro ⟨a0,a1,⟨⟩⟩ K ⟨r,h,hK⟩
 change ZIV a0 a1=some r at h
 unfold ZIV at h
 conv=>whnf
 refine Zc5 h (fun szBlock0 hb0 h=>?_)
 conv=>whnf
 refine ZsV h (fun h=>?_) (fun h=>?_)
 conv=>whnf
 cases h
 exact hK
 conv=>whnf
 refine Zc5 h (fun szSetup0 hb1 h=>?_)
 conv=>whnf
 refine ZsV h (fun h=>?_) (fun h=>?_)
 conv=>whnf
 cases h
 exact hK
 focus
  conv=>whnf
  refine ⟨by kernel_rfl,?_⟩
  conv=>whnf
  obtain ⟨toBlock0,hb2,h⟩:=Option.bind_eq_some_iff.1 h
  obtain ⟨toSetup0,hb6,h⟩:=Option.bind_eq_some_iff.1 h
  obtain ⟨OpenSession0,hb8,h⟩:=Option.bind_eq_some_iff.1 h
  refine ⟨?_,?_⟩
  rotate_left
  focus
   conv=>whnf
   refine ⟨_,hb2,?_⟩
   conv=>whnf
   intro fp70
   conv=>whnf
   intro fp71
   conv=>whnf
   intro fp72
   conv=>whnf
   refine ⟨_,hb6,?_⟩
   conv=>whnf
   intro fp73
   conv=>whnf
   refine ⟨_,hb8,?_⟩
   conv=>whnf
   intro fp74
   conv=>whnf
   intro fp75
   conv=>whnf
   intro fp76
   conv=>whnf
   intro fp77
   conv=>whnf
   intro fp78
   conv=>whnf
   intro fp79
   conv=>whnf
   refine ⟨trivial,?_⟩
  rotate_right
  focus
   conv=>whnf
   refine ⟨_,hb2,?_⟩
   conv=>whnf
   intro fp70
   conv=>whnf
   intro fp71
   conv=>whnf
   intro fp72
   conv=>whnf
   refine ⟨?_,?_⟩
   rotate_left
   focus
    conv=>whnf
    refine ⟨_,hb6,?_⟩
    conv=>whnf
    intro fp73
    conv=>whnf
    refine ⟨_,hb8,?_⟩
    conv=>whnf
    intro fp74
    conv=>whnf
    intro fp75
    conv=>whnf
    intro fp76
    conv=>whnf
    intro fp77
    conv=>whnf
    intro fp78
    conv=>whnf
    intro fp79
    conv=>whnf
    refine ⟨trivial,?_⟩
   rotate_right
   focus
    conv=>whnf
    refine ⟨_,hb6,?_⟩
    conv=>whnf
    intro fp73
    conv=>whnf
    refine ⟨?_,?_⟩
    rotate_left
    focus
     conv=>whnf
     refine ⟨_,hb8,?_⟩
     conv=>whnf
     intro fp74
     conv=>whnf
     intro fp75
     conv=>whnf
     intro fp76
     conv=>whnf
     intro fp77
     conv=>whnf
     intro fp78
     conv=>whnf
     intro fp79
     conv=>whnf
     refine ⟨trivial,?_⟩
    rotate_right
    focus
     conv=>whnf
     refine ⟨_,hb8,?_⟩
     conv=>whnf
     intro fp74
     conv=>whnf
     intro fp75
     conv=>whnf
     intro fp76
     conv=>whnf
     intro fp77
     conv=>whnf
     intro fp78
     conv=>whnf
     intro fp79
     conv=>whnf
     refine ⟨trivial,?_⟩
  all_goals
   conv=>whnf
   refine ⟨_,hb2,?_⟩
   conv=>whnf
   intro fp15
   conv=>whnf
   intro fp16
   conv=>whnf
   intro fp17
   conv=>whnf
   refine ⟨_,hb6,?_⟩
   conv=>whnf
   intro fp18
   conv=>whnf
   refine Zc5 h (fun OpenSession1 hb19 h=>?_)
   conv=>whnf
   intro fp20
   conv=>whnf
   intro fp21
   conv=>whnf
   intro fp22
   conv=>whnf
   intro fp23
   conv=>whnf
   intro fp24
   conv=>whnf
   intro fp25
   conv=>whnf
   refine Zc5 h (fun eqSession0 hb26 h=>?_)
   conv=>whnf
   refine Zzx ?_
   refine ZuI h (fun h=>?_) (fun h=>?_)
   conv=>whnf
   refine Zs3 ?_
   refine ZsV h (fun h=>?_) (fun h=>?_)
   conv=>whnf
   refine ⟨by kernel_rfl,?_⟩
   conv=>whnf
   refine ⟨_,hb2,?_⟩
   conv=>whnf
   intro fp27
   conv=>whnf
   intro fp28
   conv=>whnf
   intro fp29
   conv=>whnf
   refine Zc5 h (fun eqBlock0 hb30 h=>?_)
   conv=>whnf
   refine ⟨trivial,?_⟩
   conv=>whnf
   refine Zs3 ?_
   refine ZuI h (fun h=>?_) (fun h=>?_)
   conv=>whnf
   refine ⟨by kernel_rfl,?_⟩
   conv=>whnf
   refine ⟨_,hb6,?_⟩
   conv=>whnf
   intro fp31
   conv=>whnf
   refine Zc5 h (fun eqSetup0 hb32 h=>?_)
   conv=>whnf
   refine ⟨trivial,?_⟩
   conv=>whnf
   refine Zs3 ?_
   refine ZuI h (fun h=>?_) (fun h=>?_)
   conv=>whnf
   refine Zc5 h (fun markBlock0 hb33 h=>?_)
   conv=>whnf
   intro fp34
   conv=>whnf
   intro fp35
   conv=>whnf
   intro fp36
   conv=>whnf
   refine Zc5 h (fun markSetup0 hb37 h=>?_)
   conv=>whnf
   intro fp38
   conv=>whnf
   refine Zvc h (fun h=>?_) (fun h=>?_)
   conv=>whnf
   cases h
   exact hK
   conv=>whnf
   refine ⟨_,hb26,?_⟩
   conv=>whnf
   refine Zzx ?_
   refine ZuI h (fun h=>?_) (fun h=>?_)
   conv=>whnf
   refine Zs3 ?_
   refine ZsV h (fun h=>?_) (fun h=>?_)
   conv=>whnf
   refine Zc5 h (fun markSession0 hb39 h=>?_)
   conv=>whnf
   intro fp40
   conv=>whnf
   intro fp41
   conv=>whnf
   intro fp42
   conv=>whnf
   intro fp43
   conv=>whnf
   intro fp44
   conv=>whnf
   intro fp45
   conv=>whnf
   refine Zc5 h (fun heldSession0 hb46 h=>?_)
   conv=>whnf
   refine ZsV h (fun h=>?_) (fun h=>?_)
   conv=>whnf
   cases h
   exact hK
   conv=>whnf
   refine Zs3 ?_
   refine ZsV h (fun h=>?_) (fun h=>?_)
   focus
    conv=>whnf
    refine ⟨by kernel_rfl,?_⟩
    conv=>whnf
    refine ⟨?_,?_⟩
    rotate_left
    focus
     conv=>whnf
     refine ⟨_,hb2,?_⟩
     conv=>whnf
     intro fp47
     conv=>whnf
     intro fp48
     conv=>whnf
     intro fp49
     conv=>whnf
     refine ⟨_,hb6,?_⟩
     conv=>whnf
     intro fp50
     conv=>whnf
     refine ⟨_,hb19,?_⟩
     conv=>whnf
     intro fp51
     conv=>whnf
     intro fp52
     conv=>whnf
     intro fp53
     conv=>whnf
     intro fp54
     conv=>whnf
     intro fp55
     conv=>whnf
     intro fp56
     conv=>whnf
     refine ⟨trivial,?_⟩
    rotate_right
    focus
     conv=>whnf
     refine ⟨_,hb2,?_⟩
     conv=>whnf
     intro fp47
     conv=>whnf
     intro fp48
     conv=>whnf
     intro fp49
     conv=>whnf
     refine ⟨?_,?_⟩
     rotate_left
     focus
      conv=>whnf
      refine ⟨_,hb6,?_⟩
      conv=>whnf
      intro fp50
      conv=>whnf
      refine ⟨_,hb19,?_⟩
      conv=>whnf
      intro fp51
      conv=>whnf
      intro fp52
      conv=>whnf
      intro fp53
      conv=>whnf
      intro fp54
      conv=>whnf
      intro fp55
      conv=>whnf
      intro fp56
      conv=>whnf
      refine ⟨trivial,?_⟩
     rotate_right
     focus
      conv=>whnf
      refine ⟨_,hb6,?_⟩
      conv=>whnf
      intro fp50
      conv=>whnf
      refine ⟨?_,?_⟩
      rotate_left
      focus
       conv=>whnf
       refine ⟨_,hb19,?_⟩
       conv=>whnf
       intro fp51
       conv=>whnf
       intro fp52
       conv=>whnf
       intro fp53
       conv=>whnf
       intro fp54
       conv=>whnf
       intro fp55
       conv=>whnf
       intro fp56
       conv=>whnf
       refine ⟨trivial,?_⟩
      rotate_right
      focus
       conv=>whnf
       refine ⟨_,hb19,?_⟩
       conv=>whnf
       intro fp51
       conv=>whnf
       intro fp52
       conv=>whnf
       intro fp53
       conv=>whnf
       intro fp54
       conv=>whnf
       intro fp55
       conv=>whnf
       intro fp56
       conv=>whnf
       refine ⟨trivial,?_⟩
    all_goals
     conv=>whnf
     refine ⟨_,hb26,?_⟩
     conv=>whnf
     refine Zzx ?_
     refine ZuI h (fun h=>?_) (fun h=>?_)
     conv=>whnf
     refine Zs3 ?_
     refine ZsV h (fun h=>?_) (fun h=>?_)
     conv=>whnf
     refine ⟨_,hb46,?_⟩
     conv=>whnf
     refine ZsV h (fun h=>?_) (fun h=>?_)
     conv=>whnf
     cases h
     exact hK
     conv=>whnf
     refine Zs3 ?_
     refine ZsV h (fun h=>?_) (fun h=>?_)
     conv=>whnf
     cases h
     exact hK
     conv=>whnf
     cases h
     exact hK
     conv=>whnf
     cases h
     exact hK
     conv=>whnf
     cases h
     exact hK
   conv=>whnf
   cases h
   exact hK
   conv=>whnf
   cases h
   exact hK
   conv=>whnf
   cases h
   exact hK
   conv=>whnf
   cases h
   exact hK
   conv=>whnf
   cases h
   exact hK
   conv=>whnf
   cases h
   exact hK
   conv=>whnf
   cases h
   exact hK
end Go.Proofs.YthkhedimjmkifaaGreatDoor
