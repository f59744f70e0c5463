/-
  The functions keep their contracts, if what they call does. Printed by program.
-/
import Derived.Test.YtclfgjepbamnlaaGreatDoorM
import Derived.KernelRfl
namespace Go.Proofs.YtclfgjepbamnlaaGreatDoor
open Go Go.Sx
set_option maxRecDepth 100000
set_option maxHeartbeats 3200000
set_option linter.unusedVariables false
set_option linter.unusedSimpArgs false
structure Ws1:Prop where
 w205:Sq 369 ZzA
 w129:Sq 402 ZyY
 w142:Sq 375 c141→Sq 378 Zy5
 w132:Sq 373 Zyd→Sq 377 Zxk
 w212:Sq 272 c212
 w161:Sq 185 c157→Sq 163 Zw4→Sq 186 c160→Sq 108 Zzc
 w157:Sq 254 c145→Sq 255 c146→Sq 256 Zza→Sq 257 Zyf→Sq 258 c156→Sq 185 c157
 w154:Sq 259 c154
 w145:Sq 302 Zy6→Sq 303 Zxj→Sq 254 c145
 w123:Sq 405 ZyT→Sq 135 ZvG→Sq 399 ZyU
 w160:Sq 190 c116→Sq 217 Zqk→Sq 260 c159→Sq 135 ZvG→Sq 186 c160
 w110:Sq 373 Zyd
 w173:Sq 116 c173
 w197:Sq 202 c196→Sq 117 Zzw
 w214:Sq 207 c203→Sq 268 Zyi→Sq 269 Zyj→Sq 270 c210→Sq 272 c212→Sq 271 c213→Sq 206 ZzD
 w186:Sq 114 Zzo
 w183:Sq 196 c182→Sq 135 ZvG→Sq 136 Zye→Sq 112 c183
 w181:Sq 54 Zw5→Sq 193 c175→Sq 194 Zzi→Sq 142 Zxl→Sq 195 Zyh→Sq 111 Zzl
 w228:Sq 318 c227→Sq 275 c228
 w237:Sq 123 c233→Sq 124 c234→Sq 125 c236→Sq 57 ZzQ
 w232:Sq 17 c222→Sq 210 c232
 w236:Sq 211 ZzP→Sq 125 c236
 w226:Sq 383 ZzM→Sq 356 c226
 w264:Sq 25 ZAe
 w251:Sq 276 Zz0→Sq 214 Zz1
 w249:Sq 22 ZvI
 w260:Sq 23 ZAa
 w250:Sq 22 ZvI→Sq 276 Zz0
 w263:Sq 65 ZAb→Sq 66 ZAc→Sq 24 ZAd
 w18:Sq 35 c9→Sq 36 c15→Sq 37 c17→Sq 6 c18
 w21:Sq 38 c21
 w17:Sq 74 c16→Sq 37 c17
 w30:Sq 301 c29→Sq 253 c30
 w42:Sq 47 c33→Sq 48 c39→Sq 49 c41→Sq 11 c42
 w31:Sq 252 c25→Sq 253 c30→Sq 13 c26→Sq 182 c31
 w26:Sq 13 c26
 w25:Sq 300 c24→Sq 252 c25
 w46:Sq 50 c45→Sq 14 c46
 w27:Sq 13 c26→Sq 372 c27
 w166:Sq 237 Zzf
 w140:Sq 392 c139→Sq 391 Zy4
 w126:Sq 398 ZyV→Sq 404 ZyW
 w118:Sq 216 c117→Sq 219 ZyS
 w59:Sq 341 c52→Sq 177 c50→Sq 176 c51→Sq 342 c57→Sq 343 c58→Sq 295 c59
 w70:Sq 176 c51→Sq 134 c70
 w51:Sq 176 c51
 w50:Sq 177 c50
 w69:Sq 100 c64→Sq 43 c69
 w77:Sq 95 c73→Sq 94 c75→Sq 96 c76→Sq 97 c65→Sq 98 c74→Sq 41 c77
 w98:Sq 245 c90→Sq 246 c93→Sq 248 c94→Sq 247 c96→Sq 250 c97→Sq 249 c92→Sq 180 c98
 w85:Sq 90 c67→Sq 91 c68→Sq 179 c79→Sq 145 c80→Sq 132 c84→Sq 93 c85
 w104:Sq 101 ZyK→Sq 102 ZyL→Sq 44 ZyM
 w71:Sq 178 c71
set_option maxHeartbeats 100000000 in
theorem ws1:Ws1:=by
 refine ⟨(Ze Zl Zf mixed {} Tryz.func369 (hvc:=?_)),
 (Ze Zl Zf mixed {} Tryz.func402 (hvc:=?_)),
 (fun q0=>Ze Zl (Zb q0 Zf) mixed {} Tryz.func378 (hvc:=?_)),
 (fun q0=>Ze Zl (Zb q0 Zf) mixed {} Tryz.func377 (hvc:=?_)),
 (Ze Zl Zf mixed {} Tryz.func272 (hvc:=?_)),
 (fun q1 q0 q2=>Ze Zl (Zb q1 (Zb q0 (Zb q2 Zf))) mixed {loops:=[(0,[.reg 32 (.dat Iq),.ent 1 (nat_lit 2) (.flat Zum.ety)]),(2,[.reg 50 (.dat Iq)])],draws:=[(13,[0,0,0,6,14,31,63],.op 0 (.op 1 (.op 2 (.op 3 (.op 4 (.alt 5 (.op 6 (.done)) (.done)))))))]} Tryz.func108 (hvc:=?_)),
 (fun q4 q2 q1 q3 q0=>Ze Zl (Zb q4 (Zb q2 (Zb q1 (Zb q3 (Zb q0 Zf))))) mixed {loops:=[(0,[.reg 25 (.dat Iq),.ent 2 (nat_lit 3) (.flat Zqe.ety)]),(2,[.reg 51 (.dat Iq),.ent 2 (nat_lit 3) (.flat Zqe.ety)])]} Tryz.func185 (hvc:=?_)),
 (Ze Zl Zf mixed {} Tryz.func259 (hvc:=?_)),
 (fun q1 q0=>Ze Zl (Zb q1 (Zb q0 Zf)) mixed {loops:=[(0,[.reg 3 (.own (.ol 9 (.flat (.str)))),.reg 9 (.dat Iq)])]} Tryz.func254 (hvc:=?_)),
 (fun q1 q0=>Ze Zl (Zb q1 (Zb q0 Zf)) mixed {} Tryz.func399 (hvc:=?_)),
 (fun q0 q3 q1 q2=>Ze Zl (Zb q0 (Zb q3 (Zb q1 (Zb q2 Zf)))) mixed {} Tryz.func186 (hvc:=?_)),
 (Ze Zl Zf mixed {} Tryz.func373 (hvc:=?_)),
 (Ze Zl Zf mixed {} Tryz.func116 (hvc:=?_)),
 (fun q0=>Ze Zl (Zb q0 Zf) mixed {} Tryz.func117 (hvc:=?_)),
 (fun q2 q3 q1 q4 q0 q5=>Ze Zl (Zb q2 (Zb q3 (Zb q1 (Zb q4 (Zb q0 (Zb q5 Zf)))))) mixed {draws:=[(5,[0,0,3,7,0,16,48,127,255,0,0,1024,3072,7168,0,31744,64512,0,262143,524287],.op 0 (.op 1 (.op 4 (.op 5 (.op 6 (.op 9 (.op 10 (.op 11 (.op 12 (.op 13 (.op 14 (.op 15 (.op 16 (.op 17 (.alt 2 (.op 3 (.op 7 (.op 8 (.alt 18 (.op 19 (.done)) (.done))))) (.done)))))))))))))))),(6,[0,1,3,7,0,31,63,0,128,511,1023,0,4095,8191],.op 0 (.op 1 (.op 2 (.op 3 (.op 4 (.op 5 (.op 6 (.op 7 (.op 8 (.op 9 (.op 10 (.op 11 (.alt 12 (.op 13 (.done)) (.done))))))))))))))]} Tryz.func206 (hvc:=?_)),
 (Ze Zl Zf mixed {loops:=[(0,[.reg 23 (.dat Iq),.ent 0 (nat_lit 4) (.flat Zvy.ety)]),(2,[.reg 35 (.dat Iq),.ent 0 (nat_lit 4) (.flat Zvy.ety)])]} Tryz.func114 (hvc:=?_)),
 (fun q0 q2 q1=>Ze Zl (Zb q0 (Zb q2 (Zb q1 Zf))) mixed {} Tryz.func112 (hvc:=?_)),
 (fun q2 q1 q0 q4 q3=>Ze Zl (Zb q2 (Zb q1 (Zb q0 (Zb q4 (Zb q3 Zf))))) mixed {loops:=[(0,[.reg 32 (.dat Iq)])]} Tryz.func111 (hvc:=?_)),
 (fun q0=>Ze Zl (Zb q0 Zf) mixed {loops:=[(0,[.reg 5 (.dat Iq)])],draws:=[(6,[0,0,3,7,0,0,48,112,255,511],.op 0 (.op 1 (.op 2 (.op 3 (.op 4 (.op 5 (.op 6 (.op 7 (.alt 8 (.op 9 (.done)) (.done))))))))))]} Tryz.func275 (hvc:=?_)),
 (fun q0 q1 q2=>Ze Zl (Zb q0 (Zb q1 (Zb q2 Zf))) mixed {} Tryz.func57 (hvc:=?_)),
 (fun q0=>Ze Zl (Zb q0 Zf) mixed {} Tryz.func210 (hvc:=?_)),
 (fun q0=>Ze Zl (Zb q0 Zf) mixed {loops:=[(0,[.reg 5 (.dat Iq)])],draws:=[(6,[0,0,3,7,0,0,48,112,255,511],.op 0 (.op 1 (.op 2 (.op 3 (.op 4 (.op 5 (.op 6 (.op 7 (.alt 8 (.op 9 (.done)) (.done))))))))))]} Tryz.func125 (hvc:=?_)),
 (fun q0=>Ze Zl (Zb q0 Zf) mixed {loops:=[(0,[.reg 5 (.dat Iq)])],draws:=[(6,[0,0,3,7,0,0,48,112,255,511],.op 0 (.op 1 (.op 2 (.op 3 (.op 4 (.op 5 (.op 6 (.op 7 (.alt 8 (.op 9 (.done)) (.done))))))))))]} Tryz.func356 (hvc:=?_)),
 (Ze Zl Zf mixed {loops:=[(0,[.reg 1 (.dat Iq),.reg 5 (.dat Iq)])]} Tryz.func25 (hvc:=?_)),
 (fun q0=>Ze XK (Zb q0 Zf) mixed {loops:=[(0,[.reg 1 (.dat Iq),.reg 5 (.dat Iq),.ent 0 (nat_lit 173) (Dp.pair (Dp.flat (Ty.int IntKind.i64)) (Dp.pair (Dp.flat (Ty.int IntKind.i64)) (Dp.pair (Dp.flat (Ty.int IntKind.i64)) (Dp.pair (Dp.flat (Ty.int IntKind.i64)) (Dp.pair (Dp.ol (317:Go.TypeId) ZgF) (Dp.pair (Dp.ol (317:Go.TypeId) ZgF) (Dp.flat Ty.unit)))))))])]} Tryz.func214 (hvc:=?_)),
 (Ze XK Zf mixed {loops:=[(0,[.reg 1 (.dat Iq),.reg 5 (.dat Iq),.ent 0 (nat_lit 2) (.flat (Ty.int IntKind.i64))])]} Tryz.func22 (hvc:=?_)),
 (Ze XK Zf mixed {loops:=[(0,[.reg 1 (.dat Iq),.reg 5 (.dat Iq),.ent 0 (nat_lit 105) (.flat Z6)])]} Tryz.func23 (hvc:=?_)),
 (fun q0=>Ze XK (Zb q0 Zf) mixed {loops:=[(0,[.reg 1 (.dat Iq),.reg 5 (.dat Iq),.ent 0 (nat_lit 317) (Dp.pair (Dp.ol (2:Go.TypeId) (Dp.flat (Ty.int IntKind.i64))) (Dp.pair (Dp.ol (2:Go.TypeId) (Dp.flat (Ty.int IntKind.i64))) (Dp.pair (Dp.ol (2:Go.TypeId) (Dp.flat (Ty.int IntKind.i64))) (Dp.flat Ty.unit))))])]} Tryz.func276 (hvc:=?_)),
 (fun q0 q1=>Ze XK (Zb q0 (Zb q1 Zf)) mixed {} Tryz.func24 (hvc:=?_)),
 (fun q0 q1 q2=>Ze Zl (Zb q0 (Zb q1 (Zb q2 Zf))) mixed {} Tryz.func6 (hvc:=?_)),
 (Ze Zl Zf mixed {} Tryz.func38 (hvc:=?_)),
 (fun q0=>Ze Zl (Zb q0 Zf) mixed {loops:=[(0,[.reg 1 (.dat Iq),.reg 5 (.dat Iq)])]} Tryz.func37 (hvc:=?_)),
 (fun q0=>Ze XK (Zb q0 Zf) mixed {loops:=[(0,[.reg 4 (.dat Iq),.ent 0 (nat_lit 173) Zuk])]} Tryz.func253 (hvc:=?_)),
 (fun q0 q1 q2=>Ze XK (Zb q0 (Zb q1 (Zb q2 Zf))) mixed {} Tryz.func11 (hvc:=?_)),
 (fun q1 q2 q0=>Ze XK (Zb q1 (Zb q2 (Zb q0 Zf))) mixed {} Tryz.func182 (hvc:=?_)),
 (Ze Zl Zf mixed {loops:=[(0,[.reg 4 (.dat Iq),.ent 0 (nat_lit 2) (.flat Zum.ety)])]} Tryz.func13 (hvc:=?_)),
 (fun q0=>Ze Zl (Zb q0 Zf) mixed {loops:=[(0,[.reg 4 (.dat Iq),.ent 0 (nat_lit 340) (.flat Zvf.ety)])]} Tryz.func252 (hvc:=?_)),
 (fun q0=>Ze Zl (Zb q0 Zf) mixed {loops:=[(0,[.reg 4 (.dat Iq),.ent 0 (nat_lit 105) (.flat ZyA.ety)])]} Tryz.func14 (hvc:=?_)),
 (fun q0=>Ze Zl (Zb q0 Zf) mixed {} Tryz.func372 (hvc:=?_)),
 (Ze Zl Zf mixed {} Tryz.func237 (hvc:=?_)),
 (fun q0=>Ze Zl (Zb q0 Zf) mixed {loops:=[(0,[.reg 8 (.dat Iq)])]} Tryz.func391 (hvc:=?_)),
 (fun q0=>Ze Zl (Zb q0 Zf) mixed {loops:=[(0,[.reg 8 (.dat Iq)])]} Tryz.func404 (hvc:=?_)),
 (fun q0=>Ze Zl (Zb q0 Zf) mixed {loops:=[(0,[.reg 8 (.dat Iq)])]} Tryz.func219 (hvc:=?_)),
 (fun q1 q2 q4 q3 q0=>Ze Zl (Zb q1 (Zb q2 (Zb q4 (Zb q3 (Zb q0 Zf))))) mixed {loops:=[(0,[.reg 5 (.dat Iq)]),(2,[.reg 7 (.dat Iq)]),(5,[.reg 9 (.dat Iq)])],draws:=[(13,[0,1,0,7,15,31,0,64,255,511,1023,2047,1023,8191,16383,32767,1023,66559,262143,524287,1048575,2097151,4194303,2097151,16777215,33554431,67108863,2097151,136314879,536870911,1073741823],.op 0 (.op 1 (.op 2 (.op 3 (.op 4 (.op 5 (.op 6 (.op 7 (.op 8 (.op 9 (.op 10 (.op 11 (.op 12 (.op 13 (.op 14 (.op 15 (.op 16 (.op 17 (.op 18 (.op 19 (.op 20 (.op 21 (.op 22 (.op 23 (.op 24 (.op 25 (.op 26 (.op 27 (.op 28 (.op 29 (.op 30 (.done)))))))))))))))))))))))))))))))),(25,[0,1,3,7,15,31,63,127,255,511,1023,2047,4095,511,8703,25087,57855,131071,262143,524287,1048575,2097151,4194303,8388607,16777215,33554431],.op 0 (.op 1 (.op 2 (.op 3 (.op 4 (.op 5 (.op 6 (.op 7 (.op 8 (.op 9 (.op 10 (.op 11 (.op 12 (.op 13 (.op 14 (.op 15 (.op 16 (.op 17 (.op 18 (.op 19 (.op 20 (.op 21 (.op 22 (.op 23 (.op 24 (.op 25 (.done)))))))))))))))))))))))))))]} Tryz.func295 (hvc:=?_)),
 (fun q0=>Ze Zl (Zb q0 Zf) mixed {} Tryz.func134 (hvc:=?_)),
 (Ze Zl Zf mixed {} Tryz.func176 (hvc:=?_)),
 (Ze Zl Zf mixed {loops:=[(0,[.reg 3 (.dat Iq)])]} Tryz.func177 (hvc:=?_)),
 (fun q0=>Ze Zl (Zb q0 Zf) mixed {} Tryz.func43 (hvc:=?_)),
 (fun q2 q4 q0 q1 q3=>Ze Zl (Zb q2 (Zb q4 (Zb q0 (Zb q1 (Zb q3 Zf))))) mixed {loops:=[(0,[.reg 3 (.own (.ol 183 (.flat (JY)))),.reg 5 (.dat Iq)]),(2,[.reg 3 (.own (.ol 183 (.flat (JY)))),.reg 7 (.dat Iq)]),(4,[.reg 3 (.own (.ol 183 (.flat (JY)))),.reg 8 (.dat Iq)]),(6,[.reg 3 (.own (.ol 183 (.flat (JY)))),.reg 11 (.dat Iq)])],draws:=[(6,[0,1,3,0,8,0,56,120,248,511,1023,2047,4095],.op 0 (.op 1 (.op 2 (.op 3 (.op 4 (.op 5 (.op 6 (.op 7 (.op 8 (.op 9 (.op 10 (.op 11 (.op 12 (.done)))))))))))))),(11,[0,0,0,6,14,0,0,0,0,384,896,1920,4064,0,0,0,0,98304,229376,491520,1048544,0,4194303,8388607],.op 0 (.op 1 (.op 2 (.op 3 (.op 4 (.op 5 (.op 6 (.op 7 (.op 8 (.op 9 (.op 10 (.op 11 (.op 13 (.op 14 (.op 15 (.op 16 (.op 17 (.op 18 (.op 19 (.op 21 (.alt 12 (.alt 20 (.alt 22 (.op 23 (.done)) (.done)) (.done)) (.done))))))))))))))))))))))]} Tryz.func41 (hvc:=?_)),
 (fun q3 q2 q4 q0 q1 q5=>Ze Zl (Zb q3 (Zb q2 (Zb q4 (Zb q0 (Zb q1 (Zb q5 Zf)))))) mixed {draws:=[(5,[0,0,0,6,0,31,0,64,255,511,1023],.op 0 (.op 1 (.op 2 (.op 4 (.op 6 (.op 7 (.alt 3 (.alt 5 (.op 8 (.op 9 (.op 10 (.done)))) (.done)) (.done))))))))]} Tryz.func180 (hvc:=?_)),
 (fun q3 q2 q4 q1 q0=>Ze Zl (Zb q3 (Zb q2 (Zb q4 (Zb q1 (Zb q0 Zf))))) mixed {} Tryz.func93 (hvc:=?_)),
 (fun q0 q1=>Ze Zl (Zb q0 (Zb q1 Zf)) mixed {loops:=[(0,[.reg 16 (.dat (.bool)),.reg 18 (.dat Iq),.cell 1017 0 Iq,.cell 1017 1 Iq,.cell 1017 2 Iq,.cell 1017 3 Iq,.cell 1017 4 Iq]),(2,[.reg 16 (.dat (.bool)),.reg 19 (.dat Iq),.cell 1017 0 Iq,.cell 1017 1 Iq,.cell 1017 2 Iq,.cell 1017 3 Iq,.cell 1017 4 Iq])],draws:=[(14,[0,0,0,0,8,0,32,120,248,511,1023,2047,2047,0,0,28671,65535],.op 0 (.op 1 (.op 2 (.op 3 (.op 4 (.op 5 (.op 6 (.op 7 (.op 8 (.alt 9 (.op 10 (.op 11 (.op 12 (.alt 13 (.alt 14 (.alt 15 (.alt 16 (.done) (.done)) (.done)) (.done)) (.alt 14 (.alt 13 (.alt 15 (.alt 16 (.done) (.done)) (.done)) (.done)) (.done)))))) (.alt 13 (.alt 9 (.op 10 (.op 11 (.op 12 (.alt 14 (.alt 15 (.alt 16 (.done) (.done)) (.done)) (.done))))) (.alt 14 (.alt 9 (.op 10 (.op 11 (.op 12 (.alt 15 (.alt 16 (.done) (.done)) (.done))))) (.done)) (.done))) (.alt 14 (.alt 9 (.op 10 (.op 11 (.op 12 (.alt 13 (.alt 15 (.alt 16 (.done) (.done)) (.done)) (.done))))) (.alt 13 (.alt 9 (.op 10 (.op 11 (.op 12 (.alt 15 (.alt 16 (.done) (.done)) (.done))))) (.done)) (.done))) (.done))))))))))))),(15,[0,1,0,4,15,31,63,0,128,511,0,1024,0,4096,15360,31744,64512,0,131072,523264,1048575,0,4194303],.op 0 (.op 1 (.op 2 (.op 3 (.op 4 (.op 5 (.op 6 (.op 7 (.op 8 (.op 9 (.op 10 (.op 11 (.op 12 (.op 13 (.op 14 (.op 15 (.op 16 (.op 17 (.op 18 (.op 19 (.op 20 (.alt 21 (.alt 22 (.done) (.done)) (.done))))))))))))))))))))))),(21,[0,0,1,7],.op 0 (.op 1 (.op 2 (.alt 3 (.done) (.done)))))]} Tryz.func44 (hvc:=?_)),
 (Ze Zl Zf mixed {} Tryz.func178 (hvc:=?_))⟩
 all_goals
  intro a
  repeat rcases a with ⟨_,a⟩
  rintro K ⟨r,h,hK⟩
  repeat'
    conv=>whnf
    first
    | with_reducible refine Ztc ?_
    | with_reducible refine Zfq (by assumption) (by assumption) (by assumption) ?_
    | with_reducible refine ZhT (by assumption) ?_
    | with_reducible refine Zfr (by assumption) ?_
    | (with_reducible refine shD ?_);first | refine Zpf h (fun h=>?_) (fun h=>?_) | refine ZsB h (fun h=>?_) (fun h=>?_)
    | (with_reducible refine ZtW ?_);first | refine Zun ?_ | refine Zkg ?_
    | (with_reducible refine ZxM ?_);first | refine ZrY h (fun h=>?_) (fun h=>?_) | refine Zub h (fun h=>?_) (fun h=>?_)
    | (with_reducible refine ZtV ?_);(refine ⟨fun hd=>?_,?_⟩)<;>try subst hd
    | (with_reducible refine ZxO ?_);first | with_reducible refine Zbe h (fun x hb h=>?_) | refine Zfr (by assumption) ?_ | with_reducible refine pG h (fun hp h=>?_) | with_reducible refine pA h (fun x ha hb hx h=>?_) | with_reducible refine pB h (fun x hb h=>?_) | refine Zbe h (fun x hb h=>?_)
    | (with_reducible refine ZxL ?_);first | with_reducible refine vAt h (fun x ha hb hx h=>?_) | refine Zfq (by assumption) (by assumption) (by assumption) ?_ | with_reducible refine pG h (fun hp h=>?_) | with_reducible refine pA h (fun x ha hb hx h=>?_) | with_reducible refine pB h (fun x hb h=>?_) | refine vAt h (fun x ha hb hx h=>?_)
    | (with_reducible refine ZtU ?_);first | with_reducible refine ZnZ h (fun x hb h=>?_) | refine ZhT (by assumption) ?_ | with_reducible refine pG h (fun hp h=>?_) | with_reducible refine pA h (fun x ha hb hx h=>?_) | with_reducible refine pB h (fun x hb h=>?_) | refine ZnZ h (fun x hb h=>?_)
    | with_reducible refine ZxN ?_
    | (with_reducible refine Zp0 ?_);refine Zqi h hK ?_;clear h hK;intro I μ v r h hK;(repeat rcases v with ⟨_,v⟩);(try dsimp only at h)
    | with_reducible refine ⟨by assumption,?_⟩
    | with_reducible refine orL ?_
    | with_reducible refine .inr ?_
    | (with_reducible refine ZtX ?_);first | refine ⟨?_,True.intro⟩ | refine ⟨?_,?_⟩
    | refine ⟨by kernel_rfl,?_⟩
    | refine ⟨by decide,?_⟩
    | with_reducible refine Zuo h (fun hp h=>?_)
    | intro fp
    | exact trivial
    | with_reducible exact Zs5 h
    | (refine pS h (fun e=>?_));subst e;(repeat (first | exact hK | exact ⟨⟨rfl,rfl⟩,hK.1 _ rfl⟩ | (refine pR hK (fun e hK=>?_));subst e));done
    | refine Zuo h (fun hp h=>?_)
    | refine ⟨by assumption,?_⟩
    | with_reducible refine pG h (fun hp h=>?_) | with_reducible refine pA h (fun x ha hb hx h=>?_) | with_reducible refine pB h (fun x hb h=>?_)
    | refine pG h (fun hp h=>?_)
    | fail
end Go.Proofs.YtclfgjepbamnlaaGreatDoor
