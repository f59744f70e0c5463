/-
  The functions keep their contracts, if what they call does. Printed by program.
-/
import Derived.Test.YtclfgjepbamnlaaGreatDoorM
import Derived.KernelRfl
namespace Go.Proofs.YtclfgjepbamnlaaGreatDoor
open Go Go.Sx
set_option maxRecDepth 100000
set_option maxHeartbeats 3200000
set_option linter.unusedVariables false
set_option linter.unusedSimpArgs false
structure Ws2:Prop where
 w164:Sq 263 c164
 w171:Sq 265 Zzg→Sq 192 c171
 w169:Sq 237 Zzf→Sq 163 Zw4→Sq 236 c167→Sq 264 c168→Sq 191 Zyg
 w131:Sq 401 c130→Sq 389 c131
 w153:Sq 304 Zy7→Sq 217 Zqk→Sq 140 c152→Sq 256 Zza
 w149:Sq 235 c148→Sq 217 Zqk→Sq 257 Zyf
 w198:Sq 204 c198
 w180:Sq 142 Zxl→Sq 266 Zzk→Sq 195 Zyh
 w117:Sq 217 Zqk→Sq 216 c117
 w191:Sq 267 Zzs→Sq 198 Zzt
 w192:Sq 198 Zzt→Sq 201 Zzu
 w187:Sq 199 Zzp
 w200:Sq 205 Zzy
 w122:Sq 190 c116→Sq 217 Zqk→Sq 135 ZvG→Sq 136 Zye→Sq 405 ZyT
 w177:Sq 217 Zqk→Sq 220 Zzj
 w215:Sq 316 ZzE
 w185:Sq 197 Zzm→Sq 142 Zxl→Sq 195 Zyh→Sq 113 Zzn
 w108:Sq 217 Zqk
 w227:Sq 356 c226→Sq 318 c227
 w222:Sq 17 c222
 w235:Sq 211 ZzP
 w243:Sq 59 ZzU→Sq 19 ZzV
 w246:Sq 60 ZzW→Sq 61 ZzX→Sq 20 ZzY
 w239:Sq 84 ZzR→Sq 58 ZzS
 w259:Sq 62 Zz3→Sq 63 Zz7→Sq 64 Zz8→Sq 21 Zz9
 w248:Sq 212 ZvH→Sq 213 ZzZ
 w6:Sq 294 c5→Sq 241 c6
 w7:Sq 240 c1→Sq 241 c6→Sq 143 c2→Sq 171 c7
 w0:Sq 293 c0
 w14:Sq 173 c13→Sq 89 c14
 w16:Sq 143 c2→Sq 74 c16
 w29:Sq 345 c28→Sq 301 c29
 w32:Sq 182 c31→Sq 103 c32
 w39:Sq 104 c35→Sq 105 c36→Sq 106 c38→Sq 48 c39
 w37:Sq 184 c37
 w40:Sq 13 c26→Sq 79 c40
 w208:Sq 335 c206→Sq 382 ZzB→Sq 355 c208
 w119:Sq 219 ZyS→Sq 140 c119
 w136:Sq 376 Zy1→Sq 391 Zy2
 w130:Sq 402 ZyY→Sq 401 c130
 w124:Sq 400 c124
 w54:Sq 403 c53→Sq 176 c51→Sq 396 c54
 w55:Sq 396 c54→Sq 386 c55
 w53:Sq 176 c51→Sq 403 c53
 w93:Sq 297 c91→Sq 249 c92→Sq 246 c93
 w57:Sq 176 c51→Sq 371 c56→Sq 342 c57
 w52:Sq 177 c50→Sq 176 c51→Sq 341 c52
 w65:Sq 100 c64→Sq 97 c65
 w75:Sq 98 c74→Sq 94 c75
 w82:Sq 99 c81→Sq 42 c82
 w83:Sq 215 c83
 w74:Sq 98 c74
 w106:Sq 45 ZyN
set_option maxHeartbeats 100000000 in
theorem ws2:Ws2:=by
 refine ⟨(Ze Zl Zf mixed {} Tryz.func263 (hvc:=?_)),
 (fun q0=>Ze Zl (Zb q0 Zf) mixed {loops:=[(0,[.reg 6 (.own (.ol 2 (.flat Iq))),.reg 19 (.dat Iq)])]} Tryz.func192 (hvc:=?_)),
 (fun q0 q1 q2 q3=>Ze Zl (Zb q0 (Zb q1 (Zb q2 (Zb q3 Zf)))) mixed {loops:=[(0,[.reg 27 (.dat Iq),.ent 2 (nat_lit 2) (.flat (Ty.int IntKind.i64))]),(2,[.reg 10 (.dat Iq),.ent 2 (nat_lit 2) (.flat (Ty.int IntKind.i64))])],draws:=[(7,[0,0,2,0,14,30,63,127,0,256,0,1024,0,0,12288,28672,65280,131071,262143,524287],.op 0 (.op 1 (.op 2 (.op 3 (.op 4 (.op 5 (.op 6 (.op 7 (.op 8 (.op 9 (.op 10 (.op 11 (.op 12 (.op 13 (.op 14 (.op 15 (.alt 16 (.op 17 (.op 18 (.alt 19 (.done) (.done)))) (.done)))))))))))))))))),(12,[0,0,2,0,14,30,63,127,0,0,768,1792,4095,8191,16383],.op 0 (.op 1 (.op 2 (.op 3 (.op 4 (.op 5 (.op 6 (.op 7 (.op 8 (.op 9 (.op 10 (.op 11 (.op 12 (.op 13 (.alt 14 (.done) (.done))))))))))))))))]} Tryz.func191 (hvc:=?_)),
 (fun q0=>Ze Zl (Zb q0 Zf) mixed {} Tryz.func389 (hvc:=?_)),
 (fun q1 q2 q0=>Ze Zl (Zb q1 (Zb q2 (Zb q0 Zf))) mixed {draws:=[(1,[0,1,0,4,12,28,63,127,255,511,1023,255,2303,255,8447,30975,63743,129279,260351,524287,1048575,2097151,4194303,8388607,4194303,33554431,67108863,134217727,268435455],.op 0 (.op 1 (.op 2 (.op 3 (.alt 4 (.op 5 (.alt 6 (.op 7 (.op 8 (.op 9 (.op 10 (.op 11 (.op 12 (.op 13 (.op 14 (.op 15 (.op 16 (.op 17 (.op 18 (.op 19 (.op 20 (.op 21 (.op 22 (.op 23 (.op 24 (.alt 25 (.op 26 (.op 27 (.op 28 (.done)))) (.done)))))))))))))))))))) (.done))) (.done))))))]} Tryz.func256 (hvc:=?_)),
 (fun q0 q1=>Ze Zl (Zb q0 (Zb q1 Zf)) mixed {} Tryz.func257 (hvc:=?_)),
 (Ze Zl Zf mixed {} Tryz.func204 (hvc:=?_)),
 (fun q0 q1=>Ze Zl (Zb q0 (Zb q1 Zf)) mixed {} Tryz.func195 (hvc:=?_)),
 (fun q0=>Ze Zl (Zb q0 Zf) mixed {} Tryz.func216 (hvc:=?_)),
 (fun q0=>Ze Zl (Zb q0 Zf) mixed {loops:=[(0,[.reg 5 (.own (.ol 2 (.flat Iq))),.reg 16 (.dat Iq)])]} Tryz.func198 (hvc:=?_)),
 (fun q0=>Ze Zl (Zb q0 Zf) mixed {} Tryz.func201 (hvc:=?_)),
 (Ze Zl Zf mixed {} Tryz.func199 (hvc:=?_)),
 (Ze Zl Zf mixed {} Tryz.func205 (hvc:=?_)),
 (fun q0 q3 q2 q1=>Ze Zl (Zb q0 (Zb q3 (Zb q2 (Zb q1 Zf)))) mixed {} Tryz.func405 (hvc:=?_)),
 (fun q0=>Ze Zl (Zb q0 Zf) mixed {} Tryz.func220 (hvc:=?_)),
 (Ze Zl Zf mixed {loops:=[(0,[.reg 3 (.dat Iq),.reg 4 (.dat Iq)])]} Tryz.func316 (hvc:=?_)),
 (fun q0 q2 q1=>Ze Zl (Zb q0 (Zb q2 (Zb q1 Zf))) mixed {loops:=[(0,[.reg 9 (.dat Iq)])],draws:=[(4,[0,0,2,7,15,31,63,127,255,511,1023,2047,4095,8191,16383,32767,65535,131071,262143,524287,1048575,2097151,2097151,6291455,16777215,33554431,67108863,2097151,136314879,536870911,1073741823,2147483647],.op 0 (.op 1 (.op 2 (.alt 3 (.op 4 (.op 5 (.op 6 (.op 7 (.alt 8 (.op 9 (.op 10 (.op 11 (.op 12 (.op 13 (.alt 14 (.op 15 (.op 16 (.op 17 (.op 18 (.op 19 (.op 20 (.op 21 (.op 22 (.op 23 (.op 24 (.op 25 (.op 26 (.op 27 (.op 28 (.op 29 (.op 30 (.op 31 (.done)))))))))))))))))) (.done))))))) (.done)))))) (.done)))))]} Tryz.func113 (hvc:=?_)),
 (Ze Zl Zf mixed {} Tryz.func217 (hvc:=?_)),
 (fun q0=>Ze Zl (Zb q0 Zf) mixed {} Tryz.func318 (hvc:=?_)),
 (Ze Zl Zf mixed {loops:=[(0,[.reg 5 (.dat Iq)])],draws:=[(6,[0,0,3,7,0,0,48,112,255],.op 0 (.op 1 (.op 2 (.op 3 (.op 4 (.op 5 (.op 6 (.op 7 (.op 8 (.done))))))))))]} Tryz.func17 (hvc:=?_)),
 (Ze Zl Zf mixed {} Tryz.func211 (hvc:=?_)),
 (fun q0=>Ze Zl (Zb q0 Zf) mixed {loops:=[(0,[.reg 5 (.dat Iq)])],draws:=[(6,[0,0,3,7,0,0,48,112,255,511],.op 0 (.op 1 (.op 2 (.op 3 (.op 4 (.op 5 (.op 6 (.op 7 (.alt 8 (.op 9 (.done)) (.done))))))))))]} Tryz.func19 (hvc:=?_)),
 (fun q0 q1=>Ze Zl (Zb q0 (Zb q1 Zf)) mixed {} Tryz.func20 (hvc:=?_)),
 (fun q0=>Ze Zl (Zb q0 Zf) mixed {loops:=[(0,[.reg 5 (.dat Iq)])],draws:=[(6,[0,0,3,7,0,0,48,112,255,511],.op 0 (.op 1 (.op 2 (.op 3 (.op 4 (.op 5 (.op 6 (.op 7 (.alt 8 (.op 9 (.done)) (.done))))))))))]} Tryz.func58 (hvc:=?_)),
 (fun q0 q1 q2=>Ze XK (Zb q0 (Zb q1 (Zb q2 Zf))) mixed {} Tryz.func21 (hvc:=?_)),
 (fun q0=>Ze XK (Zb q0 Zf) mixed {loops:=[(0,[.reg 1 (.dat Iq),.reg 5 (.dat Iq),.ent 0 (nat_lit 340) (.flat Zdx)])]} Tryz.func213 (hvc:=?_)),
 (fun q0=>Ze Zl (Zb q0 Zf) mixed {loops:=[(0,[.reg 1 (.dat Iq),.reg 5 (.dat Iq)])]} Tryz.func241 (hvc:=?_)),
 (fun q1 q2 q0=>Ze Zl (Zb q1 (Zb q2 (Zb q0 Zf))) mixed {} Tryz.func171 (hvc:=?_)),
 (Ze Zl Zf mixed {} Tryz.func293 (hvc:=?_)),
 (fun q0=>Ze Zl (Zb q0 Zf) mixed {loops:=[(0,[.reg 1 (.dat Iq),.reg 5 (.dat Iq)])]} Tryz.func89 (hvc:=?_)),
 (fun q0=>Ze Zl (Zb q0 Zf) mixed {} Tryz.func74 (hvc:=?_)),
 (fun q0=>Ze XK (Zb q0 Zf) mixed {} Tryz.func301 (hvc:=?_)),
 (fun q0=>Ze XK (Zb q0 Zf) mixed {loops:=[(0,[.reg 4 (.dat Iq),.ent 0 (nat_lit 168) ZoA])]} Tryz.func103 (hvc:=?_)),
 (fun q0 q1 q2=>Ze XK (Zb q0 (Zb q1 (Zb q2 Zf))) mixed {} Tryz.func48 (hvc:=?_)),
 (Ze Zl Zf mixed {} Tryz.func184 (hvc:=?_)),
 (fun q0=>Ze Zl (Zb q0 Zf) mixed {} Tryz.func79 (hvc:=?_)),
 (fun q1 q0=>Ze Zl (Zb q1 (Zb q0 Zf)) mixed {loops:=[(0,[.reg 7 (.dat Iq),.reg 8 (.dat Iq)])]} Tryz.func355 (hvc:=?_)),
 (fun q0=>Ze Zl (Zb q0 Zf) mixed {} Tryz.func140 (hvc:=?_)),
 (fun q0=>Ze Zl (Zb q0 Zf) mixed {loops:=[(0,[.reg 8 (.dat Iq)])]} Tryz.func391 (hvc:=?_)),
 (fun q0=>Ze Zl (Zb q0 Zf) mixed {loops:=[(0,[.reg 8 (.dat Iq)])]} Tryz.func401 (hvc:=?_)),
 (Ze Zl Zf mixed {loops:=[(0,[.reg 3 (.dat Iq),.reg 4 (.dat Iq)])]} Tryz.func400 (hvc:=?_)),
 (fun q0 q1=>Ze Zl (Zb q0 (Zb q1 Zf)) mixed {loops:=[(0,[.reg 3 (.dat Iq)])]} Tryz.func396 (hvc:=?_)),
 (fun q0=>Ze Zl (Zb q0 Zf) mixed {loops:=[(0,[.reg 5 (.dat Iq),.cell 1004 0 Iq,.cell 1004 1 Iq])],draws:=[(3,[0,1,3,7,0,16,48,112,255,0,1023],.op 0 (.op 1 (.op 2 (.op 3 (.op 4 (.op 5 (.op 6 (.op 7 (.op 8 (.alt 9 (.alt 10 (.done) (.done)) (.done))))))))))),(7,[0,1,0,4,0,28,60,127,255,511],.op 0 (.op 1 (.op 2 (.op 3 (.op 4 (.op 5 (.op 6 (.op 7 (.op 8 (.alt 9 (.done) (.done))))))))))),(8,[0,1,0,4,0,28,60,127,255,511],.op 0 (.op 1 (.op 2 (.op 3 (.op 4 (.op 5 (.op 6 (.op 7 (.op 8 (.alt 9 (.done) (.done)))))))))))]} Tryz.func386 (hvc:=?_)),
 (fun q0=>Ze Zl (Zb q0 Zf) mixed {loops:=[(0,[.reg 3 (.dat Iq)])],draws:=[(4,[0,0,3,7,15,31,63,127,255,511,1023,1023,3071,8191,16383,1023,1023,99327,230399,524287,1048575,2097151],.op 0 (.op 1 (.op 2 (.op 3 (.alt 4 (.op 5 (.op 6 (.op 7 (.op 8 (.op 9 (.op 10 (.op 11 (.op 12 (.op 13 (.op 14 (.op 15 (.op 16 (.op 17 (.op 18 (.op 19 (.op 20 (.op 21 (.done)))))))))))))))))) (.done))))))]} Tryz.func403 (hvc:=?_)),
 (fun q0 q1=>Ze Zl (Zb q0 (Zb q1 Zf)) mixed {loops:=[(0,[.reg 16 (.dat Iq),.reg 17 (.dat Iq)]),(2,[.reg 16 (.dat Iq),.reg 18 (.dat Iq)])]} Tryz.func246 (hvc:=?_)),
 (fun q1 q0=>Ze Zl (Zb q1 (Zb q0 Zf)) mixed {} Tryz.func342 (hvc:=?_)),
 (fun q0 q1=>Ze Zl (Zb q0 (Zb q1 Zf)) mixed {loops:=[(0,[.reg 5 (.dat Iq),.reg 6 (.dat Iq)]),(2,[.reg 8 (.dat Iq)])],draws:=[(12,[0,1,0,7,15,31,0,64,255],.op 0 (.op 1 (.op 2 (.op 3 (.op 4 (.op 5 (.op 6 (.op 7 (.op 8 (.done))))))))))]} Tryz.func341 (hvc:=?_)),
 (fun q0=>Ze Zl (Zb q0 Zf) mixed {loops:=[(0,[.reg 5 (.own (.ol 2 (.flat Iq))),.reg 7 (.dat Iq)])]} Tryz.func97 (hvc:=?_)),
 (fun q0=>Ze XK (Zb q0 Zf) mixed {loops:=[(0,[.reg 0 (.own (.ol 183 (.flat (JY)))),.reg 11 (.dat Iq)]),(2,[.reg 0 (.own (.ol 183 (.flat (JY)))),.reg 12 (.dat Iq)])]} Tryz.func94 (hvc:=?_)),
 (fun q0=>Ze Zl (Zb q0 Zf) mixed {loops:=[(0,[.reg 5 (.own (.ol 4 (.flat (.bool)))),.reg 6 (.dat Iq)])]} Tryz.func42 (hvc:=?_)),
 (Ze Zl Zf mixed {loops:=[(0,[.reg 8 (.own (.ol 2 (.flat Iq))),.ent 1 (nat_lit 4) (.flat Zvy.ety)]),(2,[.reg 11 (.dat Iq),.ent 3 (nat_lit 4) (.flat Zvy.ety)]),(4,[.reg 12 (.dat Iq)])]} Tryz.func215 (hvc:=?_)),
 (Ze XK Zf mixed {} Tryz.func98 (hvc:=?_)),
 (Ze XK Zf mixed {draws:=[(3,[0,1,0,7,15,0,63,127,255,511,255,2047,4095,255,8447,32767,65535,131071,262143,524287,262143,2097151,4194303,262143,8650751,33554431,67108863,134217727],.op 0 (.op 1 (.op 2 (.op 3 (.op 4 (.op 5 (.op 6 (.op 7 (.op 8 (.op 9 (.op 10 (.op 11 (.op 12 (.op 13 (.op 14 (.op 15 (.op 16 (.op 17 (.op 18 (.op 19 (.op 20 (.op 21 (.op 22 (.op 23 (.op 24 (.op 25 (.op 26 (.op 27 (.done)))))))))))))))))))))))))))))]} Tryz.func45 (hvc:=?_))⟩
 all_goals
  intro a
  repeat rcases a with ⟨_,a⟩
  rintro K ⟨r,h,hK⟩
  repeat'
    conv=>whnf
    first
    | with_reducible refine Ztc ?_
    | with_reducible refine Zfq (by assumption) (by assumption) (by assumption) ?_
    | with_reducible refine ZhT (by assumption) ?_
    | with_reducible refine Zfr (by assumption) ?_
    | (with_reducible refine shD ?_);first | refine Zpf h (fun h=>?_) (fun h=>?_) | refine ZsB h (fun h=>?_) (fun h=>?_)
    | (with_reducible refine ZtW ?_);first | refine Zun ?_ | refine Zkg ?_
    | (with_reducible refine ZxM ?_);first | refine ZrY h (fun h=>?_) (fun h=>?_) | refine Zub h (fun h=>?_) (fun h=>?_)
    | (with_reducible refine ZtV ?_);(refine ⟨fun hd=>?_,?_⟩)<;>try subst hd
    | (with_reducible refine ZxO ?_);first | with_reducible refine Zbe h (fun x hb h=>?_) | refine Zfr (by assumption) ?_ | with_reducible refine pG h (fun hp h=>?_) | with_reducible refine pA h (fun x ha hb hx h=>?_) | with_reducible refine pB h (fun x hb h=>?_) | refine Zbe h (fun x hb h=>?_)
    | (with_reducible refine ZxL ?_);first | with_reducible refine vAt h (fun x ha hb hx h=>?_) | refine Zfq (by assumption) (by assumption) (by assumption) ?_ | with_reducible refine pG h (fun hp h=>?_) | with_reducible refine pA h (fun x ha hb hx h=>?_) | with_reducible refine pB h (fun x hb h=>?_) | refine vAt h (fun x ha hb hx h=>?_)
    | (with_reducible refine ZtU ?_);first | with_reducible refine ZnZ h (fun x hb h=>?_) | refine ZhT (by assumption) ?_ | with_reducible refine pG h (fun hp h=>?_) | with_reducible refine pA h (fun x ha hb hx h=>?_) | with_reducible refine pB h (fun x hb h=>?_) | refine ZnZ h (fun x hb h=>?_)
    | with_reducible refine ZxN ?_
    | (with_reducible refine Zp0 ?_);refine Zqi h hK ?_;clear h hK;intro I μ v r h hK;(repeat rcases v with ⟨_,v⟩);(try dsimp only at h)
    | with_reducible refine ⟨by assumption,?_⟩
    | with_reducible refine orL ?_
    | with_reducible refine .inr ?_
    | (with_reducible refine ZtX ?_);first | refine ⟨?_,True.intro⟩ | refine ⟨?_,?_⟩
    | refine ⟨by kernel_rfl,?_⟩
    | refine ⟨by decide,?_⟩
    | with_reducible refine Zuo h (fun hp h=>?_)
    | intro fp
    | exact trivial
    | with_reducible exact Zs5 h
    | (refine pS h (fun e=>?_));subst e;(repeat (first | exact hK | exact ⟨⟨rfl,rfl⟩,hK.1 _ rfl⟩ | (refine pR hK (fun e hK=>?_));subst e));done
    | refine Zuo h (fun hp h=>?_)
    | refine ⟨by assumption,?_⟩
    | with_reducible refine pG h (fun hp h=>?_) | with_reducible refine pA h (fun x ha hb hx h=>?_) | with_reducible refine pB h (fun x hb h=>?_)
    | refine pG h (fun hp h=>?_)
    | fail
end Go.Proofs.YtclfgjepbamnlaaGreatDoor
