/-
  The functions keep their contracts, if what they call does. Printed by program.
-/
import Derived.Test.YtpiemlnhjobopaaGreatDoorM
import Derived.KernelRfl
namespace Go.Proofs.YtpiemlnhjobopaaGreatDoor
open Go Go.Sx
set_option maxRecDepth 100000
set_option maxHeartbeats 3200000
set_option linter.unusedVariables false
set_option linter.unusedSimpArgs false
structure Ws2:Prop where
 w143:Sq 261 c143
 w150:Sq 265 Zxj→Sq 198 Zxk
 w114:Sq 361 ZvB→Sq 242 c89→Sq 373 ZwY
 w131:Sq 257 c130→Sq 309 c131
 w175:Sq 155 c173→Sq 271 Zxu→Sq 242 c89→Sq 267 c94→Sq 208 c175
 w135:Sq 259 Zxc
 w141:Sq 196 c97→Sq 242 c89→Sq 260 Zxf→Sq 170 Zt7→Sq 194 c141
 w109:Sq 380 ZwU→Sq 371 c109
 w101:Sq 175 ZwQ→Sq 170 Zt7
 w98:Sq 242 c89→Sq 241 c98
 w178:Sq 124 c154→Sq 123 Zxx
 w167:Sq 242 c89→Sq 270 c167
 w128:Sq 308 Zw7
 w97:Sq 196 c97
 w182:Sq 123 Zxx→Sq 124 c154→Sq 125 Zh7→Sq 122 ZxA→Sq 53 c182
 w166:Sq 203 Zwu→Sq 242 c89→Sq 177 Zwv→Sq 228 Zxp→Sq 204 Zxq
 w192:Sq 345 ZxG→Sq 320 ZxH
 w194:Sq 282 ZxE→Sq 283 c193→Sq 28 Zt8→Sq 214 c194
 w207:Sq 134 c206→Sq 58 ZxP
 w213:Sq 137 c212→Sq 61 c213
 w202:Sq 130 c198→Sq 131 ZxK→Sq 132 c201→Sq 56 ZxM
 w198:Sq 215 ZxJ→Sq 130 c198
 w185:Sq 128 Zww→Sq 54 ZxB
 w227:Sq 62 ZxW→Sq 63 ZxZ→Sq 64 c226→Sq 15 c227
 w231:Sq 142 Zs6→Sq 68 Zx1
 w232:Sq 65 c228→Sq 66 c229→Sq 67 Zx0→Sq 68 Zx1→Sq 16 c232
 w25:Sq 19 c24→Sq 42 c25
 w13:Sq 180 c13
 w12:Sq 97 c12
 w45:Sq 45 c36→Sq 46 c42→Sq 47 c44→Sq 9 c45
 w34:Sq 252 c28→Sq 253 c33→Sq 24 c29→Sq 189 c34
 w47:Sq 115 c46→Sq 48 c47
 w52:Sq 117 c51→Sq 50 c52
 w29:Sq 24 c29
 w30:Sq 24 c29→Sq 356 c30
 w44:Sq 114 c43→Sq 47 c44
 w118:Sq 374 c117→Sq 359 Zw0
 w170:Sq 206 Zxr→Sq 269 Zxs
 w77:Sq 184 c74→Sq 185 c75→Sq 186 c57→Sq 108 c76→Sq 103 c77
 w60:Sq 386 c59→Sq 186 c57→Sq 379 c60
 w57:Sq 186 c57
 w59:Sq 186 c57→Sq 386 c59
 w62:Sq 369 c61→Sq 355 c62
 w83:Sq 188 c83
 w74:Sq 219 c56→Sq 186 c57→Sq 184 c74
 w81:Sq 251 c80→Sq 186 c57→Sq 187 c81
 w84:Sq 105 c70→Sq 186 c57→Sq 188 c83→Sq 107 c84
set_option maxHeartbeats 100000000 in
theorem ws2:Ws2:=by
 refine ⟨(Ze Zp Zg mixed {} Tryz.func261 (hvc:=?_)),
 (fun q0=>Ze Zp (Zc q0 Zg) mixed {loops:=[(0,[.reg 6 (.own (.ol 2 (.flat Iq))),.reg 19 (.dat Iq)])]} Tryz.func198 (hvc:=?_)),
 (fun q0 q1=>Ze Zp (Zc q0 (Zc q1 Zg)) mixed {} Tryz.func373 (hvc:=?_)),
 (fun q0=>Ze Zp (Zc q0 Zg) mixed {} Tryz.func309 (hvc:=?_)),
 (fun q1 q0 q3 q2=>Ze Zp (Zc q1 (Zc q0 (Zc q3 (Zc q2 Zg)))) mixed {loops:=[(0,[.reg 3 (.own (.ol 9 (.flat (.str)))),.reg 8 (.dat Iq)])]} Tryz.func208 (hvc:=?_)),
 (Ze Zp Zg mixed {} Tryz.func259 (hvc:=?_)),
 (fun q0 q3 q1 q2=>Ze Zp (Zc q0 (Zc q3 (Zc q1 (Zc q2 Zg)))) mixed {} Tryz.func194 (hvc:=?_)),
 (fun q0=>Ze Zp (Zc q0 Zg) mixed {} Tryz.func371 (hvc:=?_)),
 (fun q0=>Ze Zp (Zc q0 Zg) mixed {} Tryz.func170 (hvc:=?_)),
 (fun q0=>Ze Zp (Zc q0 Zg) mixed {} Tryz.func241 (hvc:=?_)),
 (fun q0=>Ze Zp (Zc q0 Zg) mixed {loops:=[(0,[.reg 7 (.own (.ol 118 (.flat (Y5)))),.reg 19 (.dat Iq)])],draws:=[(1,[0,0,3,7,0,0,48,0,0,511,1023],.op 0 (.op 1 (.op 2 (.op 3 (.op 4 (.op 5 (.alt 6 (.alt 7 (.alt 8 (.alt 9 (.alt 10 (.done) (.done)) (.done)) (.done)) (.alt 8 (.alt 7 (.alt 9 (.alt 10 (.done) (.done)) (.done)) (.done)) (.done))) (.alt 7 (.alt 6 (.alt 8 (.alt 9 (.alt 10 (.done) (.done)) (.done)) (.done)) (.alt 8 (.alt 6 (.alt 9 (.alt 10 (.done) (.done)) (.done)) (.done)) (.done))) (.alt 8 (.alt 6 (.alt 7 (.alt 9 (.alt 10 (.done) (.done)) (.done)) (.done)) (.alt 7 (.alt 6 (.alt 9 (.alt 10 (.done) (.done)) (.done)) (.done)) (.done))) (.done))))))))))]} Tryz.func123 (hvc:=?_)),
 (fun q0=>Ze Zp (Zc q0 Zg) mixed {} Tryz.func270 (hvc:=?_)),
 (Ze Zp Zg mixed {} Tryz.func308 (hvc:=?_)),
 (Ze Zp Zg mixed {} Tryz.func196 (hvc:=?_)),
 (fun q0 q3 q2 q1=>Ze Zp (Zc q0 (Zc q3 (Zc q2 (Zuh (ZvL Xj (Zc q1 Zg) mixed {draws:=[(0,[0,0,2,6,14,31,63,127,127,0,767,2047],.op 0 (.op 1 (.op 2 (.op 3 (.op 4 (.alt 5 (.op 6 (.op 7 (.op 8 (.alt 9 (.alt 10 (.op 11 (.done)) (.done)) (.done))))) (.alt 9 (.alt 5 (.op 6 (.op 7 (.op 8 (.alt 10 (.op 11 (.done)) (.done))))) (.done)) (.done))))))))]} Tryz.func121 (by kernel_rfl) (by kernel_rfl)) Zg)))) mixed {loops:=[(0,[.reg 14 (.dat Iq),.cello 1 0 (.ol 118 (.flat (Y5)))]),(2,[.reg 27 (.dat Iq),.cello 1 0 (.ol 118 (.flat (Y5)))])]} Tryz.func53 (hvc:=?_)),
 (fun q0 q2 q3 q1=>Ze Zp (Zc q0 (Zc q2 (Zc q3 (Zc q1 Zg)))) mixed {loops:=[(0,[.reg 13 (.dat Iq)])],draws:=[(4,[0,0,2,7,15,31,63,127,255,511,63,1087,4095,8191,16383,32767,65535,131071,262143,524287,1048575,2097151,262143,4456447,16777215,33554431,67108863,262143,268435455,536870911,1073741823,2147483647,4294967295,8589934591,17179869183,17179869183,51539607551,137438953471,274877906943,549755813887,17179869183,1116691496959,4398046511103,8796093022207,17592186044415],.op 0 (.op 1 (.op 2 (.alt 3 (.op 4 (.op 5 (.op 6 (.op 7 (.op 8 (.op 9 (.op 10 (.op 11 (.op 12 (.op 13 (.op 14 (.op 15 (.op 16 (.op 17 (.op 18 (.op 19 (.op 20 (.op 21 (.op 22 (.op 23 (.op 24 (.op 25 (.op 26 (.op 27 (.op 28 (.op 29 (.op 30 (.op 31 (.op 32 (.op 33 (.op 34 (.op 35 (.op 36 (.op 37 (.op 38 (.op 39 (.op 40 (.op 41 (.op 42 (.op 43 (.op 44 (.done)))))))))))))))))))))))))))))))))))))))))) (.done)))))]} Tryz.func204 (hvc:=?_)),
 (fun q0=>Ze Zp (Zc q0 Zg) mixed {} Tryz.func320 (hvc:=?_)),
 (fun q1 q2 q0=>Ze Zp (Zc q1 (Zc q2 (Zc q0 Zg))) mixed {} Tryz.func214 (hvc:=?_)),
 (fun q0=>Ze Zp (Zc q0 Zg) mixed {loops:=[(0,[.reg 5 (.dat Iq)])],draws:=[(6,[0,0,3,7,0,0,48,112,255,511],.op 0 (.op 1 (.op 2 (.op 3 (.op 4 (.op 5 (.op 6 (.op 7 (.alt 8 (.op 9 (.done)) (.done))))))))))]} Tryz.func58 (hvc:=?_)),
 (fun q0=>Ze Zp (Zc q0 Zg) mixed {loops:=[(0,[.reg 5 (.dat Iq)])],draws:=[(6,[0,0,3,7,0,0,48,112,255,511],.op 0 (.op 1 (.op 2 (.op 3 (.op 4 (.op 5 (.op 6 (.op 7 (.alt 8 (.op 9 (.done)) (.done))))))))))]} Tryz.func61 (hvc:=?_)),
 (fun q0 q1 q2=>Ze Zp (Zc q0 (Zc q1 (Zc q2 Zg))) mixed {} Tryz.func56 (hvc:=?_)),
 (fun q0=>Ze Zp (Zc q0 Zg) mixed {loops:=[(0,[.reg 5 (.dat Iq)])],draws:=[(6,[0,0,3,7,0,0,48,112,255,511],.op 0 (.op 1 (.op 2 (.op 3 (.op 4 (.op 5 (.op 6 (.op 7 (.alt 8 (.op 9 (.done)) (.done))))))))))]} Tryz.func130 (hvc:=?_)),
 (fun q0=>Ze Zp (Zc q0 Zg) mixed {} Tryz.func54 (hvc:=?_)),
 (fun q0 q1 q2=>Ze Xj (Zc q0 (Zc q1 (Zc q2 Zg))) mixed {} Tryz.func15 (hvc:=?_)),
 (fun q0=>Ze Xj (Zc q0 Zg) mixed {loops:=[(0,[.reg 1 (.dat Iq),.reg 5 (.dat Iq),.ent 0 (nat_lit 82) (.flat Yo)])]} Tryz.func68 (hvc:=?_)),
 (fun q3 q1 q0 q2=>Ze Xj (Zc q3 (Zc q1 (Zc q0 (Zc q2 Zg)))) mixed {} Tryz.func16 (hvc:=?_)),
 (fun q0=>Ze Zp (Zc q0 Zg) mixed {loops:=[(0,[.reg 1 (.dat Iq),.reg 5 (.dat Iq)])]} Tryz.func42 (hvc:=?_)),
 (Ze Zp Zg mixed {} Tryz.func180 (hvc:=?_)),
 (Ze Zp Zg mixed {loops:=[(0,[.reg 1 (.dat Iq),.reg 5 (.dat Iq)])]} Tryz.func97 (hvc:=?_)),
 (fun q0 q1 q2=>Ze Xj (Zc q0 (Zc q1 (Zc q2 Zg))) mixed {} Tryz.func9 (hvc:=?_)),
 (fun q1 q2 q0=>Ze Xj (Zc q1 (Zc q2 (Zc q0 Zg))) mixed {} Tryz.func189 (hvc:=?_)),
 (fun q0=>Ze Zp (Zc q0 Zg) mixed {loops:=[(0,[.reg 4 (.dat Iq),.ent 0 (nat_lit 185) (.flat ZwI.ety)])]} Tryz.func48 (hvc:=?_)),
 (fun q0=>Ze Xj (Zc q0 Zg) mixed {loops:=[(0,[.reg 4 (.dat Iq),.ent 0 (nat_lit 189) Zai])]} Tryz.func50 (hvc:=?_)),
 (Ze Zp Zg mixed {loops:=[(0,[.reg 4 (.dat Iq),.ent 0 (nat_lit 2) (.flat Zs0.ety)])]} Tryz.func24 (hvc:=?_)),
 (fun q0=>Ze Zp (Zc q0 Zg) mixed {} Tryz.func356 (hvc:=?_)),
 (fun q0=>Ze Xj (Zc q0 Zg) mixed {loops:=[(0,[.reg 4 (.dat Iq),.ent 0 (nat_lit 201) Zon])]} Tryz.func47 (hvc:=?_)),
 (fun q0=>Ze Zp (Zc q0 Zg) mixed {} Tryz.func359 (hvc:=?_)),
 (fun q0=>Ze Zp (Zc q0 Zg) mixed {loops:=[(0,[.reg 8 (.dat Iq)])]} Tryz.func269 (hvc:=?_)),
 (fun q1 q0 q2 q3=>Ze Zp (Zc q1 (Zc q0 (Zc q2 (Zc q3 Zg)))) mixed {loops:=[(0,[.reg 3 (.dat Iq)]),(2,[.reg 5 (.dat Iq)])],draws:=[(10,[0,0,3,7,15,0,32,127],.op 0 (.op 1 (.op 2 (.op 3 (.op 4 (.op 5 (.op 6 (.op 7 (.done)))))))))]} Tryz.func103 (hvc:=?_)),
 (fun q0 q1=>Ze Zp (Zc q0 (Zc q1 Zg)) mixed {loops:=[(0,[.reg 3 (.dat Iq)])]} Tryz.func379 (hvc:=?_)),
 (Ze Zp Zg mixed {} Tryz.func186 (hvc:=?_)),
 (fun q0=>Ze Zp (Zc q0 Zg) mixed {loops:=[(0,[.reg 3 (.dat Iq)])],draws:=[(4,[0,0,3,7,15,31,63,127,255,511,1023,1023,3071,8191,16383,1023,1023,99327,230399,524287,1048575,2097151],.op 0 (.op 1 (.op 2 (.op 3 (.alt 4 (.op 5 (.op 6 (.op 7 (.op 8 (.op 9 (.op 10 (.op 11 (.op 12 (.op 13 (.op 14 (.op 15 (.op 16 (.op 17 (.op 18 (.op 19 (.op 20 (.op 21 (.done)))))))))))))))))) (.done))))))]} Tryz.func386 (hvc:=?_)),
 (fun q0=>Ze Zp (Zc q0 Zg) mixed {loops:=[(0,[.reg 5 (.dat Iq)])]} Tryz.func355 (hvc:=?_)),
 (Ze Zp Zg mixed {} Tryz.func188 (hvc:=?_)),
 (fun q0 q1=>Ze Zp (Zc q0 (Zc q1 Zg)) mixed {} Tryz.func184 (hvc:=?_)),
 (fun q0 q1=>Ze Zp (Zc q0 (Zc q1 Zg)) mixed {loops:=[(0,[.reg 7 (.dat Iq)])],draws:=[(4,[0,0,3,7,0,16,48,127,255,511,1023,2047,4095,8191,16383,32767,65535,65535,196607,524287,1048575,65535,65535,6356991,14745599,33554431,67108863,134217727],.op 0 (.op 1 (.op 2 (.op 3 (.op 4 (.alt 5 (.op 6 (.alt 7 (.op 8 (.op 9 (.op 10 (.op 11 (.op 12 (.op 13 (.op 14 (.op 15 (.op 16 (.op 17 (.op 18 (.op 19 (.op 20 (.op 21 (.op 22 (.op 23 (.op 24 (.op 25 (.op 26 (.op 27 (.done))))))))))))))))))))) (.done))) (.done)))))))]} Tryz.func187 (hvc:=?_)),
 (fun q0 q2 q1=>Ze Zp (Zc q0 (Zc q2 (Zc q1 Zg))) mixed {loops:=[(0,[.reg 10 (.dat Iq)])],draws:=[(6,[0,1,0,4,12,31,63,127,255,511,1023,2047,2047,6143,16383,32767,65535,2047,133119,524287,1048575,2097151,4194303,8388607,16777215,8388607,41943039,109051903,243269631,536870911,1073741823,2147483647],.op 0 (.op 1 (.op 2 (.op 3 (.op 4 (.alt 5 (.op 6 (.op 7 (.op 8 (.op 9 (.op 10 (.op 11 (.op 12 (.op 13 (.op 14 (.op 15 (.op 16 (.op 17 (.op 18 (.op 19 (.op 20 (.op 21 (.op 22 (.op 23 (.op 24 (.op 25 (.op 26 (.op 27 (.op 28 (.alt 29 (.op 30 (.op 31 (.done))) (.done))))))))))))))))))))))))) (.done)))))))]} Tryz.func107 (hvc:=?_))⟩
 all_goals
  intro a
  repeat rcases a with ⟨_,a⟩
  rintro K ⟨r,h,hK⟩
  repeat'
    conv=>whnf
    first
    | with_reducible refine ZrU ?_
    | with_reducible refine Ze8 (by assumption) (by assumption) (by assumption) ?_
    | with_reducible refine Zhy (by assumption) ?_
    | with_reducible refine Zfa (by assumption) ?_
    | (with_reducible refine shD ?_);first | refine Zn5 h (fun h=>?_) (fun h=>?_) | refine Zrm h (fun h=>?_) (fun h=>?_)
    | (with_reducible refine ZsE ?_);first | refine Zs1 ?_ | refine ZlG ?_
    | (with_reducible refine ZvZ ?_);first | refine ZpC h (fun h=>?_) (fun h=>?_) | refine ZsR h (fun h=>?_) (fun h=>?_)
    | (with_reducible refine ZsD ?_);(refine ⟨fun hd=>?_,?_⟩)<;>try subst hd
    | (with_reducible refine Zv1 ?_);first | with_reducible refine Zdx h (fun x hb h=>?_) | refine Zfa (by assumption) ?_ | with_reducible refine pG h (fun hp h=>?_) | with_reducible refine pA h (fun x ha hb hx h=>?_) | with_reducible refine pB h (fun x hb h=>?_) | refine Zdx h (fun x hb h=>?_)
    | (with_reducible refine ZvY ?_);first | with_reducible refine vAt h (fun x ha hb hx h=>?_) | refine Ze8 (by assumption) (by assumption) (by assumption) ?_ | with_reducible refine pG h (fun hp h=>?_) | with_reducible refine pA h (fun x ha hb hx h=>?_) | with_reducible refine pB h (fun x hb h=>?_) | refine vAt h (fun x ha hb hx h=>?_)
    | (with_reducible refine ZsC ?_);first | with_reducible refine ZnG h (fun x hb h=>?_) | refine Zhy (by assumption) ?_ | with_reducible refine pG h (fun hp h=>?_) | with_reducible refine pA h (fun x ha hb hx h=>?_) | with_reducible refine pB h (fun x hb h=>?_) | refine ZnG h (fun x hb h=>?_)
    | with_reducible refine Zv0 ?_
    | (with_reducible refine Zpm ?_);refine ZpA h hK ?_;clear h hK;intro I μ v r h hK;(repeat rcases v with ⟨_,v⟩);(try dsimp only at h)
    | with_reducible refine ⟨by assumption,?_⟩
    | with_reducible refine orL ?_
    | with_reducible refine .inr ?_
    | (with_reducible refine ZsF ?_);first | refine ⟨?_,True.intro⟩ | refine ⟨?_,?_⟩
    | refine ⟨by kernel_rfl,?_⟩
    | refine ⟨by decide,?_⟩
    | with_reducible refine Zs2 h (fun hp h=>?_)
    | intro fp
    | exact trivial
    | with_reducible exact ZrP h
    | (refine pS h (fun e=>?_));subst e;(repeat (first | exact hK | exact ⟨⟨rfl,rfl⟩,hK.1 _ rfl⟩ | (refine pR hK (fun e hK=>?_));subst e));done
    | refine Zs2 h (fun hp h=>?_)
    | refine ⟨by assumption,?_⟩
    | with_reducible refine pG h (fun hp h=>?_) | with_reducible refine pA h (fun x ha hb hx h=>?_) | with_reducible refine pB h (fun x hb h=>?_)
    | refine pG h (fun hp h=>?_)
    | fail
end Go.Proofs.YtpiemlnhjobopaaGreatDoor
