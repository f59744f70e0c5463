/-
  The functions keep their contracts, if what they call does. Printed by program.
-/
import Derived.Test.YtpiemlnhjobopaaGreatDoorM
import Derived.KernelRfl
namespace Go.Proofs.YtpiemlnhjobopaaGreatDoor
open Go Go.Sx
set_option maxRecDepth 100000
set_option maxHeartbeats 3200000
set_option linter.unusedVariables false
set_option linter.unusedSimpArgs false
structure Ws3:Prop where
 w149:Sq 197 c148→Sq 265 Zxj
 w124:Sq 361 ZvB→Sq 170 Zt7→Sq 362 Zw4→Sq 342 c124
 w113:Sq 357 c91→Sq 361 ZvB
 w134:Sq 308 Zw7→Sq 242 c89→Sq 175 Zxa→Sq 256 Zxb
 w146:Sq 193 c139→Sq 263 c146
 w142:Sq 192 c138→Sq 193 c139→Sq 194 c141→Sq 118 Zxg
 w104:Sq 388 ZwR→Sq 170 Zt7→Sq 382 ZwS
 w165:Sq 177 Zwv→Sq 294 c164→Sq 228 Zxp
 w91:Sq 357 c91
 w129:Sq 310 Zw8
 w206:Sq 134 c206
 w189:Sq 28 Zt8
 w196:Sq 129 ZxI→Sq 55 c196
 w184:Sq 128 Zww
 w191:Sq 363 ZxF→Sq 345 ZxG
 w204:Sq 133 c203→Sq 57 ZxN
 w234:Sq 18 c234
 w217:Sq 30 Zt9
 w221:Sq 138 ZxV→Sq 62 ZxW
 w216:Sq 142 Zs6→Sq 217 ZxT
 w223:Sq 142 Zs6→Sq 140 ZxX
 w5:Sq 335 c4→Sq 303 c5
 w6:Sq 303 c5→Sq 247 c6
 w8:Sq 178 c7→Sq 95 c8
 w19:Sq 100 c19
 w10:Sq 181 c2→Sq 179 c10
 w11:Sq 179 c10→Sq 96 c11
 w2:Sq 181 c2
 w26:Sq 39 c20→Sq 40 c21→Sq 41 c23→Sq 42 c25→Sq 7 c26
 w4:Sq 354 c3→Sq 335 c4
 w16:Sq 181 c2→Sq 99 c16
 w35:Sq 189 c34→Sq 110 c35
 w54:Sq 23 c53→Sq 51 c54
 w42:Sq 111 c38→Sq 112 c39→Sq 113 c41→Sq 46 c42
 w36:Sq 110 c35→Sq 45 c36
 w40:Sq 191 c40
 w41:Sq 191 c40→Sq 113 c41
 w171:Sq 269 Zxs→Sq 205 c171
 w137:Sq 311 Zxd→Sq 258 Zxe
 w111:Sq 385 ZwV→Sq 384 ZwW
 w105:Sq 383 c105
 w69:Sq 248 c66→Sq 249 c67→Sq 250 c68→Sq 182 c69
 w82:Sq 102 c73→Sq 187 c81→Sq 186 c57→Sq 106 c82
 w66:Sq 304 c65→Sq 248 c66
 w71:Sq 105 c70→Sq 149 c71
 w86:Sq 109 c86
set_option maxHeartbeats 100000000 in
theorem ws3:Ws3:=by
 refine ⟨(fun q0=>Ze Zp (Zc q0 Zg) mixed {loops:=[(0,[.reg 8 (.dat Iq),.ent 3 (nat_lit 2) (.flat Zs0.ety)])],draws:=[(1,[0,1,0,7,15,0,0,96,0,511,1023],.op 0 (.op 1 (.op 2 (.op 3 (.op 4 (.op 5 (.op 6 (.alt 7 (.alt 8 (.alt 9 (.op 10 (.done)) (.done)) (.done)) (.alt 8 (.alt 7 (.alt 9 (.op 10 (.done)) (.done)) (.done)) (.done)))))))))),(6,[0,0,0,0,8,0,56,120,252,508,0,1024,0,7168,15360,0,0,98304,229376,523264,1048572,2097151,4194303],.op 0 (.op 1 (.op 2 (.op 3 (.op 4 (.op 5 (.op 6 (.op 7 (.op 8 (.op 9 (.op 10 (.op 11 (.op 12 (.op 13 (.op 14 (.op 15 (.op 16 (.op 17 (.op 18 (.op 19 (.op 20 (.op 21 (.alt 22 (.done) (.done))))))))))))))))))))))))]} Tryz.func265 (hvc:=?_)),
 (fun q0 q1 q2=>Ze Zp (Zc q0 (Zc q1 (Zc q2 Zg))) mixed {loops:=[(0,[.reg 3 (.dat Iq),.reg 9 (.dat Iq)])],draws:=[(10,[0,1,3,7,15,31,7,71,199,511,1023,2047,4095,8191,16383,32767,65535],.op 0 (.op 1 (.op 2 (.op 3 (.op 4 (.op 5 (.op 6 (.alt 7 (.op 8 (.op 9 (.op 10 (.op 11 (.op 12 (.op 13 (.alt 14 (.op 15 (.op 16 (.done))) (.done)))))))) (.done))))))))),(12,[0,1,3,7,15,31,63,127,255,511,1023,2047,4095,8191,16383,32767,16383,131071,262143,524287,1048575],.op 0 (.op 1 (.op 2 (.op 3 (.op 4 (.op 5 (.op 6 (.op 7 (.op 8 (.op 9 (.alt 10 (.op 11 (.op 12 (.op 13 (.op 14 (.op 16 (.alt 15 (.alt 17 (.op 18 (.op 19 (.op 20 (.done)))) (.done)) (.done))))))) (.done))))))))))))]} Tryz.func342 (hvc:=?_)),
 (fun q0=>Ze Zp (Zc q0 Zg) mixed {} Tryz.func361 (hvc:=?_)),
 (fun q1 q2 q0=>Ze Zp (Zc q1 (Zc q2 (Zc q0 Zg))) mixed {draws:=[(1,[0,1,0,4,12,28,63,127,255,511,1023,255,2303,255,8447,30975,63743,129279,260351,524287,1048575,2097151,4194303,8388607,4194303,33554431,67108863,134217727,268435455],.op 0 (.op 1 (.op 2 (.op 3 (.alt 4 (.op 5 (.alt 6 (.op 7 (.op 8 (.op 9 (.op 10 (.op 11 (.op 12 (.op 13 (.op 14 (.op 15 (.op 16 (.op 17 (.op 18 (.op 19 (.op 20 (.op 21 (.op 22 (.op 23 (.op 24 (.alt 25 (.op 26 (.op 27 (.op 28 (.done)))) (.done)))))))))))))))))))) (.done))) (.done))))))]} Tryz.func256 (hvc:=?_)),
 (fun q0=>Ze Zp (Zc q0 Zg) mixed {loops:=[(0,[.reg 5 (.own (.ol 2 (.flat Iq))),.reg 11 (.dat Iq)])]} Tryz.func263 (hvc:=?_)),
 (fun q1 q0 q2=>Ze Zp (Zc q1 (Zc q0 (Zc q2 Zg))) mixed {loops:=[(0,[.reg 32 (.dat Iq),.ent 1 (nat_lit 2) (.flat Zs0.ety)]),(2,[.reg 50 (.dat Iq)])],draws:=[(13,[0,0,0,6,14,31,63],.op 0 (.op 1 (.op 2 (.op 3 (.op 4 (.alt 5 (.op 6 (.done)) (.done)))))))]} Tryz.func118 (hvc:=?_)),
 (fun q1 q0=>Ze Zp (Zc q1 (Zc q0 Zg)) mixed {} Tryz.func382 (hvc:=?_)),
 (fun q0 q1=>Ze Zp (Zc q0 (Zc q1 Zg)) mixed {} Tryz.func228 (hvc:=?_)),
 (Ze Zp Zg mixed {} Tryz.func357 (hvc:=?_)),
 (Ze Zp Zg mixed {} Tryz.func310 (hvc:=?_)),
 (Ze Zp Zg mixed {} Tryz.func134 (hvc:=?_)),
 (Ze Zp Zg mixed {loops:=[(0,[.reg 5 (.dat Iq)])],draws:=[(6,[0,0,3,7,0,0,48,112,255],.op 0 (.op 1 (.op 2 (.op 3 (.op 4 (.op 5 (.op 6 (.op 7 (.op 8 (.done))))))))))]} Tryz.func28 (hvc:=?_)),
 (fun q0=>Ze Zp (Zc q0 Zg) mixed {} Tryz.func55 (hvc:=?_)),
 (Ze Zp Zg mixed {} Tryz.func128 (hvc:=?_)),
 (fun q0=>Ze Zp (Zc q0 Zg) mixed {loops:=[(0,[.reg 5 (.dat Iq)])],draws:=[(6,[0,0,3,7,0,0,48,112,255,511],.op 0 (.op 1 (.op 2 (.op 3 (.op 4 (.op 5 (.op 6 (.op 7 (.alt 8 (.op 9 (.done)) (.done))))))))))]} Tryz.func345 (hvc:=?_)),
 (fun q0=>Ze Zp (Zc q0 Zg) mixed {loops:=[(0,[.reg 5 (.dat Iq)])],draws:=[(6,[0,0,3,7,0,0,48,112,255,511],.op 0 (.op 1 (.op 2 (.op 3 (.op 4 (.op 5 (.op 6 (.op 7 (.alt 8 (.op 9 (.done)) (.done))))))))))]} Tryz.func57 (hvc:=?_)),
 (Ze Zp Zg mixed {loops:=[(0,[.reg 1 (.dat Iq),.reg 5 (.dat Iq)])]} Tryz.func18 (hvc:=?_)),
 (Ze Xj Zg mixed {loops:=[(0,[.reg 1 (.dat Iq),.reg 5 (.dat Iq),.ent 0 (nat_lit 2) (.flat (Ty.int IntKind.i64))])]} Tryz.func30 (hvc:=?_)),
 (fun q0=>Ze Xj (Zc q0 Zg) mixed {} Tryz.func62 (hvc:=?_)),
 (fun q0=>Ze Xj (Zc q0 Zg) mixed {loops:=[(0,[.reg 1 (.dat Iq),.reg 5 (.dat Iq),.ent 0 (nat_lit 373) (.flat Zdb)])]} Tryz.func217 (hvc:=?_)),
 (fun q0=>Ze Xj (Zc q0 Zg) mixed {loops:=[(0,[.reg 1 (.dat Iq),.reg 5 (.dat Iq),.ent 0 (nat_lit 9) (.flat Ty.str)])]} Tryz.func140 (hvc:=?_)),
 (fun q0=>Ze Zp (Zc q0 Zg) mixed {} Tryz.func303 (hvc:=?_)),
 (fun q0=>Ze Zp (Zc q0 Zg) mixed {loops:=[(0,[.reg 1 (.dat Iq),.reg 5 (.dat Iq)])]} Tryz.func247 (hvc:=?_)),
 (fun q0=>Ze Zp (Zc q0 Zg) mixed {loops:=[(0,[.reg 1 (.dat Iq),.reg 5 (.dat Iq)])]} Tryz.func95 (hvc:=?_)),
 (Ze Zp Zg mixed {} Tryz.func100 (hvc:=?_)),
 (fun q0=>Ze Zp (Zc q0 Zg) mixed {} Tryz.func179 (hvc:=?_)),
 (fun q0=>Ze Zp (Zc q0 Zg) mixed {loops:=[(0,[.reg 1 (.dat Iq),.reg 5 (.dat Iq)])]} Tryz.func96 (hvc:=?_)),
 (Ze Zp Zg mixed {} Tryz.func181 (hvc:=?_)),
 (fun q3 q1 q0 q2=>Ze Zp (Zc q3 (Zc q1 (Zc q0 (Zc q2 Zg)))) mixed {} Tryz.func7 (hvc:=?_)),
 (fun q0=>Ze Zp (Zc q0 Zg) mixed {loops:=[(0,[.reg 1 (.dat Iq),.reg 5 (.dat Iq)])]} Tryz.func335 (hvc:=?_)),
 (fun q0=>Ze Zp (Zc q0 Zg) mixed {} Tryz.func99 (hvc:=?_)),
 (fun q0=>Ze Xj (Zc q0 Zg) mixed {loops:=[(0,[.reg 4 (.dat Iq),.ent 0 (nat_lit 241) Zol])]} Tryz.func110 (hvc:=?_)),
 (fun q0=>Ze Zp (Zc q0 Zg) mixed {loops:=[(0,[.reg 4 (.dat Iq),.ent 0 (nat_lit 82) (.flat ZwK.ety)])]} Tryz.func51 (hvc:=?_)),
 (fun q0 q1 q2=>Ze Xj (Zc q0 (Zc q1 (Zc q2 Zg))) mixed {} Tryz.func46 (hvc:=?_)),
 (fun q0=>Ze Xj (Zc q0 Zg) mixed {} Tryz.func45 (hvc:=?_)),
 (Ze Zp Zg mixed {} Tryz.func191 (hvc:=?_)),
 (fun q0=>Ze Zp (Zc q0 Zg) mixed {loops:=[(0,[.reg 4 (.dat Iq),.ent 0 (nat_lit 297) (.flat ZwH.ety)])]} Tryz.func113 (hvc:=?_)),
 (fun q0=>Ze Zp (Zc q0 Zg) mixed {} Tryz.func205 (hvc:=?_)),
 (fun q0=>Ze Zp (Zc q0 Zg) mixed {} Tryz.func258 (hvc:=?_)),
 (fun q0=>Ze Zp (Zc q0 Zg) mixed {loops:=[(0,[.reg 8 (.dat Iq)])]} Tryz.func384 (hvc:=?_)),
 (Ze Zp Zg mixed {loops:=[(0,[.reg 3 (.dat Iq),.reg 4 (.dat Iq)])]} Tryz.func383 (hvc:=?_)),
 (fun q0 q1 q2=>Ze Zp (Zc q0 (Zc q1 (Zc q2 Zg))) mixed {loops:=[(0,[.reg 5 (.own (.ol 9 (.flat (.str)))),.reg 6 (.dat Iq)]),(2,[.reg 7 (.own (.ol 9 (.flat (.str)))),.reg 8 (.dat Iq)]),(4,[.reg 10 (.dat Iq),.ent 6 (nat_lit 2) (.flat Zs0.ety)]),(6,[.reg 12 (.dat Iq),.ent 6 (nat_lit 2) (.flat Zs0.ety)]),(8,[.reg 13 (.dat Iq)])]} Tryz.func182 (hvc:=?_)),
 (fun q1 q0 q2=>Ze Zp (Zc q1 (Zc q0 (Zc q2 Zg))) mixed {} Tryz.func106 (hvc:=?_)),
 (fun q0=>Ze Zp (Zc q0 Zg) mixed {loops:=[(0,[.reg 3 (.dat Iq)]),(2,[.reg 4 (.dat Iq)])],draws:=[(9,[0,1,0,7,15,31,0,64,0,448,960,1984,4095],.op 0 (.op 1 (.op 2 (.op 3 (.op 4 (.op 5 (.op 6 (.op 7 (.op 8 (.op 9 (.op 10 (.op 11 (.op 12 (.done))))))))))))))]} Tryz.func248 (hvc:=?_)),
 (fun q0=>Ze Zp (Zc q0 Zg) mixed {loops:=[(0,[.reg 5 (.own (.ol 2 (.flat Iq))),.reg 7 (.dat Iq)])]} Tryz.func149 (hvc:=?_)),
 (Ze Zp Zg mixed {loops:=[(0,[.reg 7 (.dat Iq)])],draws:=[(2,[0,0,2,7,15,31,31,127,255,511,31,1055,4095,8191],.op 0 (.op 1 (.op 2 (.op 3 (.op 4 (.op 5 (.op 6 (.op 7 (.op 8 (.op 9 (.op 10 (.op 11 (.op 12 (.op 13 (.done))))))))))))))),(4,[0,0,2,7,15,31,31,127,255,511,31,1055,4095,8191],.op 0 (.op 1 (.op 2 (.op 3 (.op 4 (.op 5 (.op 6 (.op 7 (.op 8 (.op 9 (.op 10 (.op 11 (.op 12 (.op 13 (.done))))))))))))))),(6,[0,0,3,0,0,24,63,127],.op 0 (.op 1 (.op 3 (.op 4 (.alt 2 (.alt 5 (.alt 6 (.op 7 (.done)) (.done)) (.done)) (.alt 5 (.alt 2 (.alt 6 (.op 7 (.done)) (.done)) (.done)) (.done)))))))]} Tryz.func109 (hvc:=?_))⟩
 all_goals
  intro a
  repeat rcases a with ⟨_,a⟩
  rintro K ⟨r,h,hK⟩
  repeat'
    conv=>whnf
    first
    | with_reducible refine ZrU ?_
    | with_reducible refine Ze8 (by assumption) (by assumption) (by assumption) ?_
    | with_reducible refine Zhy (by assumption) ?_
    | with_reducible refine Zfa (by assumption) ?_
    | (with_reducible refine shD ?_);first | refine Zn5 h (fun h=>?_) (fun h=>?_) | refine Zrm h (fun h=>?_) (fun h=>?_)
    | (with_reducible refine ZsE ?_);first | refine Zs1 ?_ | refine ZlG ?_
    | (with_reducible refine ZvZ ?_);first | refine ZpC h (fun h=>?_) (fun h=>?_) | refine ZsR h (fun h=>?_) (fun h=>?_)
    | (with_reducible refine ZsD ?_);(refine ⟨fun hd=>?_,?_⟩)<;>try subst hd
    | (with_reducible refine Zv1 ?_);first | with_reducible refine Zdx h (fun x hb h=>?_) | refine Zfa (by assumption) ?_ | with_reducible refine pG h (fun hp h=>?_) | with_reducible refine pA h (fun x ha hb hx h=>?_) | with_reducible refine pB h (fun x hb h=>?_) | refine Zdx h (fun x hb h=>?_)
    | (with_reducible refine ZvY ?_);first | with_reducible refine vAt h (fun x ha hb hx h=>?_) | refine Ze8 (by assumption) (by assumption) (by assumption) ?_ | with_reducible refine pG h (fun hp h=>?_) | with_reducible refine pA h (fun x ha hb hx h=>?_) | with_reducible refine pB h (fun x hb h=>?_) | refine vAt h (fun x ha hb hx h=>?_)
    | (with_reducible refine ZsC ?_);first | with_reducible refine ZnG h (fun x hb h=>?_) | refine Zhy (by assumption) ?_ | with_reducible refine pG h (fun hp h=>?_) | with_reducible refine pA h (fun x ha hb hx h=>?_) | with_reducible refine pB h (fun x hb h=>?_) | refine ZnG h (fun x hb h=>?_)
    | with_reducible refine Zv0 ?_
    | (with_reducible refine Zpm ?_);refine ZpA h hK ?_;clear h hK;intro I μ v r h hK;(repeat rcases v with ⟨_,v⟩);(try dsimp only at h)
    | with_reducible refine ⟨by assumption,?_⟩
    | with_reducible refine orL ?_
    | with_reducible refine .inr ?_
    | (with_reducible refine ZsF ?_);first | refine ⟨?_,True.intro⟩ | refine ⟨?_,?_⟩
    | refine ⟨by kernel_rfl,?_⟩
    | refine ⟨by decide,?_⟩
    | with_reducible refine Zs2 h (fun hp h=>?_)
    | intro fp
    | exact trivial
    | with_reducible exact ZrP h
    | (refine pS h (fun e=>?_));subst e;(repeat (first | exact hK | exact ⟨⟨rfl,rfl⟩,hK.1 _ rfl⟩ | (refine pR hK (fun e hK=>?_));subst e));done
    | refine Zs2 h (fun hp h=>?_)
    | refine ⟨by assumption,?_⟩
    | with_reducible refine pG h (fun hp h=>?_) | with_reducible refine pA h (fun x ha hb hx h=>?_) | with_reducible refine pB h (fun x hb h=>?_)
    | refine pG h (fun hp h=>?_)
    | fail
theorem ZnH (rec0:(List Zb)→Int→Option Zbc) (hrec:Sq 124 (ZcR rec0)):Sq 124 (ZcR (Jf rec0)):=by
 refine Ze Zp (Zc hrec Zg) mixed {} (fn:=Tryz.f124) Tryz.func124 (by kernel_rfl) (by kernel_rfl) ?_
 rintro ⟨list0,k0,⟨⟩⟩ K ⟨r,h,hK⟩
 change Jf rec0 list0 k0=some r at h
 unfold Jf at h
 conv=>whnf
 refine vAt h (fun x0 he0a he0b he0x h=>?_)
 conv=>whnf
 refine Zn5 h (fun h=>?_) (fun h=>?_)
 conv=>whnf
 cases h
 exact hK
 conv=>whnf
 refine Zdx h (fun r0 hb1 h=>?_)
 conv=>whnf
 refine Zn5 h (fun h=>?_) (fun h=>?_)
 conv=>whnf
 refine ⟨by decide,?_⟩
 conv=>whnf
 refine ZpC h (fun h=>?_) (fun h=>?_)
 conv=>whnf
 cases h
 exact hK
 conv=>whnf
 cases h
 exact hK
 conv=>whnf
 refine ZpC h (fun h=>?_) (fun h=>?_)
 conv=>whnf
 cases h
 exact hK
 conv=>whnf
 cases h
 exact hK
theorem ZBm:Sq 124 c154:=by
 have hn:∀ n,Sq 124 (ZcR (V6 n)):=by
  intro n
  induction n with
  | zero =>
  refine Ze Zp Zg mixed {} (fn:=Tryz.f124) Tryz.func124 (by kernel_rfl) (by kernel_rfl) ?_
  rintro ⟨list0,k0,⟨⟩⟩ K ⟨r,h,hK⟩
  cases h
  | succ n ih=>exact ZnH _ ih
 refine ⟨(hn 0).1,?_⟩
 rintro w S vs ⟨list0,k0,⟨⟩⟩ fp K h1 h2 h3 h4 ⟨r,h,hK⟩
 obtain ⟨n,hr⟩:=Zpi h
 exact (hn n).2 w S vs _ fp K h1 h2 h3 h4 ⟨r,hr,hK⟩
end Go.Proofs.YtpiemlnhjobopaaGreatDoor
