/-
  The functions keep their contracts, if what they call does. Printed by program.
-/
import Derived.Test.YtjfbeebdhmebpaaGreatDoorM
import Derived.KernelRfl
namespace Go.Proofs.YtjfbeebdhmebpaaGreatDoor
open Go Go.Sx
set_option maxRecDepth 100000
set_option maxHeartbeats 3200000
set_option linter.unusedVariables false
set_option linter.unusedSimpArgs false
structure Ws4:Prop where
 w134:Sq 90 Ztc
 w202:Sq 118 ZCy→Sq 119 c130→Sq 120 ZCz→Sq 121 c201→Sq 81 ZCA
 w101:Sq 255 ZsR
 w114:Sq 224 ZsZ→Sq 227 Zs0
 w106:Sq 238 c87→Sq 239 ZsQ→Sq 240 ZsT→Sq 241 c105→Sq 226 ZrQ→Sq 48 c80→Sq 223 ZsU
 w125:Sq 200 c119→Sq 48 c80→Sq 131 c124→Sq 172 Zs6
 w85:Sq 211 c81→Sq 215 c84→Sq 199 c85
 w97:Sq 252 c95→Sq 253 c96→Sq 251 c97
 w144:Sq 47 Zte→Sq 67 c143→Sq 68 Zsw→Sq 34 Zth
 w196:Sq 117 c196
 w143:Sq 68 Zsw→Sq 102 Ztg→Sq 67 c143
 w169:Sq 77 c168→Sq 40 Zts
 w163:Sq 109 c162→Sq 75 Ztp
 w161:Sq 74 Zto
 w19:Sq 9 c19
 w10:Sq 94 c2→Sq 92 c10
 w11:Sq 92 c10→Sq 54 c11
 w1:Sq 178 c0→Sq 133 c1
 w13:Sq 93 c13
 w4:Sq 216 c3→Sq 204 c4
 w22:Sq 101 c22
 w29:Sq 61 c28→Sq 30 c29
 w21:Sq 180 c20→Sq 136 c21
 w33:Sq 100 c33
 w23:Sq 101 c22→Sq 217 c23
 w142:Sq 138 c141→Sq 102 Ztg
 w113:Sq 242 ZsY→Sq 224 ZsZ
 w141:Sq 103 Ztf→Sq 138 c141
 w123:Sq 201 Zs4→Sq 177 Zs5
 w90:Sq 132 c89→Sq 177 c90
 w47:Sq 244 c46→Sq 229 c47
 w187:Sq 160 ZCs
 w42:Sq 197 c42
 w44:Sq 197 c42→Sq 44 c43→Sq 208 c44
 w60:Sq 154 c56→Sq 168 c60
 w56:Sq 154 c56
 w66:Sq 82 c59→Sq 83 c65→Sq 43 c66
 w181:Sq 190 ZCa→Sq 193 ZCl→Sq 192 ZCm→Sq 191 ZCn→Sq 156 ZCo
 w62:Sq 168 c60→Sq 169 c61→Sq 126 c62
 w63:Sq 135 c63
 w64:Sq 126 c62→Sq 135 c63→Sq 125 c64
 w68:Sq 126 c62→Sq 84 c68
 w77:Sq 84 c68→Sq 97 c76→Sq 60 c77
 w213:Sq 43 c66→Sq 45 c71→Sq 51 c213
set_option maxHeartbeats 100000000 in
theorem ws4:Ws4:=by
 refine ⟨(Ze Zm Zh mixed {draws:=[(1,[0,1,3,0,8,24,0,120,248,504,1023,2047,4095],.op 0 (.op 1 (.op 2 (.op 3 (.op 4 (.op 5 (.op 6 (.op 7 (.op 8 (.op 9 (.op 10 (.op 11 (.alt 12 (.done) (.done))))))))))))))]} Tryz.func90 (hvc:=?_)),
 (fun q0 q1 q2 q3=>Ze Zm (Zc q0 (Zc q1 (Zc q2 (Zc q3 Zh)))) mixed {loops:=[(0,[.reg 27 (.dat Iq),.ent 2 (nat_lit 2) (.flat (Ty.int IntKind.i64))]),(2,[.reg 10 (.dat Iq),.ent 2 (nat_lit 2) (.flat (Ty.int IntKind.i64))])],draws:=[(7,[0,0,2,0,14,30,63,127,0,256,0,1024,0,0,12288,28672,65280,131071,262143,524287],.op 0 (.op 1 (.op 2 (.op 3 (.op 4 (.op 5 (.op 6 (.op 7 (.op 8 (.op 9 (.op 10 (.op 11 (.op 12 (.op 13 (.op 14 (.op 15 (.alt 16 (.op 17 (.op 18 (.alt 19 (.done) (.done)))) (.done)))))))))))))))))),(12,[0,0,2,0,14,30,63,127,0,0,768,1792,4095,8191,16383],.op 0 (.op 1 (.op 2 (.op 3 (.op 4 (.op 5 (.op 6 (.op 7 (.op 8 (.op 9 (.op 10 (.op 11 (.op 12 (.op 13 (.alt 14 (.done) (.done))))))))))))))))]} Tryz.func81 (hvc:=?_)),
 (Ze Zm Zh mixed {} Tryz.func255 (hvc:=?_)),
 (fun q0=>Ze Zm (Zc q0 Zh) mixed {} Tryz.func227 (hvc:=?_)),
 (fun q4 q3 q2 q0 q1 q5=>Ze Zm (Zc q4 (Zc q3 (Zc q2 (Zc q0 (Zc q1 (Zc q5 Zh)))))) mixed {draws:=[(2,[0,1,3,7,15,31,63,127,255,511,1023,2047,4095,8191,16383,32767,65535,32767,163839,524287,1048575,2097151,4194303,8388607,16777215,33554431,67108863,134217727,134217727,402653183,1073741823,2147483647,4294967295,8589934591,17179869183,8589934591,42949672959,137438953471,274877906943,549755813887],.op 0 (.op 1 (.op 2 (.op 3 (.op 4 (.op 5 (.op 6 (.op 7 (.op 8 (.op 9 (.op 10 (.op 11 (.alt 12 (.op 13 (.op 14 (.op 15 (.op 16 (.op 17 (.alt 18 (.op 19 (.op 20 (.op 21 (.op 22 (.op 23 (.op 24 (.op 25 (.op 26 (.op 27 (.op 28 (.op 29 (.alt 30 (.op 31 (.op 32 (.op 33 (.op 34 (.op 35 (.op 36 (.op 37 (.op 38 (.op 39 (.done)))))))))) (.done))))))))))))) (.done))))))) (.done)))))))))))))),(3,[0,1,3,7,15,31,63,127,255,511,1023,2047,4095,2047,10239,32767,65535,131071,262143,262143,786431,2097151,4194303,8388607],.op 0 (.op 1 (.alt 2 (.op 3 (.op 4 (.op 5 (.op 6 (.alt 7 (.op 8 (.op 9 (.op 10 (.op 11 (.op 12 (.op 13 (.alt 14 (.op 15 (.op 16 (.op 17 (.op 18 (.op 19 (.op 20 (.alt 21 (.op 22 (.op 23 (.done))) (.done)))))))) (.done)))))))) (.done)))))) (.done))))]} Tryz.func223 (hvc:=?_)),
 (fun q1 q2 q0=>Ze Zm (Zc q1 (Zc q2 (Zc q0 Zh))) mixed {draws:=[(1,[0,1,0,4,12,28,63,127,255,511,1023,255,2303,255,8447,30975,63743,129279,260351,524287,1048575,2097151,4194303,8388607,4194303,33554431,67108863,134217727,268435455],.op 0 (.op 1 (.op 2 (.op 3 (.alt 4 (.op 5 (.alt 6 (.op 7 (.op 8 (.op 9 (.op 10 (.op 11 (.op 12 (.op 13 (.op 14 (.op 15 (.op 16 (.op 17 (.op 18 (.op 19 (.op 20 (.op 21 (.op 22 (.op 23 (.op 24 (.alt 25 (.op 26 (.op 27 (.op 28 (.done)))) (.done)))))))))))))))))))) (.done))) (.done))))))]} Tryz.func172 (hvc:=?_)),
 (fun q1 q0=>Ze Zm (Zc q1 (Zc q0 Zh)) mixed {loops:=[(0,[.reg 7 (.dat Iq)])]} Tryz.func199 (hvc:=?_)),
 (fun q1 q0=>Ze Zm (Zc q1 (Zc q0 Zh)) mixed {} Tryz.func251 (hvc:=?_)),
 (fun q2 q0 q1=>Ze Zm (Zc q2 (Zc q0 (Zc q1 Zh))) mixed {loops:=[(1,[.reg 35 (.dat Iq),.entm 1 (Zrs.ty) (Zrs.ety)])],draws:=[(10,[0,1,3,7,0,0,0,96,224,511],.op 0 (.op 1 (.op 2 (.op 3 (.op 4 (.op 5 (.op 6 (.op 7 (.op 8 (.alt 9 (.done) (.done)))))))))))]} Tryz.func34 (hvc:=?_)),
 (Ze Zm Zh mixed {loops:=[(0,[.reg 7 (.dat Iq),.reg 12 (.dat Iq)])]} Tryz.func117 (hvc:=?_)),
 (fun q1 q0=>Ze Zm (Zc q1 (Zc q0 Zh)) mixed {} Tryz.func67 (hvc:=?_)),
 (fun q0=>Ze Zm (Zc q0 Zh) mixed {} Tryz.func40 (hvc:=?_)),
 (fun q0=>Ze Zm (Zc q0 Zh) mixed {loops:=[(0,[.reg 5 (.dat Iq)])],draws:=[(6,[0,0,3,7,0,0,48,112,255,511],.op 0 (.op 1 (.op 2 (.op 3 (.op 4 (.op 5 (.op 6 (.op 7 (.alt 8 (.op 9 (.done)) (.done))))))))))]} Tryz.func75 (hvc:=?_)),
 (Ze Zm Zh mixed {loops:=[(0,[.reg 5 (.dat Iq)])],draws:=[(6,[0,0,3,7,0,0,48,112,255],.op 0 (.op 1 (.op 2 (.op 3 (.op 4 (.op 5 (.op 6 (.op 7 (.op 8 (.done))))))))))]} Tryz.func74 (hvc:=?_)),
 (Ze Zm Zh mixed {} Tryz.func9 (hvc:=?_)),
 (fun q0=>Ze Zm (Zc q0 Zh) mixed {} Tryz.func92 (hvc:=?_)),
 (fun q0=>Ze Zm (Zc q0 Zh) mixed {loops:=[(0,[.reg 1 (.dat Iq),.reg 5 (.dat Iq)])]} Tryz.func54 (hvc:=?_)),
 (fun q0=>Ze Zm (Zc q0 Zh) mixed {loops:=[(0,[.reg 1 (.dat Iq),.reg 5 (.dat Iq)])]} Tryz.func133 (hvc:=?_)),
 (Ze Zm Zh mixed {} Tryz.func93 (hvc:=?_)),
 (fun q0=>Ze Zm (Zc q0 Zh) mixed {loops:=[(0,[.reg 1 (.dat Iq),.reg 5 (.dat Iq)])]} Tryz.func204 (hvc:=?_)),
 (Ze Zm Zh mixed {loops:=[(0,[.reg 4 (.dat Iq),.ent 0 (nat_lit 2) (.flat ZnW.ety)])]} Tryz.func101 (hvc:=?_)),
 (fun q0=>Ze Vg (Zc q0 Zh) mixed {} Tryz.func30 (hvc:=?_)),
 (fun q0=>Ze Zm (Zc q0 Zh) mixed {loops:=[(0,[.reg 4 (.dat Iq),.ent 0 (nat_lit 231) (.flat Zqa.ety)])]} Tryz.func136 (hvc:=?_)),
 (Ze Zm Zh mixed {} Tryz.func100 (hvc:=?_)),
 (fun q0=>Ze Zm (Zc q0 Zh) mixed {} Tryz.func217 (hvc:=?_)),
 (fun q0=>Ze Zm (Zc q0 Zh) mixed {} Tryz.func102 (hvc:=?_)),
 (fun q0=>Ze Zm (Zc q0 Zh) mixed {} Tryz.func224 (hvc:=?_)),
 (fun q0=>Ze Zm (Zc q0 Zh) mixed {loops:=[(0,[.reg 8 (.dat Iq)])]} Tryz.func138 (hvc:=?_)),
 (fun q0=>Ze Zm (Zc q0 Zh) mixed {loops:=[(0,[.reg 8 (.dat Iq)])]} Tryz.func177 (hvc:=?_)),
 (fun q0=>Ze Zm (Zc q0 Zh) mixed {loops:=[(0,[.reg 8 (.dat Iq)])]} Tryz.func177 (hvc:=?_)),
 (fun q0=>Ze Zm (Zc q0 Zh) mixed {loops:=[(0,[.reg 5 (.dat Iq),.cell 1004 0 Iq,.cell 1004 1 Iq])],draws:=[(3,[0,1,3,7,0,16,48,112,255,0,1023],.op 0 (.op 1 (.op 2 (.op 3 (.op 4 (.op 5 (.op 6 (.op 7 (.op 8 (.alt 9 (.alt 10 (.done) (.done)) (.done))))))))))),(7,[0,1,0,4,0,28,60,127,255,511],.op 0 (.op 1 (.op 2 (.op 3 (.op 4 (.op 5 (.op 6 (.op 7 (.op 8 (.alt 9 (.done) (.done))))))))))),(8,[0,1,0,4,0,28,60,127,255,511],.op 0 (.op 1 (.op 2 (.op 3 (.op 4 (.op 5 (.op 6 (.op 7 (.op 8 (.alt 9 (.done) (.done)))))))))))]} Tryz.func229 (hvc:=?_)),
 (Ze Zm Zh mixed {} Tryz.func160 (hvc:=?_)),
 (Ze Zm Zh mixed {loops:=[(0,[.reg 3 (.dat Iq)])]} Tryz.func197 (hvc:=?_)),
 (fun q0 q1=>Ze Zm (Zc q0 (Zc q1 Zh)) mixed {loops:=[(0,[.reg 5 (.dat Iq),.reg 6 (.dat Iq)]),(2,[.reg 8 (.dat Iq)])],draws:=[(12,[0,1,0,7,15,31,0,64,255],.op 0 (.op 1 (.op 2 (.op 3 (.op 4 (.op 5 (.op 6 (.op 7 (.op 8 (.done))))))))))]} Tryz.func208 (hvc:=?_)),
 (fun q0=>Ze Zm (Zc q0 Zh) mixed {loops:=[(0,[.reg 6 (.dat Iq)])]} Tryz.func168 (hvc:=?_)),
 (Ze Zm Zh mixed {loops:=[(0,[.reg 3 (.own (.ol 221 (.flat (ZbU)))),.reg 4 (.dat Iq)]),(2,[.reg 3 (.own (.ol 221 (.flat (ZbU)))),.reg 6 (.dat Iq)]),(4,[.reg 3 (.own (.ol 221 (.flat (ZbU)))),.reg 7 (.dat Iq)])],draws:=[(13,[0,0,0,4,0,28,60,124,0,256,0,1792,3840,7936,16128,32766,65534,131071,262143],.op 0 (.op 1 (.op 2 (.op 3 (.op 4 (.op 5 (.op 6 (.op 7 (.op 8 (.op 9 (.op 10 (.op 11 (.op 12 (.op 13 (.op 14 (.op 15 (.alt 16 (.alt 17 (.op 18 (.done)) (.done)) (.done))))))))))))))))))]} Tryz.func154 (hvc:=?_)),
 (fun q1 q0=>Ze Zm (Zc q1 (Zc q0 Zh)) mixed {} Tryz.func43 (hvc:=?_)),
 (fun q1 q2 q0 q3=>Ze Zm (Zc q1 (Zc q2 (Zc q0 (Zc q3 Zh)))) mixed {loops:=[(0,[.reg 7 (.own (.ol 2 (.flat Iq))),.reg 8 (.dat Iq)])],draws:=[(5,[0,0,0,0,0,0,0,64,224,504,1022,2046,4095,8191],.op 0 (.op 1 (.op 2 (.op 3 (.op 4 (.op 5 (.op 6 (.op 7 (.alt 8 (.alt 9 (.alt 10 (.alt 11 (.alt 12 (.op 13 (.done)) (.done)) (.done)) (.done)) (.done)) (.done))))))))))]} Tryz.func156 (hvc:=?_)),
 (fun q0 q1=>Ze Zm (Zc q0 (Zc q1 Zh)) mixed {} Tryz.func126 (hvc:=?_)),
 (Ze Zm Zh mixed {} Tryz.func135 (hvc:=?_)),
 (fun q1 q0=>Ze Zm (Zc q1 (Zc q0 Zh)) mixed {loops:=[(0,[.reg 6 (.dat Iq),.ent 1 (nat_lit 2) (.flat ZnW.ety)]),(2,[.reg 7 (.dat (.bool)),.reg 8 (.dat Iq),.ent 1 (nat_lit 2) (.flat ZnW.ety)]),(4,[.reg 10 (.dat Iq),.reg 12 (.dat Iq)])]} Tryz.func125 (hvc:=?_)),
 (fun q0=>Ze Zm (Zc q0 Zh) mixed {loops:=[(0,[.reg 3 (.own (.ol 2 (.flat Iq))),.reg 4 (.dat Iq)])]} Tryz.func84 (hvc:=?_)),
 (fun q0 q1=>Ze Zm (Zc q0 (Zc q1 Zh)) mixed {} Tryz.func60 (hvc:=?_)),
 (fun q1 q0=>Ze Zm (Zc q1 (Zc q0 Zh)) mixed {} Tryz.func51 (hvc:=?_))⟩
 all_goals
  intro a
  repeat rcases a with ⟨_,a⟩
  rintro K ⟨r,h,hK⟩
  repeat'
    conv=>whnf
    first
    | with_reducible refine Znj ?_
    | with_reducible refine Za7 (by assumption) (by assumption) (by assumption) ?_
    | with_reducible refine Za5 (by assumption) ?_
    | with_reducible refine Za9 (by assumption) ?_
    | (with_reducible refine shD ?_);first | refine Znb h (fun h=>?_) (fun h=>?_) | refine ZnR h (fun h=>?_) (fun h=>?_)
    | (with_reducible refine ZnI ?_);first | refine Zqb ?_ | refine ZkM ?_
    | (with_reducible refine ZrF ?_);first | refine Zpm h (fun h=>?_) (fun h=>?_) | refine ZnQ h (fun h=>?_) (fun h=>?_)
    | (with_reducible refine ZnH ?_);(refine ⟨fun hd=>?_,?_⟩)<;>try subst hd
    | (with_reducible refine ZrH ?_);first | with_reducible refine ZbV h (fun x hb h=>?_) | refine Za9 (by assumption) ?_ | with_reducible refine pG h (fun hp h=>?_) | with_reducible refine pA h (fun x ha hb hx h=>?_) | with_reducible refine pB h (fun x hb h=>?_) | refine ZbV h (fun x hb h=>?_)
    | (with_reducible refine ZrE ?_);first | with_reducible refine vAt h (fun x ha hb hx h=>?_) | refine Za7 (by assumption) (by assumption) (by assumption) ?_ | with_reducible refine pG h (fun hp h=>?_) | with_reducible refine pA h (fun x ha hb hx h=>?_) | with_reducible refine pB h (fun x hb h=>?_) | refine vAt h (fun x ha hb hx h=>?_)
    | (with_reducible refine ZnG ?_);first | with_reducible refine ZhF h (fun x hb h=>?_) | refine Za5 (by assumption) ?_ | with_reducible refine pG h (fun hp h=>?_) | with_reducible refine pA h (fun x ha hb hx h=>?_) | with_reducible refine pB h (fun x hb h=>?_) | refine ZhF h (fun x hb h=>?_)
    | with_reducible refine ZrG ?_
    | (with_reducible refine ZjW ?_);refine Zj1 h hK ?_;clear h hK;intro I μ v r h hK;(repeat rcases v with ⟨_,v⟩);(try dsimp only at h)
    | with_reducible refine ⟨by assumption,?_⟩
    | with_reducible refine orL ?_
    | with_reducible refine .inr ?_
    | (with_reducible refine ZnJ ?_);first | refine ⟨?_,True.intro⟩ | refine ⟨?_,?_⟩
    | refine ⟨by kernel_rfl,?_⟩
    | refine ⟨by decide,?_⟩
    | with_reducible refine ZnX h (fun hp h=>?_)
    | intro fp
    | exact trivial
    | with_reducible exact Znh h
    | (refine pS h (fun e=>?_));subst e;(repeat (first | exact hK | exact ⟨⟨rfl,rfl⟩,hK.1 _ rfl⟩ | (refine pR hK (fun e hK=>?_));subst e));done
    | refine ZnX h (fun hp h=>?_)
    | refine ⟨by assumption,?_⟩
    | with_reducible refine pG h (fun hp h=>?_) | with_reducible refine pA h (fun x ha hb hx h=>?_) | with_reducible refine pB h (fun x hb h=>?_)
    | refine pG h (fun hp h=>?_)
    | fail
theorem w_laws_FnExactPowerBelow (q5:Sq 8 c18) (q0:Sq 9 c19) (q6:Sq 11 c38) (q1:Sq 12 c41) (q3:Sq 21 ZCD) (q4:Sq 22 ZCE) (q7:Sq 14 c167) (q2:Sq 15 Ztt):Sq 6 ZwC:=by
 refine Ze Zm (Zc q5 (Zc q0 (Zc q6 (Zc q1 (Zc q3 (Zc q4 (Zc q7 (Zc q2 Zh)))))))) mixed {draws:=[(14,[0,0,2,7,15],.op 0 (.op 1 (.alt 2 (.alt 3 (.op 4 (.done)) (.done)) (.done))))]} (fn:=Tryz.f6) Tryz.func6 (by kernel_rfl) (by kernel_rfl) ?_
 rintro ⟨aB0,aList0,aBudget0,⟨⟩⟩ K ⟨r,h,hK⟩
 change ZvT aB0 aList0 aBudget0=some r at h
 unfold ZvT at h
 conv=>whnf
 refine ZbV h (fun szBlock0 hb0 h=>?_)
 conv=>whnf
 refine Znb h (fun h=>?_) (fun h=>?_)
 conv=>whnf
 cases h
 exact hK
 conv=>whnf
 refine ZbV h (fun szActivityS0 hb1 h=>?_)
 conv=>whnf
 refine Znb h (fun h=>?_) (fun h=>?_)
 conv=>whnf
 cases h
 exact hK
 conv=>whnf
 refine ZbV h (fun toBlock0 hb2 h=>?_)
 conv=>whnf
 intro fp3
 conv=>whnf
 intro fp4
 conv=>whnf
 intro fp5
 conv=>whnf
 refine ZbV h (fun toActivityS0 hb6 h=>?_)
 conv=>whnf
 refine ZbV h (fun PowerBelow0 hb7 h=>?_)
 conv=>whnf
 refine ⟨_,hb2,?_⟩
 conv=>whnf
 intro fp8
 conv=>whnf
 intro fp9
 conv=>whnf
 intro fp10
 conv=>whnf
 refine ⟨_,hb6,?_⟩
 conv=>whnf
 refine ZbV h (fun PowerBelow1 hb11 h=>?_)
 conv=>whnf
 refine Zqb ?_
 refine Zpm h (fun h=>?_) (fun h=>?_)
 conv=>whnf
 refine ZkM ?_
 refine Znb h (fun h=>?_) (fun h=>?_)
 conv=>whnf
 refine ⟨by kernel_rfl,?_⟩
 conv=>whnf
 refine ⟨_,hb2,?_⟩
 conv=>whnf
 intro fp12
 conv=>whnf
 intro fp13
 conv=>whnf
 intro fp14
 conv=>whnf
 refine ZbV h (fun eqBlock0 hb15 h=>?_)
 conv=>whnf
 refine ⟨trivial,?_⟩
 conv=>whnf
 refine ZkM ?_
 refine Zpm h (fun h=>?_) (fun h=>?_)
 conv=>whnf
 refine ⟨_,hb6,?_⟩
 conv=>whnf
 refine ZbV h (fun eqActivityS0 hb16 h=>?_)
 conv=>whnf
 refine ZkM ?_
 refine Zpm h (fun h=>?_) (fun h=>?_)
 conv=>whnf
 cases h
 exact hK
 conv=>whnf
 cases h
 exact hK
 conv=>whnf
 cases h
 exact hK
 conv=>whnf
 cases h
 exact hK
 conv=>whnf
 cases h
 exact hK
end Go.Proofs.YtjfbeebdhmebpaaGreatDoor
