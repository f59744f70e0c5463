/-
  The functions keep their contracts, if what they call does. Printed by program.
-/
import Derived.Test.YtjfbeebdhmebpaaGreatDoorM
import Derived.KernelRfl
namespace Go.Proofs.YtjfbeebdhmebpaaGreatDoor
open Go Go.Sx
set_option maxRecDepth 100000
set_option maxHeartbeats 3200000
set_option linter.unusedVariables false
set_option linter.unusedSimpArgs false
structure Ws1:Prop where
 w111:Sq 243 ZsX
 w105:Sq 226 ZrQ→Sq 48 c80→Sq 241 c105
 w115:Sq 226 ZrQ→Sq 88 c92→Sq 227 Zs0→Sq 214 Zs1
 w201:Sq 121 c201
 w200:Sq 119 c130→Sq 120 ZCz
 w210:Sq 47 Zte→Sq 49 c208→Sq 48 c80→Sq 34 Zth→Sq 42 c203→Sq 50 ZCc→Sq 19 c210
 w217:Sq 24 ZCf→Sq 22 ZCE
 w100:Sq 250 c99→Sq 239 ZsQ
 w89:Sq 48 c80→Sq 132 c89
 w147:Sq 35 Zti
 w203:Sq 36 c146→Sq 80 c198→Sq 35 Zti→Sq 81 ZCA→Sq 42 c203
 w195:Sq 164 c194→Sq 115 ZCw
 w208:Sq 49 c208
 w82:Sq 222 c82
 w136:Sq 86 Ztb→Sq 87 Ztd→Sq 89 c88→Sq 88 c92→Sq 47 Zte
 w137:Sq 68 Zsw
 w146:Sq 69 c145→Sq 70 ZhU→Sq 71 Ze9→Sq 36 c146
 w192:Sq 69 c145→Sq 90 Ztc→Sq 195 ZCv
 w162:Sq 109 c162
 w165:Sq 110 Zrz→Sq 76 Ztq
 w166:Sq 76 Ztq→Sq 39 Ztr
 w18:Sq 25 c9→Sq 26 c15→Sq 27 c17→Sq 8 c18
 w15:Sq 54 c11→Sq 55 c12→Sq 56 c14→Sq 26 c15
 w3:Sq 94 c2→Sq 216 c3
 w25:Sq 205 c24→Sq 181 c25
 w27:Sq 136 c21→Sq 137 c26→Sq 101 c22→Sq 98 c27
 w35:Sq 62 c31→Sq 63 c32→Sq 64 c34→Sq 31 c35
 w31:Sq 99 c30→Sq 62 c31
 w32:Sq 63 c32
 w37:Sq 65 c36→Sq 32 c37
 w199:Sq 118 ZCy
 w108:Sq 225 c107→Sq 242 ZsV
 w127:Sq 175 Zs7→Sq 203 c127
 w70:Sq 44 c43→Sq 127 c69→Sq 85 c70
 w43:Sq 44 c43
 w45:Sq 44 c43→Sq 256 c45
 w49:Sq 44 c43→Sq 219 c48→Sq 209 c49
 w48:Sq 229 c47→Sq 219 c48
 w61:Sq 122 c55→Sq 154 c56→Sq 44 c43→Sq 169 c61
 w175:Sq 153 c173→Sq 154 c56→Sq 124 c57→Sq 155 ZCj→Sq 112 c175
 w178:Sq 193 ZCl
 w179:Sq 192 ZCm
 w72:Sq 58 c67→Sq 45 c71→Sq 28 c72
 w184:Sq 60 c77→Sq 194 ZCp
set_option maxHeartbeats 100000000 in
theorem ws1:Ws1:=by
 refine ⟨(Ze Zm Zh mixed {} Tryz.func243 (hvc:=?_)),
 (fun q0 q1=>Ze Zm (Zc q0 (Zc q1 Zh)) mixed {} Tryz.func241 (hvc:=?_)),
 (fun q0 q1 q2=>Ze Zm (Zc q0 (Zc q1 (Zc q2 Zh))) mixed {loops:=[(0,[.reg 3 (.dat Iq),.reg 9 (.dat Iq)])],draws:=[(10,[0,1,3,7,15,31,7,71,199,511,1023,2047,4095,8191,16383,32767,65535],.op 0 (.op 1 (.op 2 (.op 3 (.op 4 (.op 5 (.op 6 (.alt 7 (.op 8 (.op 9 (.op 10 (.op 11 (.op 12 (.op 13 (.alt 14 (.op 15 (.op 16 (.done))) (.done)))))))) (.done))))))))),(12,[0,1,3,7,15,31,63,127,255,511,1023,2047,4095,8191,16383,32767,16383,131071,262143,524287,1048575],.op 0 (.op 1 (.op 2 (.op 3 (.op 4 (.op 5 (.op 6 (.op 7 (.op 8 (.op 9 (.alt 10 (.op 11 (.op 12 (.op 13 (.op 14 (.op 16 (.alt 15 (.alt 17 (.op 18 (.op 19 (.op 20 (.done)))) (.done)) (.done))))))) (.done))))))))))))]} Tryz.func214 (hvc:=?_)),
 (Ze Zm Zh mixed {draws:=[(3,[0,1,0,4,0,16,60,124,252,511,1023,2047,0,4096,16383,32767,65535,131071],.op 0 (.op 1 (.op 2 (.op 3 (.op 4 (.op 5 (.op 6 (.op 7 (.op 8 (.op 9 (.op 10 (.op 11 (.op 12 (.op 13 (.op 14 (.op 15 (.op 16 (.op 17 (.done)))))))))))))))))))]} Tryz.func121 (hvc:=?_)),
 (fun q0=>Ze Zm (Zc q0 Zh) mixed {loops:=[(0,[.reg 5 (.own (.ol 2 (.flat Iq))),.reg 11 (.dat Iq)])]} Tryz.func120 (hvc:=?_)),
 (fun q4 q1 q5 q3 q2 q0=>Ze Zm (Zc q4 (Zc q1 (Zc q5 (Zc q3 (Zc q2 (Zc q0 Zh)))))) mixed {} Tryz.func19 (hvc:=?_)),
 (fun q0=>Ze Zm (Zc q0 Zh) mixed {} Tryz.func22 (hvc:=?_)),
 (fun q0=>Ze Zm (Zc q0 Zh) mixed {} Tryz.func239 (hvc:=?_)),
 (fun q0=>Ze Zm (Zc q0 Zh) mixed {} Tryz.func132 (hvc:=?_)),
 (Ze Zm Zh mixed {loops:=[(0,[.reg 5 (.dat Iq),.reg 10 (.dat Iq)])]} Tryz.func35 (hvc:=?_)),
 (fun q2 q0 q3 q1=>Ze Zm (Zc q2 (Zc q0 (Zc q3 (Zc q1 Zh)))) mixed {loops:=[(0,[.reg 4 (.own (.ol 2 (.flat Iq))),.reg 5 (.own (.ol 2 (.flat Iq))),.reg 16 (.dat Iq),.ent 0 (nat_lit 82) (Dp.ol (2:Go.TypeId) (Dp.flat (Ty.int IntKind.i64)))])]} Tryz.func42 (hvc:=?_)),
 (fun q0=>Ze Zm (Zc q0 Zh) mixed {loops:=[(0,[.reg 9 (.dat Iq),.reg 14 (.dat Iq)])]} Tryz.func115 (hvc:=?_)),
 (Ze Zm Zh mixed {} Tryz.func49 (hvc:=?_)),
 (Ze Zm Zh mixed {} Tryz.func222 (hvc:=?_)),
 (fun q3 q2 q0 q1=>Ze Zm (Zc q3 (Zc q2 (Zc q0 (Zc q1 Zh)))) mixed {} Tryz.func47 (hvc:=?_)),
 (Ze Zm Zh mixed {loops:=[(0,[.reg 3 (.own (.ol 2 (.flat Iq))),.reg 11 (.dat Iq)])]} Tryz.func68 (hvc:=?_)),
 (fun q0 q2 q1=>Ze Vg (Zc q0 (Zc q2 (Zc q1 Zh))) mixed {loops:=[(0,[.reg 20 (.dat Iq),.ent 0 (nat_lit 82) (Dp.ol (2:Go.TypeId) (Dp.flat (Ty.int IntKind.i64)))]),(2,[.reg 6 (.own (.ol 2 (.flat Iq))),.reg 41 (.dat Iq),.ent 0 (nat_lit 82) (Dp.ol (2:Go.TypeId) (Dp.flat (Ty.int IntKind.i64)))])]} Tryz.func36 (hvc:=?_)),
 (fun q0 q1=>Ze Zm (Zc q0 (Zc q1 Zh)) mixed {loops:=[(0,[.reg 22 (.dat Iq),.ent 0 (nat_lit 2) (.flat ZnW.ety)]),(2,[.reg 8 (.dat Iq),.reg 44 (.dat Iq)])],draws:=[(13,[0,0,0,4,12,28,0,64,192,448,0,1984,4032,8188,16380,0,65532,131068,262143,524287],.op 0 (.op 1 (.op 2 (.op 3 (.op 4 (.op 5 (.op 6 (.op 7 (.op 8 (.op 9 (.op 10 (.op 11 (.op 12 (.op 15 (.alt 13 (.op 14 (.op 16 (.op 17 (.op 18 (.alt 19 (.done) (.done)))))) (.done))))))))))))))))]} Tryz.func195 (hvc:=?_)),
 (Ze Zm Zh mixed {} Tryz.func109 (hvc:=?_)),
 (fun q0=>Ze Zm (Zc q0 Zh) mixed {} Tryz.func76 (hvc:=?_)),
 (fun q0=>Ze Zm (Zc q0 Zh) mixed {loops:=[(0,[.reg 5 (.dat Iq)])],draws:=[(6,[0,0,3,7,0,0,48,112,255,511],.op 0 (.op 1 (.op 2 (.op 3 (.op 4 (.op 5 (.op 6 (.op 7 (.alt 8 (.op 9 (.done)) (.done))))))))))]} Tryz.func39 (hvc:=?_)),
 (fun q0 q1 q2=>Ze Zm (Zc q0 (Zc q1 (Zc q2 Zh))) mixed {} Tryz.func8 (hvc:=?_)),
 (fun q0 q1 q2=>Ze Zm (Zc q0 (Zc q1 (Zc q2 Zh))) mixed {} Tryz.func26 (hvc:=?_)),
 (fun q0=>Ze Zm (Zc q0 Zh) mixed {} Tryz.func216 (hvc:=?_)),
 (fun q0=>Ze Vg (Zc q0 Zh) mixed {} Tryz.func181 (hvc:=?_)),
 (fun q1 q2 q0=>Ze Vg (Zc q1 (Zc q2 (Zc q0 Zh))) mixed {} Tryz.func98 (hvc:=?_)),
 (fun q0 q1 q2=>Ze Vg (Zc q0 (Zc q1 (Zc q2 Zh))) mixed {} Tryz.func31 (hvc:=?_)),
 (fun q0=>Ze Vg (Zc q0 Zh) mixed {loops:=[(0,[.reg 4 (.dat Iq),.ent 0 (nat_lit 103) ZaV])]} Tryz.func62 (hvc:=?_)),
 (Ze Zm Zh mixed {loops:=[(0,[.reg 4 (.dat Iq),.ent 0 (nat_lit 9) (.flat ZsH.ety)])]} Tryz.func63 (hvc:=?_)),
 (fun q0=>Ze Vg (Zc q0 Zh) mixed {loops:=[(0,[.reg 4 (.dat Iq),.ent 0 (nat_lit 121) Zk3])]} Tryz.func32 (hvc:=?_)),
 (Ze Zm Zh mixed {} Tryz.func118 (hvc:=?_)),
 (fun q0=>Ze Zm (Zc q0 Zh) mixed {loops:=[(0,[.reg 8 (.dat Iq)])]} Tryz.func242 (hvc:=?_)),
 (fun q0=>Ze Zm (Zc q0 Zh) mixed {loops:=[(0,[.reg 8 (.dat Iq)])]} Tryz.func203 (hvc:=?_)),
 (fun q1 q0=>Ze Zm (Zc q1 (Zc q0 Zh)) mixed {} Tryz.func85 (hvc:=?_)),
 (Ze Zm Zh mixed {} Tryz.func44 (hvc:=?_)),
 (fun q0=>Ze Zm (Zc q0 Zh) mixed {loops:=[(0,[.reg 3 (.dat Iq)])],draws:=[(4,[0,0,3,7,15,31,63,127,255,511,1023,1023,3071,8191,16383,1023,1023,99327,230399,524287,1048575,2097151],.op 0 (.op 1 (.op 2 (.op 3 (.alt 4 (.op 5 (.op 6 (.op 7 (.op 8 (.op 9 (.op 10 (.op 11 (.op 12 (.op 13 (.op 14 (.op 15 (.op 16 (.op 17 (.op 18 (.op 19 (.op 20 (.op 21 (.done)))))))))))))))))) (.done))))))]} Tryz.func256 (hvc:=?_)),
 (fun q1 q0=>Ze Zm (Zc q1 (Zc q0 Zh)) mixed {} Tryz.func209 (hvc:=?_)),
 (fun q0=>Ze Zm (Zc q0 Zh) mixed {loops:=[(0,[.reg 5 (.dat Iq)])]} Tryz.func219 (hvc:=?_)),
 (fun q1 q0 q2=>Ze Zm (Zc q1 (Zc q0 (Zc q2 Zh))) mixed {} Tryz.func169 (hvc:=?_)),
 (fun q2 q0 q1 q3=>Ze Zm (Zc q2 (Zc q0 (Zc q1 (Zc q3 Zh)))) mixed {loops:=[(0,[.reg 9 (.dat Iq),.ent 2 (nat_lit 2) (.flat (Ty.int IntKind.i64))]),(2,[.reg 10 (.dat Iq),.ent 2 (nat_lit 2) (.flat (Ty.int IntKind.i64))])],draws:=[(8,[0,0,2,0,14,30,63,127,0,256,0,1024,0,0,0,24576,57344,126976,258048,524032,1048575,2097151,4194303],.op 0 (.op 1 (.op 2 (.op 3 (.op 4 (.op 5 (.op 6 (.op 7 (.op 8 (.op 9 (.op 10 (.op 11 (.op 12 (.op 13 (.op 14 (.op 15 (.op 16 (.op 17 (.op 18 (.alt 19 (.op 20 (.op 21 (.alt 22 (.done) (.done)))) (.done))))))))))))))))))))),(12,[0,0,2,0,14,30,63,127,0,0,768,1792,4095,8191,16383],.op 0 (.op 1 (.op 2 (.op 3 (.op 4 (.op 5 (.op 6 (.op 7 (.op 8 (.op 9 (.op 10 (.op 11 (.op 12 (.op 13 (.alt 14 (.done) (.done))))))))))))))))]} Tryz.func112 (hvc:=?_)),
 (Ze Zm Zh mixed {loops:=[(0,[.reg 0 (.dat Iq),.reg 5 (.own (.ol 2 (.flat Iq))),.reg 6 (.dat Iq)])]} Tryz.func193 (hvc:=?_)),
 (Ze Zm Zh mixed {loops:=[(0,[.reg 8 (.dat Iq),.ent 1 (nat_lit 2) (.flat ZnW.ety)]),(2,[.reg 9 (.dat Iq),.ent 1 (nat_lit 2) (.flat ZnW.ety)])],draws:=[(9,[0,0,0,6,14,0,0,96,224,511,1023],.op 0 (.op 1 (.op 2 (.op 3 (.op 4 (.op 5 (.op 6 (.op 7 (.op 8 (.op 9 (.alt 10 (.done) (.done))))))))))))]} Tryz.func192 (hvc:=?_)),
 (fun q1 q0=>Ze Zm (Zc q1 (Zc q0 Zh)) mixed {} Tryz.func28 (hvc:=?_)),
 (fun q0=>Ze Zm (Zc q0 Zh) mixed {loops:=[(0,[.reg 3 (.dat Iq),.reg 9 (.dat Iq),.reg 10 (.dat Iq)])],draws:=[(5,[0,0,0,0,12,28,63,127,0,511],.op 0 (.op 1 (.op 2 (.op 3 (.op 4 (.op 5 (.alt 6 (.op 7 (.alt 8 (.alt 9 (.done) (.done)) (.done))) (.alt 8 (.alt 6 (.op 7 (.alt 9 (.done) (.done))) (.done)) (.done)))))))))]} Tryz.func194 (hvc:=?_))⟩
 all_goals
  intro a
  repeat rcases a with ⟨_,a⟩
  rintro K ⟨r,h,hK⟩
  repeat'
    conv=>whnf
    first
    | with_reducible refine Znj ?_
    | with_reducible refine Za7 (by assumption) (by assumption) (by assumption) ?_
    | with_reducible refine Za5 (by assumption) ?_
    | with_reducible refine Za9 (by assumption) ?_
    | (with_reducible refine shD ?_);first | refine Znb h (fun h=>?_) (fun h=>?_) | refine ZnR h (fun h=>?_) (fun h=>?_)
    | (with_reducible refine ZnI ?_);first | refine Zqb ?_ | refine ZkM ?_
    | (with_reducible refine ZrF ?_);first | refine Zpm h (fun h=>?_) (fun h=>?_) | refine ZnQ h (fun h=>?_) (fun h=>?_)
    | (with_reducible refine ZnH ?_);(refine ⟨fun hd=>?_,?_⟩)<;>try subst hd
    | (with_reducible refine ZrH ?_);first | with_reducible refine ZbV h (fun x hb h=>?_) | refine Za9 (by assumption) ?_ | with_reducible refine pG h (fun hp h=>?_) | with_reducible refine pA h (fun x ha hb hx h=>?_) | with_reducible refine pB h (fun x hb h=>?_) | refine ZbV h (fun x hb h=>?_)
    | (with_reducible refine ZrE ?_);first | with_reducible refine vAt h (fun x ha hb hx h=>?_) | refine Za7 (by assumption) (by assumption) (by assumption) ?_ | with_reducible refine pG h (fun hp h=>?_) | with_reducible refine pA h (fun x ha hb hx h=>?_) | with_reducible refine pB h (fun x hb h=>?_) | refine vAt h (fun x ha hb hx h=>?_)
    | (with_reducible refine ZnG ?_);first | with_reducible refine ZhF h (fun x hb h=>?_) | refine Za5 (by assumption) ?_ | with_reducible refine pG h (fun hp h=>?_) | with_reducible refine pA h (fun x ha hb hx h=>?_) | with_reducible refine pB h (fun x hb h=>?_) | refine ZhF h (fun x hb h=>?_)
    | with_reducible refine ZrG ?_
    | (with_reducible refine ZjW ?_);refine Zj1 h hK ?_;clear h hK;intro I μ v r h hK;(repeat rcases v with ⟨_,v⟩);(try dsimp only at h)
    | with_reducible refine ⟨by assumption,?_⟩
    | with_reducible refine orL ?_
    | with_reducible refine .inr ?_
    | (with_reducible refine ZnJ ?_);first | refine ⟨?_,True.intro⟩ | refine ⟨?_,?_⟩
    | refine ⟨by kernel_rfl,?_⟩
    | refine ⟨by decide,?_⟩
    | with_reducible refine ZnX h (fun hp h=>?_)
    | intro fp
    | exact trivial
    | with_reducible exact Znh h
    | (refine pS h (fun e=>?_));subst e;(repeat (first | exact hK | exact ⟨⟨rfl,rfl⟩,hK.1 _ rfl⟩ | (refine pR hK (fun e hK=>?_));subst e));done
    | refine ZnX h (fun hp h=>?_)
    | refine ⟨by assumption,?_⟩
    | with_reducible refine pG h (fun hp h=>?_) | with_reducible refine pA h (fun x ha hb hx h=>?_) | with_reducible refine pB h (fun x hb h=>?_)
    | refine pG h (fun hp h=>?_)
    | fail
end Go.Proofs.YtjfbeebdhmebpaaGreatDoor
