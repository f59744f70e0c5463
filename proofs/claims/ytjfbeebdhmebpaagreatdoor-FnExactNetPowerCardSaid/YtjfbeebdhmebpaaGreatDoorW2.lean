/-
  The functions keep their contracts, if what they call does. Printed by program.
-/
import Derived.Test.YtjfbeebdhmebpaaGreatDoorM
import Derived.KernelRfl
namespace Go.Proofs.YtjfbeebdhmebpaaGreatDoor
open Go Go.Sx
set_option maxRecDepth 100000
set_option maxHeartbeats 3200000
set_option linter.unusedVariables false
set_option linter.unusedSimpArgs false
structure Ws2:Prop where
 w107:Sq 225 c107
 w148:Sq 34 Zth→Sq 36 c146→Sq 35 Zti→Sq 13 c148
 w117:Sq 198 c116→Sq 199 c85→Sq 170 c117
 w132:Sq 89 c88→Sq 48 c80→Sq 176 c131→Sq 88 c92→Sq 129 Zta
 w86:Sq 48 c80→Sq 222 c82→Sq 199 c85→Sq 212 c86
 w198:Sq 114 c193→Sq 115 ZCw→Sq 117 c196→Sq 116 ZCx→Sq 80 c198
 w194:Sq 164 c194
 w138:Sq 139 c138
 w81:Sq 48 c80→Sq 220 Zfa→Sq 221 Zbx→Sq 211 c81
 w88:Sq 89 c88
 w193:Sq 36 c146→Sq 195 ZCv→Sq 114 c193
 w145:Sq 69 c145
 w135:Sq 90 Ztc→Sq 89 c88→Sq 87 Ztd
 w170:Sq 40 Zts→Sq 15 Ztt
 w155:Sq 189 c154→Sq 152 Ztm
 w156:Sq 151 Ztk→Sq 152 Ztm→Sq 110 Zrz→Sq 107 c156
 w164:Sq 73 c160→Sq 74 Zto→Sq 75 Ztp→Sq 38 c164
 w168:Sq 77 c168
 w149:Sq 188 Ztj
 w6:Sq 179 c5→Sq 134 c6
 w2:Sq 94 c2
 w0:Sq 178 c0
 w12:Sq 55 c12
 w40:Sq 66 c39→Sq 33 c40
 w41:Sq 33 c40→Sq 12 c41
 w38:Sq 30 c29→Sq 31 c35→Sq 32 c37→Sq 11 c38
 w39:Sq 66 c39
 w36:Sq 101 c22→Sq 65 c36
 w124:Sq 177 Zs5→Sq 131 c124
 w91:Sq 177 c90→Sq 131 c91
 w102:Sq 255 ZsR→Sq 254 ZsS
 w98:Sq 251 c97→Sq 260 c98
 w207:Sq 43 c66→Sq 44 c43→Sq 45 c71→Sq 46 c206→Sq 18 ZCC
 w59:Sq 122 c55→Sq 124 c57→Sq 123 c58→Sq 82 c59
 w65:Sq 82 c59→Sq 125 c64→Sq 83 c65
 w58:Sq 44 c43→Sq 123 c58
 w215:Sq 51 c213→Sq 52 ZCe→Sq 21 ZCD
 w53:Sq 44 c43→Sq 166 c53
 w57:Sq 154 c56→Sq 124 c57
 w76:Sq 97 c76
 w74:Sq 96 c74
 w206:Sq 41 ZB6→Sq 79 ZCb→Sq 46 c206
 w190:Sq 78 ZCk→Sq 79 ZCb→Sq 41 ZB6
set_option maxHeartbeats 100000000 in
theorem ws2:Ws2:=by
 refine ⟨(Ze Zm Zh mixed {} Tryz.func225 (hvc:=?_)),
 (fun q2 q0 q1=>Ze Zm (Zc q2 (Zc q0 (Zc q1 Zh))) mixed {} Tryz.func13 (hvc:=?_)),
 (fun q1 q0=>Ze Zm (Zc q1 (Zc q0 Zh)) mixed {loops:=[(0,[.reg 3 (.own (.ol 9 (.flat (.str)))),.reg 9 (.dat Iq)])]} Tryz.func170 (hvc:=?_)),
 (fun q0 q3 q1 q2=>Ze Zm (Zc q0 (Zc q3 (Zc q1 (Zc q2 Zh)))) mixed {} Tryz.func129 (hvc:=?_)),
 (fun q2 q0 q1=>Ze Zm (Zc q2 (Zc q0 (Zc q1 Zh))) mixed {loops:=[(0,[.reg 3 (.own (.ol 9 (.flat (.str)))),.reg 8 (.dat Iq)])]} Tryz.func212 (hvc:=?_)),
 (fun q2 q0 q1 q3=>Ze Zm (Zc q2 (Zc q0 (Zc q1 (Zc q3 Zh)))) mixed {loops:=[(0,[.reg 9 (.dat Iq),.reg 27 (.dat Iq)])],draws:=[(9,[0,0,0,0,0,30,0,64,192,510,0,1024,4094,8191,16383],.op 0 (.op 1 (.op 2 (.op 3 (.op 4 (.op 6 (.op 7 (.op 8 (.op 10 (.op 11 (.alt 5 (.op 9 (.op 12 (.op 13 (.op 14 (.done))))) (.done))))))))))))]} Tryz.func80 (hvc:=?_)),
 (Ze Zm Zh mixed {loops:=[(0,[.reg 9 (.dat Iq),.reg 15 (.dat Iq)])]} Tryz.func164 (hvc:=?_)),
 (Ze Zm Zh mixed {loops:=[(0,[.reg 0 (.dat Iq),.reg 1 (.dat Iq)])],draws:=[(2,[0,0,0,6,3,31],.op 0 (.op 1 (.op 2 (.op 3 (.op 4 (.op 5 (.done)))))))]} Tryz.func139 (hvc:=?_)),
 (fun q2 q1 q0=>Ze Zm (Zc q2 (Zc q1 (Zc q0 Zh))) mixed {} Tryz.func211 (hvc:=?_)),
 (Ze Zm Zh mixed {} Tryz.func89 (hvc:=?_)),
 (fun q0 q1=>Ze Zm (Zc q0 (Zkj (ZmE Vg (Zc q1 (Zkj (ZmE Vg Zh mixed {draws:=[(0,[0,0,0,6,14,30,63,127],.op 0 (.op 1 (.op 2 (.op 3 (.op 4 (.alt 5 (.alt 6 (.alt 7 (.done) (.done)) (.done)) (.done)))))))]} Tryz.func163 (by kernel_rfl) (by kernel_rfl)) Zh)) mixed {loops:=[(0,[.reg 13 (.dat Iq),.cello 3 0 (.ol 2 (.flat Iq))]),(2,[.reg 19 (.dat Iq),.entm 5 (ZAW.ty) (ZAW.ety)])]} Tryz.func162 (by kernel_rfl) (by kernel_rfl)) Zh)) mixed {draws:=[(1,[0,1,0,7,15,31],.op 0 (.op 2 (.alt 1 (.op 3 (.op 4 (.op 5 (.done)))) (.done))))]} Tryz.func114 (hvc:=?_)),
 (Ze Zm Zh mixed {draws:=[(1,[0,1,3,7,15,31,0,64,192,448,0,1984,4032,8191,16383,32767,65535],.op 0 (.op 1 (.op 2 (.op 3 (.op 4 (.op 5 (.op 6 (.op 7 (.op 8 (.op 9 (.op 10 (.op 11 (.op 12 (.op 13 (.op 14 (.op 15 (.op 16 (.done))))))))))))))))))]} Tryz.func69 (hvc:=?_)),
 (fun q0 q1=>Ze Zm (Zc q0 (Zc q1 (Zkj (ZmE Vg Zh mixed {draws:=[(1,[0,1,3,7,15,31,0,64,192,448,0,1984,4032,8191,16383,32767,65535],.op 0 (.op 1 (.op 2 (.op 3 (.op 4 (.op 5 (.op 6 (.op 7 (.op 8 (.op 9 (.op 10 (.op 11 (.op 12 (.op 13 (.op 14 (.op 15 (.op 16 (.done))))))))))))))))))]} Tryz.func69 (by kernel_rfl) (by kernel_rfl)) (Zkj (ZmE Vg (Zkj (ZmE Vg (Zkj (ZmE Vg Zh mixed {} Tryz.func130 (by kernel_rfl) (by kernel_rfl)) Zh) mixed {loops:=[(0,[.reg 8 (.dat Iq)])]} Tryz.func177 (by kernel_rfl) (by kernel_rfl)) Zh) mixed {} Tryz.func131 (by kernel_rfl) (by kernel_rfl)) Zh)))) mixed {loops:=[(0,[.reg 24 (.dat Iq),.ent 1 (nat_lit 2) (.flat ZnW.ety)]),(2,[.reg 38 (.dat Iq),.ent 1 (nat_lit 2) (.flat ZnW.ety)]),(4,[.cello 1018 6 (.ol 2 (.flat Iq)),.ent 3 (nat_lit 4) (.flat Zph.ety)]),(6,[.reg 91 (.dat Iq),.cello 1018 6 (.ol (nat_lit 2) (.flat (Ty.int IntKind.i64))),.ent 3 (nat_lit 4) (.flat Zph.ety)])],draws:=[(1,[0,0,2,6,14,31,63,127],.op 0 (.op 1 (.op 2 (.op 3 (.alt 4 (.op 5 (.alt 6 (.op 7 (.done)) (.done))) (.done)))))),(11,[0,1,3,7,0,16,0,64,192,448,1008,2032,0,8191,16383],.op 0 (.op 1 (.op 2 (.op 3 (.op 4 (.op 5 (.op 6 (.op 7 (.op 8 (.op 9 (.op 10 (.op 11 (.op 12 (.op 13 (.alt 14 (.done) (.done)))))))))))))))),(15,[0,1,3,7,15,0,32,96,224,480,1023],.op 0 (.op 1 (.op 2 (.op 3 (.op 4 (.op 5 (.op 6 (.op 7 (.op 8 (.op 9 (.op 10 (.done))))))))))))]} Tryz.func87 (hvc:=?_)),
 (fun q0=>Ze Zm (Zc q0 Zh) mixed {loops:=[(0,[.reg 5 (.dat Iq)])],draws:=[(6,[0,0,3,7,0,0,48,112,255,511],.op 0 (.op 1 (.op 2 (.op 3 (.op 4 (.op 5 (.op 6 (.op 7 (.alt 8 (.op 9 (.done)) (.done))))))))))]} Tryz.func15 (hvc:=?_)),
 (fun q0=>Ze Zm (Zc q0 Zh) mixed {loops:=[(0,[.reg 5 (.dat Iq)])],draws:=[(6,[0,0,3,7,0,0,48,112,255,511],.op 0 (.op 1 (.op 2 (.op 3 (.op 4 (.op 5 (.op 6 (.op 7 (.alt 8 (.op 9 (.done)) (.done))))))))))]} Tryz.func152 (hvc:=?_)),
 (fun q1 q2 q0=>Ze Zm (Zc q1 (Zc q2 (Zc q0 Zh))) mixed {} Tryz.func107 (hvc:=?_)),
 (fun q0 q1 q2=>Ze Zm (Zc q0 (Zc q1 (Zc q2 Zh))) mixed {} Tryz.func38 (hvc:=?_)),
 (Ze Zm Zh mixed {} Tryz.func77 (hvc:=?_)),
 (Ze Zm Zh mixed {} Tryz.func188 (hvc:=?_)),
 (fun q0=>Ze Zm (Zc q0 Zh) mixed {loops:=[(0,[.reg 1 (.dat Iq),.reg 5 (.dat Iq)])]} Tryz.func134 (hvc:=?_)),
 (Ze Zm Zh mixed {} Tryz.func94 (hvc:=?_)),
 (Ze Zm Zh mixed {} Tryz.func178 (hvc:=?_)),
 (Ze Zm Zh mixed {loops:=[(0,[.reg 1 (.dat Iq),.reg 5 (.dat Iq)])]} Tryz.func55 (hvc:=?_)),
 (fun q0=>Ze Zm (Zc q0 Zh) mixed {} Tryz.func33 (hvc:=?_)),
 (fun q0=>Ze Zm (Zc q0 Zh) mixed {loops:=[(0,[.reg 4 (.dat Iq),.ent 0 (nat_lit 73) (.flat ZsJ.ety)])]} Tryz.func12 (hvc:=?_)),
 (fun q0 q1 q2=>Ze Vg (Zc q0 (Zc q1 (Zc q2 Zh))) mixed {} Tryz.func11 (hvc:=?_)),
 (Ze Zm Zh mixed {} Tryz.func66 (hvc:=?_)),
 (fun q0=>Ze Zm (Zc q0 Zh) mixed {} Tryz.func65 (hvc:=?_)),
 (fun q0=>Ze Zm (Zc q0 Zh) mixed {} Tryz.func131 (hvc:=?_)),
 (fun q0=>Ze Zm (Zc q0 Zh) mixed {} Tryz.func131 (hvc:=?_)),
 (fun q0=>Ze Zm (Zc q0 Zh) mixed {loops:=[(0,[.reg 8 (.dat Iq)])]} Tryz.func254 (hvc:=?_)),
 (fun q0=>Ze Zm (Zc q0 Zh) mixed {loops:=[(0,[.reg 8 (.dat Iq)])]} Tryz.func260 (hvc:=?_)),
 (fun q2 q3 q0 q1=>Ze Zm (Zc q2 (Zc q3 (Zc q0 (Zc q1 Zh)))) mixed {} Tryz.func18 (hvc:=?_)),
 (fun q0 q1 q2=>Ze Zm (Zc q0 (Zc q1 (Zc q2 Zh))) mixed {loops:=[(0,[.reg 3 (.dat Iq)])],draws:=[(6,[0,1,0,7,15,0,32,0,224,480,1023,2047],.op 0 (.op 1 (.op 2 (.op 3 (.op 4 (.op 5 (.op 6 (.op 7 (.alt 8 (.op 9 (.alt 10 (.op 11 (.done)) (.done))) (.done))))))))))]} Tryz.func82 (hvc:=?_)),
 (fun q1 q0=>Ze Zm (Zc q1 (Zc q0 Zh)) mixed {} Tryz.func83 (hvc:=?_)),
 (fun q0=>Ze Zm (Zc q0 Zh) mixed {loops:=[(0,[.reg 6 (.dat Iq)]),(2,[.reg 7 (.dat Iq)])]} Tryz.func123 (hvc:=?_)),
 (fun q1 q0=>Ze Zm (Zc q1 (Zc q0 Zh)) mixed {} Tryz.func21 (hvc:=?_)),
 (fun q0=>Ze Zm (Zc q0 Zh) mixed {loops:=[(0,[.reg 6 (.dat Iq)]),(2,[.reg 8 (.dat Iq)]),(4,[.reg 9 (.dat Iq)])],draws:=[(6,[0,1,0,4,12,28,63,127,255,511,1023,2047,511,4607,511,16895,61951,127487,258559,520703,1048575,2097151],.op 0 (.op 1 (.op 2 (.op 3 (.op 4 (.op 5 (.alt 6 (.op 7 (.op 8 (.op 9 (.op 10 (.op 11 (.op 12 (.op 13 (.op 14 (.op 15 (.op 16 (.op 17 (.op 18 (.op 19 (.op 20 (.op 21 (.done)))))))))))))))) (.done))))))))]} Tryz.func166 (hvc:=?_)),
 (fun q0=>Ze Zm (Zc q0 Zh) mixed {loops:=[(0,[.reg 5 (.own (.ol 2 (.flat Iq))),.reg 7 (.dat Iq)])]} Tryz.func124 (hvc:=?_)),
 (Ze Zm Zh mixed {loops:=[(0,[.reg 5 (.dat Iq)])]} Tryz.func97 (hvc:=?_)),
 (Ze Zm Zh mixed {loops:=[(0,[.reg 3 (.own (.ol 2 (.flat Iq))),.reg 4 (.dat Iq)])]} Tryz.func96 (hvc:=?_)),
 (fun q1 q0=>Ze Zm (Zc q1 (Zc q0 Zh)) mixed {draws:=[(4,[0,0,0,7,0,16,0,0,0,463,1023,0,2048,8191,16383],.op 0 (.op 1 (.op 2 (.op 4 (.op 5 (.op 6 (.op 7 (.op 8 (.op 11 (.op 12 (.alt 3 (.alt 9 (.op 10 (.op 13 (.alt 14 (.done) (.done)))) (.done)) (.done))))))))))))]} Tryz.func46 (hvc:=?_)),
 (fun q0 q1=>Ze Zm (Zc q0 (Zc q1 Zh)) mixed {} Tryz.func41 (hvc:=?_))⟩
 all_goals
  intro a
  repeat rcases a with ⟨_,a⟩
  rintro K ⟨r,h,hK⟩
  repeat'
    conv=>whnf
    first
    | with_reducible refine Znj ?_
    | with_reducible refine Za7 (by assumption) (by assumption) (by assumption) ?_
    | with_reducible refine Za5 (by assumption) ?_
    | with_reducible refine Za9 (by assumption) ?_
    | (with_reducible refine shD ?_);first | refine Znb h (fun h=>?_) (fun h=>?_) | refine ZnR h (fun h=>?_) (fun h=>?_)
    | (with_reducible refine ZnI ?_);first | refine Zqb ?_ | refine ZkM ?_
    | (with_reducible refine ZrF ?_);first | refine Zpm h (fun h=>?_) (fun h=>?_) | refine ZnQ h (fun h=>?_) (fun h=>?_)
    | (with_reducible refine ZnH ?_);(refine ⟨fun hd=>?_,?_⟩)<;>try subst hd
    | (with_reducible refine ZrH ?_);first | with_reducible refine ZbV h (fun x hb h=>?_) | refine Za9 (by assumption) ?_ | with_reducible refine pG h (fun hp h=>?_) | with_reducible refine pA h (fun x ha hb hx h=>?_) | with_reducible refine pB h (fun x hb h=>?_) | refine ZbV h (fun x hb h=>?_)
    | (with_reducible refine ZrE ?_);first | with_reducible refine vAt h (fun x ha hb hx h=>?_) | refine Za7 (by assumption) (by assumption) (by assumption) ?_ | with_reducible refine pG h (fun hp h=>?_) | with_reducible refine pA h (fun x ha hb hx h=>?_) | with_reducible refine pB h (fun x hb h=>?_) | refine vAt h (fun x ha hb hx h=>?_)
    | (with_reducible refine ZnG ?_);first | with_reducible refine ZhF h (fun x hb h=>?_) | refine Za5 (by assumption) ?_ | with_reducible refine pG h (fun hp h=>?_) | with_reducible refine pA h (fun x ha hb hx h=>?_) | with_reducible refine pB h (fun x hb h=>?_) | refine ZhF h (fun x hb h=>?_)
    | with_reducible refine ZrG ?_
    | (with_reducible refine ZjW ?_);refine Zj1 h hK ?_;clear h hK;intro I μ v r h hK;(repeat rcases v with ⟨_,v⟩);(try dsimp only at h)
    | with_reducible refine ⟨by assumption,?_⟩
    | with_reducible refine orL ?_
    | with_reducible refine .inr ?_
    | (with_reducible refine ZnJ ?_);first | refine ⟨?_,True.intro⟩ | refine ⟨?_,?_⟩
    | refine ⟨by kernel_rfl,?_⟩
    | refine ⟨by decide,?_⟩
    | with_reducible refine ZnX h (fun hp h=>?_)
    | intro fp
    | exact trivial
    | with_reducible exact Znh h
    | (refine pS h (fun e=>?_));subst e;(repeat (first | exact hK | exact ⟨⟨rfl,rfl⟩,hK.1 _ rfl⟩ | (refine pR hK (fun e hK=>?_));subst e));done
    | refine ZnX h (fun hp h=>?_)
    | refine ⟨by assumption,?_⟩
    | with_reducible refine pG h (fun hp h=>?_) | with_reducible refine pA h (fun x ha hb hx h=>?_) | with_reducible refine pB h (fun x hb h=>?_)
    | refine pG h (fun hp h=>?_)
    | fail
theorem w_laws_FnExactTotalPower (q5:Sq 8 c18) (q0:Sq 9 c19) (q6:Sq 11 c38) (q1:Sq 12 c41) (q3:Sq 23 ZCF) (q4:Sq 24 ZCf) (q7:Sq 20 ZCd) (q8:Sq 14 c167) (q2:Sq 15 Ztt):Sq 7 ZwD:=by
 refine Ze Zm (Zc q5 (Zc q0 (Zc q6 (Zc q1 (Zc q3 (Zc q4 (Zc q7 (Zc q8 (Zc q2 Zh))))))))) mixed {draws:=[(14,[0,0,2,7,15],.op 0 (.op 1 (.alt 2 (.alt 3 (.op 4 (.done)) (.done)) (.done))))]} (fn:=Tryz.f7) Tryz.func7 (by kernel_rfl) (by kernel_rfl) ?_
 rintro ⟨aB0,aList0,⟨⟩⟩ K ⟨r,h,hK⟩
 change ZvU aB0 aList0=some r at h
 unfold ZvU at h
 conv=>whnf
 refine ZbV h (fun szBlock0 hb0 h=>?_)
 conv=>whnf
 refine Znb h (fun h=>?_) (fun h=>?_)
 conv=>whnf
 cases h
 exact hK
 conv=>whnf
 refine ZbV h (fun szActivityS0 hb1 h=>?_)
 conv=>whnf
 refine Znb h (fun h=>?_) (fun h=>?_)
 conv=>whnf
 cases h
 exact hK
 conv=>whnf
 refine ZbV h (fun toBlock0 hb2 h=>?_)
 conv=>whnf
 intro fp3
 conv=>whnf
 intro fp4
 conv=>whnf
 intro fp5
 conv=>whnf
 refine ZbV h (fun toActivityS0 hb6 h=>?_)
 conv=>whnf
 refine ZbV h (fun TotalPower0 hb7 h=>?_)
 conv=>whnf
 refine ⟨_,hb2,?_⟩
 conv=>whnf
 intro fp8
 conv=>whnf
 intro fp9
 conv=>whnf
 intro fp10
 conv=>whnf
 refine ⟨_,hb6,?_⟩
 conv=>whnf
 refine ZbV h (fun TotalPower1 hb11 h=>?_)
 conv=>whnf
 refine ZbV h (fun eqPower0 hb12 h=>?_)
 conv=>whnf
 refine Zqb ?_
 refine Zpm h (fun h=>?_) (fun h=>?_)
 conv=>whnf
 refine ZkM ?_
 refine Znb h (fun h=>?_) (fun h=>?_)
 conv=>whnf
 refine ⟨by kernel_rfl,?_⟩
 conv=>whnf
 refine ⟨_,hb2,?_⟩
 conv=>whnf
 intro fp13
 conv=>whnf
 intro fp14
 conv=>whnf
 intro fp15
 conv=>whnf
 refine ZbV h (fun eqBlock0 hb16 h=>?_)
 conv=>whnf
 refine ⟨trivial,?_⟩
 conv=>whnf
 refine ZkM ?_
 refine Zpm h (fun h=>?_) (fun h=>?_)
 conv=>whnf
 refine ⟨_,hb6,?_⟩
 conv=>whnf
 refine ZbV h (fun eqActivityS0 hb17 h=>?_)
 conv=>whnf
 refine ZkM ?_
 refine Zpm h (fun h=>?_) (fun h=>?_)
 conv=>whnf
 cases h
 exact hK
 conv=>whnf
 cases h
 exact hK
 conv=>whnf
 cases h
 exact hK
 conv=>whnf
 cases h
 exact hK
 conv=>whnf
 cases h
 exact hK
end Go.Proofs.YtjfbeebdhmebpaaGreatDoor
