/-
  The functions keep their contracts, if what they call does. Printed by program.
-/
import Derived.Test.YtjfbeebdhmebpaaGreatDoorM
import Derived.KernelRfl
namespace Go.Proofs.YtjfbeebdhmebpaaGreatDoor
open Go Go.Sx
set_option maxRecDepth 100000
set_option maxHeartbeats 3200000
set_option linter.unusedVariables false
set_option linter.unusedSimpArgs false
structure Ws3:Prop where
 w110:Sq 223 ZsU→Sq 224 c109→Sq 213 ZsW
 w121:Sq 202 Zs3→Sq 48 c80→Sq 173 Zsv
 w133:Sq 128 Zs9→Sq 119 c130→Sq 129 Zta→Sq 86 Ztb
 w129:Sq 170 c117→Sq 171 Zs2→Sq 172 Zs6→Sq 173 Zsv→Sq 174 Zs8→Sq 128 Zs9
 w139:Sq 48 c80→Sq 139 c138→Sq 104 c139
 w204:Sq 34 Zth→Sq 42 c203→Sq 17 ZCB
 w131:Sq 48 c80→Sq 176 c131
 w92:Sq 131 c91→Sq 88 c92
 w197:Sq 116 ZCx
 w87:Sq 238 c87
 w93:Sq 265 c93
 w120:Sq 202 Zs3
 w80:Sq 48 c80
 w167:Sq 37 Ztn→Sq 38 c164→Sq 39 Ztr→Sq 14 c167
 w159:Sq 110 Zrz→Sq 108 c159
 w160:Sq 108 c159→Sq 73 c160
 w158:Sq 72 c157→Sq 37 Ztn
 w150:Sq 188 Ztj→Sq 151 Ztk
 w211:Sq 20 ZCd
 w7:Sq 133 c1→Sq 134 c6→Sq 94 c2→Sq 91 c7
 w14:Sq 93 c13→Sq 56 c14
 w26:Sq 181 c25→Sq 137 c26
 w30:Sq 101 c22→Sq 99 c30
 w20:Sq 180 c20
 w24:Sq 217 c23→Sq 205 c24
 w109:Sq 242 ZsV→Sq 224 c109
 w99:Sq 260 c98→Sq 250 c99
 w84:Sq 228 c83→Sq 215 c84
 w112:Sq 243 ZsX→Sq 242 ZsY
 w83:Sq 228 c83
 w96:Sq 253 c96
 w79:Sq 28 c72→Sq 29 c78→Sq 10 c79
 w71:Sq 43 c66→Sq 84 c68→Sq 85 c70→Sq 44 c43→Sq 45 c71
 w55:Sq 165 c52→Sq 166 c53→Sq 167 c54→Sq 122 c55
 w52:Sq 196 c51→Sq 165 c52
 w46:Sq 256 c45→Sq 44 c43→Sq 244 c46
 w176:Sq 111 ZCi→Sq 112 c175→Sq 78 ZCk
 w219:Sq 51 c213→Sq 52 ZCe→Sq 23 ZCF
 w54:Sq 197 c42→Sq 167 c54
 w75:Sq 95 c73→Sq 96 c74→Sq 59 c75
 w185:Sq 194 ZCp→Sq 159 ZCq
 w78:Sq 59 c75→Sq 60 c77→Sq 29 c78
set_option maxHeartbeats 100000000 in
theorem ws3:Ws3:=by
 refine ⟨(fun q1 q0=>Ze Zm (Zc q1 (Zc q0 Zh)) mixed {loops:=[(0,[.reg 8 (.dat Iq)])]} Tryz.func213 (hvc:=?_)),
 (fun q0 q1=>Ze Zm (Zc q0 (Zc q1 Zh)) mixed {} Tryz.func173 (hvc:=?_)),
 (fun q1 q0 q2=>Ze Zm (Zc q1 (Zc q0 (Zc q2 Zh))) mixed {loops:=[(0,[.reg 32 (.dat Iq),.ent 1 (nat_lit 2) (.flat ZnW.ety)]),(2,[.reg 50 (.dat Iq)])],draws:=[(13,[0,0,0,6,14,31,63],.op 0 (.op 1 (.op 2 (.op 3 (.op 4 (.alt 5 (.op 6 (.done)) (.done)))))))]} Tryz.func86 (hvc:=?_)),
 (fun q4 q2 q1 q3 q0=>Ze Zm (Zc q4 (Zc q2 (Zc q1 (Zc q3 (Zc q0 Zh))))) mixed {loops:=[(0,[.reg 25 (.dat Iq),.ent 2 (nat_lit 3) (.flat Zpi.ety)]),(2,[.reg 51 (.dat Iq),.ent 2 (nat_lit 3) (.flat Zpi.ety)])]} Tryz.func128 (hvc:=?_)),
 (fun q0 q1=>Ze Zm (Zc q0 (Zc q1 Zh)) mixed {} Tryz.func104 (hvc:=?_)),
 (fun q1 q0=>Ze Zm (Zc q1 (Zc q0 Zh)) mixed {} Tryz.func17 (hvc:=?_)),
 (fun q0=>Ze Zm (Zc q0 Zh) mixed {loops:=[(0,[.reg 8 (.dat Iq)])]} Tryz.func176 (hvc:=?_)),
 (fun q0=>Ze Zm (Zc q0 Zh) mixed {} Tryz.func88 (hvc:=?_)),
 (Ze Zm Zh mixed {draws:=[(1,[0,0,3,0,0,24,7,127],.op 0 (.op 1 (.op 2 (.op 3 (.op 4 (.op 5 (.op 6 (.op 7 (.done)))))))))]} Tryz.func116 (hvc:=?_)),
 (Ze Zm Zh mixed {} Tryz.func238 (hvc:=?_)),
 (Ze Zm Zh mixed {loops:=[(0,[.reg 3 (.dat Iq)])],draws:=[(4,[0,0,2,7,15,0,0,96,224,511],.op 0 (.op 1 (.op 2 (.op 3 (.op 4 (.op 5 (.op 6 (.op 7 (.op 8 (.op 9 (.done)))))))))))]} Tryz.func265 (hvc:=?_)),
 (Ze Zm Zh mixed {} Tryz.func202 (hvc:=?_)),
 (Ze Zm Zh mixed {} Tryz.func48 (hvc:=?_)),
 (fun q0 q1 q2=>Ze Zm (Zc q0 (Zc q1 (Zc q2 Zh))) mixed {} Tryz.func14 (hvc:=?_)),
 (fun q0=>Ze Zm (Zc q0 Zh) mixed {} Tryz.func108 (hvc:=?_)),
 (fun q0=>Ze Zm (Zc q0 Zh) mixed {loops:=[(0,[.reg 5 (.dat Iq)])],draws:=[(6,[0,0,3,7,0,0,48,112,255,511],.op 0 (.op 1 (.op 2 (.op 3 (.op 4 (.op 5 (.op 6 (.op 7 (.alt 8 (.op 9 (.done)) (.done))))))))))]} Tryz.func73 (hvc:=?_)),
 (fun q0=>Ze Zm (Zc q0 Zh) mixed {} Tryz.func37 (hvc:=?_)),
 (fun q0=>Ze Zm (Zc q0 Zh) mixed {loops:=[(0,[.reg 5 (.dat Iq)])],draws:=[(6,[0,0,3,7,0,0,48,112,255,511],.op 0 (.op 1 (.op 2 (.op 3 (.op 4 (.op 5 (.op 6 (.op 7 (.alt 8 (.op 9 (.done)) (.done))))))))))]} Tryz.func151 (hvc:=?_)),
 (Ze Zm Zh mixed {} Tryz.func20 (hvc:=?_)),
 (fun q1 q2 q0=>Ze Zm (Zc q1 (Zc q2 (Zc q0 Zh))) mixed {} Tryz.func91 (hvc:=?_)),
 (fun q0=>Ze Zm (Zc q0 Zh) mixed {loops:=[(0,[.reg 1 (.dat Iq),.reg 5 (.dat Iq)])]} Tryz.func56 (hvc:=?_)),
 (fun q0=>Ze Vg (Zc q0 Zh) mixed {loops:=[(0,[.reg 4 (.dat Iq),.ent 0 (nat_lit 252) Zqm])]} Tryz.func137 (hvc:=?_)),
 (fun q0=>Ze Zm (Zc q0 Zh) mixed {} Tryz.func99 (hvc:=?_)),
 (Ze Zm Zh mixed {} Tryz.func180 (hvc:=?_)),
 (fun q0=>Ze Vg (Zc q0 Zh) mixed {loops:=[(0,[.reg 4 (.dat Iq),.ent 0 (nat_lit 288) ZfT])]} Tryz.func205 (hvc:=?_)),
 (fun q0=>Ze Zm (Zc q0 Zh) mixed {} Tryz.func224 (hvc:=?_)),
 (fun q0=>Ze Zm (Zc q0 Zh) mixed {} Tryz.func250 (hvc:=?_)),
 (fun q0=>Ze Zm (Zc q0 Zh) mixed {} Tryz.func215 (hvc:=?_)),
 (fun q0=>Ze Zm (Zc q0 Zh) mixed {loops:=[(0,[.reg 8 (.dat Iq)])]} Tryz.func242 (hvc:=?_)),
 (Ze Zm Zh mixed {loops:=[(0,[.reg 8 (.dat Iq)])]} Tryz.func228 (hvc:=?_)),
 (Ze Zm Zh mixed {loops:=[(0,[.reg 3 (.dat Iq),.reg 4 (.dat Iq)])]} Tryz.func253 (hvc:=?_)),
 (fun q1 q0=>Ze Zm (Zc q1 (Zc q0 Zh)) mixed {} Tryz.func10 (hvc:=?_)),
 (fun q2 q0 q1 q3=>Ze Zm (Zc q2 (Zc q0 (Zc q1 (Zc q3 Zh)))) mixed {loops:=[(0,[.reg 5 (.dat Iq)])]} Tryz.func45 (hvc:=?_)),
 (fun q0 q1 q2=>Ze Zm (Zc q0 (Zc q1 (Zc q2 Zh))) mixed {loops:=[(0,[.reg 5 (.own (.ol 9 (.flat (.str)))),.reg 6 (.dat Iq)]),(2,[.reg 7 (.own (.ol 9 (.flat (.str)))),.reg 8 (.dat Iq)]),(4,[.reg 10 (.dat Iq),.ent 6 (nat_lit 2) (.flat ZnW.ety)]),(6,[.reg 12 (.dat Iq),.ent 6 (nat_lit 2) (.flat ZnW.ety)]),(8,[.reg 13 (.dat Iq)])]} Tryz.func122 (hvc:=?_)),
 (fun q0=>Ze Zm (Zc q0 Zh) mixed {loops:=[(0,[.reg 3 (.dat Iq)]),(2,[.reg 4 (.dat Iq)])],draws:=[(9,[0,1,0,7,15,31,0,64,0,448,960,1984,4095],.op 0 (.op 1 (.op 2 (.op 3 (.op 4 (.op 5 (.op 6 (.op 7 (.op 8 (.op 9 (.op 10 (.op 11 (.op 12 (.done))))))))))))))]} Tryz.func165 (hvc:=?_)),
 (fun q0 q1=>Ze Zm (Zc q0 (Zc q1 Zh)) mixed {loops:=[(0,[.reg 3 (.dat Iq)])]} Tryz.func244 (hvc:=?_)),
 (fun q1 q0=>Ze Zm (Zc q1 (Zc q0 Zh)) mixed {} Tryz.func78 (hvc:=?_)),
 (fun q1 q0=>Ze Zm (Zc q1 (Zc q0 Zh)) mixed {} Tryz.func23 (hvc:=?_)),
 (fun q0=>Ze Zm (Zc q0 Zh) mixed {loops:=[(0,[.reg 3 (.dat Iq)]),(2,[.reg 4 (.dat Iq)])],draws:=[(9,[0,0,3,7,0,0,48,112,255],.op 0 (.op 1 (.op 2 (.op 3 (.op 4 (.op 5 (.op 6 (.op 7 (.op 8 (.done))))))))))]} Tryz.func167 (hvc:=?_)),
 (fun q1 q0=>Ze Zm (Zc q1 (Zc q0 Zh)) mixed {draws:=[(3,[0,0,0,0,8,31],.op 0 (.op 1 (.op 2 (.op 3 (.alt 4 (.alt 5 (.done) (.done)) (.done))))))]} Tryz.func59 (hvc:=?_)),
 (fun q0=>Ze Zm (Zc q0 Zh) mixed {loops:=[(0,[.reg 9 (.dat Iq),.reg 10 (.dat Iq)])]} Tryz.func159 (hvc:=?_)),
 (fun q0 q1=>Ze Zm (Zc q0 (Zc q1 Zh)) mixed {loops:=[(0,[.reg 7 (.dat Iq),.reg 9 (.dat Iq)])],draws:=[(6,[0,0,0,0,0,24,56,126,254,511,1023],.op 0 (.op 1 (.op 2 (.op 3 (.op 4 (.op 5 (.op 6 (.alt 7 (.op 8 (.op 9 (.op 10 (.done)))) (.done)))))))))]} Tryz.func29 (hvc:=?_))⟩
 all_goals
  intro a
  repeat rcases a with ⟨_,a⟩
  rintro K ⟨r,h,hK⟩
  repeat'
    conv=>whnf
    first
    | with_reducible refine Znj ?_
    | with_reducible refine Za7 (by assumption) (by assumption) (by assumption) ?_
    | with_reducible refine Za5 (by assumption) ?_
    | with_reducible refine Za9 (by assumption) ?_
    | (with_reducible refine shD ?_);first | refine Znb h (fun h=>?_) (fun h=>?_) | refine ZnR h (fun h=>?_) (fun h=>?_)
    | (with_reducible refine ZnI ?_);first | refine Zqb ?_ | refine ZkM ?_
    | (with_reducible refine ZrF ?_);first | refine Zpm h (fun h=>?_) (fun h=>?_) | refine ZnQ h (fun h=>?_) (fun h=>?_)
    | (with_reducible refine ZnH ?_);(refine ⟨fun hd=>?_,?_⟩)<;>try subst hd
    | (with_reducible refine ZrH ?_);first | with_reducible refine ZbV h (fun x hb h=>?_) | refine Za9 (by assumption) ?_ | with_reducible refine pG h (fun hp h=>?_) | with_reducible refine pA h (fun x ha hb hx h=>?_) | with_reducible refine pB h (fun x hb h=>?_) | refine ZbV h (fun x hb h=>?_)
    | (with_reducible refine ZrE ?_);first | with_reducible refine vAt h (fun x ha hb hx h=>?_) | refine Za7 (by assumption) (by assumption) (by assumption) ?_ | with_reducible refine pG h (fun hp h=>?_) | with_reducible refine pA h (fun x ha hb hx h=>?_) | with_reducible refine pB h (fun x hb h=>?_) | refine vAt h (fun x ha hb hx h=>?_)
    | (with_reducible refine ZnG ?_);first | with_reducible refine ZhF h (fun x hb h=>?_) | refine Za5 (by assumption) ?_ | with_reducible refine pG h (fun hp h=>?_) | with_reducible refine pA h (fun x ha hb hx h=>?_) | with_reducible refine pB h (fun x hb h=>?_) | refine ZhF h (fun x hb h=>?_)
    | with_reducible refine ZrG ?_
    | (with_reducible refine ZjW ?_);refine Zj1 h hK ?_;clear h hK;intro I μ v r h hK;(repeat rcases v with ⟨_,v⟩);(try dsimp only at h)
    | with_reducible refine ⟨by assumption,?_⟩
    | with_reducible refine orL ?_
    | with_reducible refine .inr ?_
    | (with_reducible refine ZnJ ?_);first | refine ⟨?_,True.intro⟩ | refine ⟨?_,?_⟩
    | refine ⟨by kernel_rfl,?_⟩
    | refine ⟨by decide,?_⟩
    | with_reducible refine ZnX h (fun hp h=>?_)
    | intro fp
    | exact trivial
    | with_reducible exact Znh h
    | (refine pS h (fun e=>?_));subst e;(repeat (first | exact hK | exact ⟨⟨rfl,rfl⟩,hK.1 _ rfl⟩ | (refine pR hK (fun e hK=>?_));subst e));done
    | refine ZnX h (fun hp h=>?_)
    | refine ⟨by assumption,?_⟩
    | with_reducible refine pG h (fun hp h=>?_) | with_reducible refine pA h (fun x ha hb hx h=>?_) | with_reducible refine pB h (fun x hb h=>?_)
    | refine pG h (fun hp h=>?_)
    | fail
theorem w_laws_FnExactInstancePower (q5:Sq 8 c18) (q2:Sq 9 c19) (q6:Sq 11 c38) (q3:Sq 12 c41) (q0:Sq 18 ZCC) (q1:Sq 19 c210) (q7:Sq 20 ZCd) (q8:Sq 14 c167) (q4:Sq 15 Ztt):Sq 5 Zwq:=by
 refine Ze Zm (Zc q5 (Zc q2 (Zc q6 (Zc q3 (Zc q0 (Zc q1 (Zc q7 (Zc q8 (Zc q4 Zh))))))))) mixed {draws:=[(14,[0,0,2,7,15],.op 0 (.op 1 (.alt 2 (.alt 3 (.op 4 (.done)) (.done)) (.done))))]} (fn:=Tryz.f5) Tryz.func5 (by kernel_rfl) (by kernel_rfl) ?_
 rintro ⟨aB0,aList0,aInstance0,⟨⟩⟩ K ⟨r,h,hK⟩
 change ZvQ aB0 aList0 aInstance0=some r at h
 unfold ZvQ at h
 conv=>whnf
 refine ZbV h (fun szBlock0 hb0 h=>?_)
 conv=>whnf
 refine Znb h (fun h=>?_) (fun h=>?_)
 conv=>whnf
 cases h
 exact hK
 conv=>whnf
 refine ZbV h (fun szActivityS0 hb1 h=>?_)
 conv=>whnf
 refine Znb h (fun h=>?_) (fun h=>?_)
 conv=>whnf
 cases h
 exact hK
 conv=>whnf
 refine ZbV h (fun toBlock0 hb2 h=>?_)
 conv=>whnf
 intro fp3
 conv=>whnf
 intro fp4
 conv=>whnf
 intro fp5
 conv=>whnf
 refine ZbV h (fun toActivityS0 hb6 h=>?_)
 conv=>whnf
 refine ZbV h (fun InstancePower0 hb7 h=>?_)
 conv=>whnf
 refine ⟨_,hb2,?_⟩
 conv=>whnf
 intro fp8
 conv=>whnf
 intro fp9
 conv=>whnf
 intro fp10
 conv=>whnf
 refine ⟨_,hb6,?_⟩
 conv=>whnf
 refine ZbV h (fun InstancePower1 hb11 h=>?_)
 conv=>whnf
 refine ZbV h (fun eqPower0 hb12 h=>?_)
 conv=>whnf
 refine Zqb ?_
 refine Zpm h (fun h=>?_) (fun h=>?_)
 conv=>whnf
 refine ZkM ?_
 refine Znb h (fun h=>?_) (fun h=>?_)
 conv=>whnf
 refine ⟨by kernel_rfl,?_⟩
 conv=>whnf
 refine ⟨_,hb2,?_⟩
 conv=>whnf
 intro fp13
 conv=>whnf
 intro fp14
 conv=>whnf
 intro fp15
 conv=>whnf
 refine ZbV h (fun eqBlock0 hb16 h=>?_)
 conv=>whnf
 refine ⟨trivial,?_⟩
 conv=>whnf
 refine ZkM ?_
 refine Zpm h (fun h=>?_) (fun h=>?_)
 conv=>whnf
 refine ⟨_,hb6,?_⟩
 conv=>whnf
 refine ZbV h (fun eqActivityS0 hb17 h=>?_)
 conv=>whnf
 refine ZkM ?_
 refine Zpm h (fun h=>?_) (fun h=>?_)
 conv=>whnf
 cases h
 exact hK
 conv=>whnf
 cases h
 exact hK
 conv=>whnf
 cases h
 exact hK
 conv=>whnf
 cases h
 exact hK
 conv=>whnf
 cases h
 exact hK
theorem w_laws_FnExactNetPower (q5:Sq 8 c18) (q0:Sq 9 c19) (q6:Sq 11 c38) (q1:Sq 12 c41) (q3:Sq 16 ZCu) (q4:Sq 17 ZCB) (q7:Sq 14 c167) (q2:Sq 15 Ztt):Sq 4 ZwN:=by
 refine Ze Zm (Zc q5 (Zc q0 (Zc q6 (Zc q1 (Zc q3 (Zc q4 (Zc q7 (Zc q2 Zh)))))))) mixed {draws:=[(14,[0,0,2,7,15],.op 0 (.op 1 (.alt 2 (.alt 3 (.op 4 (.done)) (.done)) (.done))))]} (fn:=Tryz.f4) Tryz.func4 (by kernel_rfl) (by kernel_rfl) ?_
 rintro ⟨aB0,aList0,aNet0,⟨⟩⟩ K ⟨r,h,hK⟩
 change Zv4 aB0 aList0 aNet0=some r at h
 unfold Zv4 at h
 conv=>whnf
 refine ZbV h (fun szBlock0 hb0 h=>?_)
 conv=>whnf
 refine Znb h (fun h=>?_) (fun h=>?_)
 conv=>whnf
 cases h
 exact hK
 conv=>whnf
 refine ZbV h (fun szActivityS0 hb1 h=>?_)
 conv=>whnf
 refine Znb h (fun h=>?_) (fun h=>?_)
 conv=>whnf
 cases h
 exact hK
 conv=>whnf
 refine ZbV h (fun toBlock0 hb2 h=>?_)
 conv=>whnf
 intro fp3
 conv=>whnf
 intro fp4
 conv=>whnf
 intro fp5
 conv=>whnf
 refine ZbV h (fun toActivityS0 hb6 h=>?_)
 conv=>whnf
 refine ZbV h (fun NetPower0 hb7 h=>?_)
 conv=>whnf
 refine ⟨_,hb2,?_⟩
 conv=>whnf
 intro fp8
 conv=>whnf
 intro fp9
 conv=>whnf
 intro fp10
 conv=>whnf
 refine ⟨_,hb6,?_⟩
 conv=>whnf
 refine ZbV h (fun NetPower1 hb11 h=>?_)
 conv=>whnf
 refine Zqb ?_
 refine Znb h (fun h=>?_) (fun h=>?_)
 conv=>whnf
 refine ZkM ?_
 refine Znb h (fun h=>?_) (fun h=>?_)
 conv=>whnf
 refine ⟨by kernel_rfl,?_⟩
 conv=>whnf
 refine ⟨_,hb2,?_⟩
 conv=>whnf
 intro fp12
 conv=>whnf
 intro fp13
 conv=>whnf
 intro fp14
 conv=>whnf
 refine ZbV h (fun eqBlock0 hb15 h=>?_)
 conv=>whnf
 refine ⟨trivial,?_⟩
 conv=>whnf
 refine ZkM ?_
 refine Zpm h (fun h=>?_) (fun h=>?_)
 conv=>whnf
 refine ⟨_,hb6,?_⟩
 conv=>whnf
 refine ZbV h (fun eqActivityS0 hb16 h=>?_)
 conv=>whnf
 refine ZkM ?_
 refine Zpm h (fun h=>?_) (fun h=>?_)
 conv=>whnf
 cases h
 exact hK
 conv=>whnf
 cases h
 exact hK
 conv=>whnf
 cases h
 exact hK
 conv=>whnf
 cases h
 exact hK
 conv=>whnf
 cases h
 exact hK
end Go.Proofs.YtjfbeebdhmebpaaGreatDoor
