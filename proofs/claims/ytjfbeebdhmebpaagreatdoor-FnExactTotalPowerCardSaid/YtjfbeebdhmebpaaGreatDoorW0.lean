/-
  The functions keep their contracts, if what they call does. Printed by program.
-/
import Derived.Test.YtjfbeebdhmebpaaGreatDoorM
import Derived.KernelRfl
namespace Go.Proofs.YtjfbeebdhmebpaaGreatDoor
open Go Go.Sx
set_option maxRecDepth 100000
set_option maxHeartbeats 3200000
set_option linter.unusedVariables false
set_option linter.unusedSimpArgs false
structure Ws0:Prop where
 w103:Sq 254 ZsS→Sq 240 ZsT
 w104:Sq 222 c82→Sq 226 ZrQ
 w118:Sq 199 c85→Sq 171 Zs2
 w122:Sq 173 Zsv→Sq 201 Zs4
 w130:Sq 119 c130
 w116:Sq 211 c81→Sq 212 c86→Sq 213 ZsW→Sq 48 c80→Sq 214 Zs1→Sq 198 c116
 w126:Sq 175 Zs7
 w95:Sq 261 c94→Sq 88 c92→Sq 252 c95
 w216:Sq 34 Zth→Sq 42 c203→Sq 49 c208→Sq 50 ZCc→Sq 24 ZCf
 w209:Sq 90 Ztc→Sq 50 ZCc
 w94:Sq 89 c88→Sq 48 c80→Sq 88 c92→Sq 265 c93→Sq 261 c94
 w119:Sq 200 c119
 w140:Sq 104 c139→Sq 48 c80→Sq 103 Ztf
 w154:Sq 207 Ztl→Sq 189 c154
 w157:Sq 107 c156→Sq 72 c157
 w151:Sq 110 Zrz
 w152:Sq 110 Zrz→Sq 218 c152
 w153:Sq 218 c152→Sq 207 Ztl
 w5:Sq 204 c4→Sq 179 c5
 w8:Sq 91 c7→Sq 53 c8
 w9:Sq 53 c8→Sq 25 c9
 w16:Sq 94 c2→Sq 57 c16
 w17:Sq 57 c16→Sq 27 c17
 w28:Sq 98 c27→Sq 61 c28
 w34:Sq 100 c33→Sq 64 c34
 w128:Sq 203 c127→Sq 174 Zs8
 w51:Sq 208 c44→Sq 197 c42→Sq 44 c43→Sq 209 c49→Sq 210 c50→Sq 196 c51
 w191:Sq 28 c72→Sq 41 ZB6→Sq 16 ZCu
 w173:Sq 153 c173
 w50:Sq 210 c50
 w174:Sq 155 ZCj
 w172:Sq 82 c59→Sq 44 c43→Sq 111 ZCi
 w182:Sq 190 ZCa→Sq 158 c182
 w67:Sq 43 c66→Sq 44 c43→Sq 58 c67
 w177:Sq 190 ZCa
 w183:Sq 157 c183
 w188:Sq 59 c75→Sq 156 ZCo→Sq 158 c182→Sq 157 c183→Sq 159 ZCq→Sq 60 c77→Sq 161 ZCr→Sq 160 ZCs→Sq 113 ZCt
 w69:Sq 127 c69
 w186:Sq 60 c77→Sq 161 ZCr
 w189:Sq 59 c75→Sq 29 c78→Sq 113 ZCt→Sq 79 ZCb
 w214:Sq 41 ZB6→Sq 46 c206→Sq 52 ZCe
set_option maxHeartbeats 100000000 in
theorem ws0:Ws0:=by
 refine ⟨(fun q0=>Ze Zm (Zc q0 Zh) mixed {} Tryz.func240 (hvc:=?_)),
 (fun q0=>Ze Zm (Zc q0 Zh) mixed {} Tryz.func226 (hvc:=?_)),
 (fun q0=>Ze Zm (Zc q0 Zh) mixed {loops:=[(0,[.reg 3 (.own (.ol 9 (.flat (.str)))),.reg 12 (.dat Iq)]),(2,[.reg 4 (.own (.ol 9 (.flat (.str)))),.reg 25 (.dat Iq)])]} Tryz.func171 (hvc:=?_)),
 (fun q0=>Ze Zm (Zc q0 Zh) mixed {} Tryz.func201 (hvc:=?_)),
 (Ze Zm Zh mixed {loops:=[(0,[.reg 3 (.own (.ol 188 (.flat (Zj0)))),.reg 13 (.dat Iq)]),(2,[.reg 3 (.own (.ol 188 (.flat (Zj0)))),.reg 21 (.dat Iq)]),(4,[.reg 3 (.own (.ol 188 (.flat (Zj0)))),.reg 44 (.dat Iq)])]} Tryz.func119 (hvc:=?_)),
 (fun q3 q2 q1 q4 q0=>Ze Zm (Zc q3 (Zc q2 (Zc q1 (Zc q4 (Zc q0 Zh))))) mixed {} Tryz.func198 (hvc:=?_)),
 (Ze Zm Zh mixed {} Tryz.func175 (hvc:=?_)),
 (fun q1 q0=>Ze Zm (Zc q1 (Zc q0 Zh)) mixed {} Tryz.func252 (hvc:=?_)),
 (fun q3 q2 q1 q0=>Ze Zm (Zc q3 (Zc q2 (Zc q1 (Zc q0 Zh)))) mixed {loops:=[(0,[.reg 32 (.dat Iq),.cell 4 0 Iq]),(2,[.reg 46 (.dat Iq),.cell 4 1 Iq,.cell 4 2 Iq])]} Tryz.func24 (hvc:=?_)),
 (fun q0=>Ze Zm (Zc q0 Zh) mixed {draws:=[(4,[0,0,3,7,0,16,0,0,192,448,1008,0,2048,8191,16383],.op 0 (.op 1 (.op 2 (.op 3 (.op 4 (.op 5 (.op 6 (.op 7 (.op 8 (.op 9 (.op 10 (.op 11 (.op 12 (.op 13 (.alt 14 (.done) (.done))))))))))))))))]} Tryz.func50 (hvc:=?_)),
 (fun q0 q3 q2 q1=>Ze Zm (Zc q0 (Zc q3 (Zc q2 (Zc q1 Zh)))) mixed {} Tryz.func261 (hvc:=?_)),
 (Ze Zm Zh mixed {} Tryz.func200 (hvc:=?_)),
 (fun q0 q1=>Ze Zm (Zc q0 (Zc q1 Zh)) mixed {} Tryz.func103 (hvc:=?_)),
 (fun q0=>Ze Zm (Zc q0 Zh) mixed {} Tryz.func189 (hvc:=?_)),
 (fun q0=>Ze Zm (Zc q0 Zh) mixed {loops:=[(0,[.reg 5 (.dat Iq)])],draws:=[(6,[0,0,3,7,0,0,48,112,255,511],.op 0 (.op 1 (.op 2 (.op 3 (.op 4 (.op 5 (.op 6 (.op 7 (.alt 8 (.op 9 (.done)) (.done))))))))))]} Tryz.func72 (hvc:=?_)),
 (Ze Zm Zh mixed {loops:=[(0,[.reg 5 (.dat Iq)])],draws:=[(6,[0,0,3,7,0,0,48,112,255],.op 0 (.op 1 (.op 2 (.op 3 (.op 4 (.op 5 (.op 6 (.op 7 (.op 8 (.done))))))))))]} Tryz.func110 (hvc:=?_)),
 (fun q0=>Ze Zm (Zc q0 Zh) mixed {} Tryz.func218 (hvc:=?_)),
 (fun q0=>Ze Zm (Zc q0 Zh) mixed {loops:=[(0,[.reg 5 (.dat Iq)])],draws:=[(6,[0,0,3,7,0,0,48,112,255,511],.op 0 (.op 1 (.op 2 (.op 3 (.op 4 (.op 5 (.op 6 (.op 7 (.alt 8 (.op 9 (.done)) (.done))))))))))]} Tryz.func207 (hvc:=?_)),
 (fun q0=>Ze Zm (Zc q0 Zh) mixed {} Tryz.func179 (hvc:=?_)),
 (fun q0=>Ze Zm (Zc q0 Zh) mixed {loops:=[(0,[.reg 1 (.dat Iq),.reg 5 (.dat Iq)])]} Tryz.func53 (hvc:=?_)),
 (fun q0=>Ze Zm (Zc q0 Zh) mixed {} Tryz.func25 (hvc:=?_)),
 (fun q0=>Ze Zm (Zc q0 Zh) mixed {} Tryz.func57 (hvc:=?_)),
 (fun q0=>Ze Zm (Zc q0 Zh) mixed {loops:=[(0,[.reg 1 (.dat Iq),.reg 5 (.dat Iq)])]} Tryz.func27 (hvc:=?_)),
 (fun q0=>Ze Vg (Zc q0 Zh) mixed {loops:=[(0,[.reg 4 (.dat Iq),.ent 0 (nat_lit 146) Zk2])]} Tryz.func61 (hvc:=?_)),
 (fun q0=>Ze Zm (Zc q0 Zh) mixed {loops:=[(0,[.reg 4 (.dat Iq),.ent 0 (nat_lit 168) (.flat ZsI.ety)])]} Tryz.func64 (hvc:=?_)),
 (fun q0=>Ze Zm (Zc q0 Zh) mixed {} Tryz.func174 (hvc:=?_)),
 (fun q1 q2 q4 q3 q0=>Ze Zm (Zc q1 (Zc q2 (Zc q4 (Zc q3 (Zc q0 Zh))))) mixed {loops:=[(0,[.reg 5 (.dat Iq)]),(2,[.reg 7 (.dat Iq)]),(5,[.reg 9 (.dat Iq)])],draws:=[(13,[0,1,0,7,15,31,0,64,255,511,1023,2047,1023,8191,16383,32767,1023,66559,262143,524287,1048575,2097151,4194303,2097151,16777215,33554431,67108863,2097151,136314879,536870911,1073741823],.op 0 (.op 1 (.op 2 (.op 3 (.op 4 (.op 5 (.op 6 (.op 7 (.op 8 (.op 9 (.op 10 (.op 11 (.op 12 (.op 13 (.op 14 (.op 15 (.op 16 (.op 17 (.op 18 (.op 19 (.op 20 (.op 21 (.op 22 (.op 23 (.op 24 (.op 25 (.op 26 (.op 27 (.op 28 (.op 29 (.op 30 (.done)))))))))))))))))))))))))))))))),(25,[0,1,3,7,15,31,63,127,255,511,1023,2047,4095,511,8703,25087,57855,131071,262143,524287,1048575,2097151,4194303,8388607,16777215,33554431],.op 0 (.op 1 (.op 2 (.op 3 (.op 4 (.op 5 (.op 6 (.op 7 (.op 8 (.op 9 (.op 10 (.op 11 (.op 12 (.op 13 (.op 14 (.op 15 (.op 16 (.op 17 (.op 18 (.op 19 (.op 20 (.op 21 (.op 22 (.op 23 (.op 24 (.op 25 (.done)))))))))))))))))))))))))))]} Tryz.func196 (hvc:=?_)),
 (fun q0 q1=>Ze Zm (Zc q0 (Zc q1 Zh)) mixed {} Tryz.func16 (hvc:=?_)),
 (Ze Zm Zh mixed {} Tryz.func153 (hvc:=?_)),
 (Ze Zm Zh mixed {loops:=[(0,[.reg 4 (.dat Iq),.ent 1 (nat_lit 2) (.flat ZnW.ety)])]} Tryz.func210 (hvc:=?_)),
 (Ze Zm Zh mixed {draws:=[(3,[0,1,0,4,0,16,60,124,252,511,1023,2047,0,4096,16383,32767,65535,131071],.op 0 (.op 1 (.op 2 (.op 3 (.op 4 (.op 5 (.op 6 (.op 7 (.op 8 (.op 9 (.op 10 (.op 11 (.op 12 (.op 13 (.op 14 (.op 15 (.op 16 (.op 17 (.done)))))))))))))))))))]} Tryz.func155 (hvc:=?_)),
 (fun q0 q1=>Ze Zm (Zc q0 (Zc q1 Zh)) mixed {} Tryz.func111 (hvc:=?_)),
 (fun q0=>Ze Zm (Zc q0 Zh) mixed {} Tryz.func158 (hvc:=?_)),
 (fun q0 q1=>Ze Zm (Zc q0 (Zc q1 Zh)) mixed {} Tryz.func58 (hvc:=?_)),
 (Ze Zm Zh mixed {loops:=[(0,[.reg 3 (.dat Iq),.reg 4 (.dat Iq)])]} Tryz.func190 (hvc:=?_)),
 (Ze Zm Zh mixed {loops:=[(0,[.reg 5 (.own (.ol 2 (.flat Iq))),.reg 6 (.dat Iq)])],draws:=[(8,[0,0,3,7,0,0,48,112,255],.op 0 (.op 1 (.op 2 (.op 3 (.op 4 (.op 5 (.op 6 (.op 7 (.op 8 (.done))))))))))]} Tryz.func157 (hvc:=?_)),
 (fun q1 q0 q4 q3 q5 q7 q2 q6=>Ze Zm (Zc q1 (Zc q0 (Zc q4 (Zc q3 (Zc q5 (Zc q7 (Zc q2 (Zc q6 Zh)))))))) mixed {loops:=[(0,[.reg 9 (.dat Iq),.reg 10 (.dat Iq)])],draws:=[(8,[0,0,0,0,0,30,0,0,0,0,768,1792,4094,8190,16382,32767,65535],.op 0 (.op 1 (.op 2 (.op 3 (.op 4 (.op 6 (.op 7 (.op 8 (.op 9 (.op 10 (.op 11 (.alt 5 (.alt 12 (.op 13 (.op 14 (.op 15 (.op 16 (.done))))) (.done)) (.done)))))))))))))]} Tryz.func113 (hvc:=?_)),
 (Ze Zm Zh mixed {loops:=[(0,[.reg 0 (.dat Iq),.reg 1 (.dat Iq)])]} Tryz.func127 (hvc:=?_)),
 (fun q0=>Ze Zm (Zc q0 Zh) mixed {loops:=[(0,[.reg 7 (.dat Iq),.reg 8 (.dat Iq)])],draws:=[(5,[0,0,0,0,0,24,56,126,254,510,1023,2047],.op 0 (.op 1 (.op 2 (.op 3 (.op 4 (.op 5 (.op 6 (.alt 7 (.op 8 (.op 9 (.op 10 (.op 11 (.done))))) (.done)))))))))]} Tryz.func161 (hvc:=?_)),
 (fun q0 q2 q1=>Ze Zm (Zc q0 (Zc q2 (Zc q1 Zh))) mixed {} Tryz.func79 (hvc:=?_)),
 (fun q1 q0=>Ze Zm (Zc q1 (Zc q0 Zh)) mixed {loops:=[(0,[.reg 6 (.dat Iq),.cell 1005 0 Iq]),(2,[.reg 7 (.dat Iq),.cell 1005 1 Iq,.cell 1005 2 Iq])],draws:=[(5,[0,1,0,0,0,28,63,127,255],.op 0 (.op 1 (.op 2 (.op 3 (.op 4 (.alt 5 (.op 6 (.op 7 (.alt 8 (.done) (.done)))) (.done)))))))]} Tryz.func52 (hvc:=?_))⟩
 all_goals
  intro a
  repeat rcases a with ⟨_,a⟩
  rintro K ⟨r,h,hK⟩
  repeat'
    conv=>whnf
    first
    | with_reducible refine Znj ?_
    | with_reducible refine Za7 (by assumption) (by assumption) (by assumption) ?_
    | with_reducible refine Za5 (by assumption) ?_
    | with_reducible refine Za9 (by assumption) ?_
    | (with_reducible refine shD ?_);first | refine Znb h (fun h=>?_) (fun h=>?_) | refine ZnR h (fun h=>?_) (fun h=>?_)
    | (with_reducible refine ZnI ?_);first | refine Zqb ?_ | refine ZkM ?_
    | (with_reducible refine ZrF ?_);first | refine Zpm h (fun h=>?_) (fun h=>?_) | refine ZnQ h (fun h=>?_) (fun h=>?_)
    | (with_reducible refine ZnH ?_);(refine ⟨fun hd=>?_,?_⟩)<;>try subst hd
    | (with_reducible refine ZrH ?_);first | with_reducible refine ZbV h (fun x hb h=>?_) | refine Za9 (by assumption) ?_ | with_reducible refine pG h (fun hp h=>?_) | with_reducible refine pA h (fun x ha hb hx h=>?_) | with_reducible refine pB h (fun x hb h=>?_) | refine ZbV h (fun x hb h=>?_)
    | (with_reducible refine ZrE ?_);first | with_reducible refine vAt h (fun x ha hb hx h=>?_) | refine Za7 (by assumption) (by assumption) (by assumption) ?_ | with_reducible refine pG h (fun hp h=>?_) | with_reducible refine pA h (fun x ha hb hx h=>?_) | with_reducible refine pB h (fun x hb h=>?_) | refine vAt h (fun x ha hb hx h=>?_)
    | (with_reducible refine ZnG ?_);first | with_reducible refine ZhF h (fun x hb h=>?_) | refine Za5 (by assumption) ?_ | with_reducible refine pG h (fun hp h=>?_) | with_reducible refine pA h (fun x ha hb hx h=>?_) | with_reducible refine pB h (fun x hb h=>?_) | refine ZhF h (fun x hb h=>?_)
    | with_reducible refine ZrG ?_
    | (with_reducible refine ZjW ?_);refine Zj1 h hK ?_;clear h hK;intro I μ v r h hK;(repeat rcases v with ⟨_,v⟩);(try dsimp only at h)
    | with_reducible refine ⟨by assumption,?_⟩
    | with_reducible refine orL ?_
    | with_reducible refine .inr ?_
    | (with_reducible refine ZnJ ?_);first | refine ⟨?_,True.intro⟩ | refine ⟨?_,?_⟩
    | refine ⟨by kernel_rfl,?_⟩
    | refine ⟨by decide,?_⟩
    | with_reducible refine ZnX h (fun hp h=>?_)
    | intro fp
    | exact trivial
    | with_reducible exact Znh h
    | (refine pS h (fun e=>?_));subst e;(repeat (first | exact hK | exact ⟨⟨rfl,rfl⟩,hK.1 _ rfl⟩ | (refine pR hK (fun e hK=>?_));subst e));done
    | refine ZnX h (fun hp h=>?_)
    | refine ⟨by assumption,?_⟩
    | with_reducible refine pG h (fun hp h=>?_) | with_reducible refine pA h (fun x ha hb hx h=>?_) | with_reducible refine pB h (fun x hb h=>?_)
    | refine pG h (fun hp h=>?_)
    | fail
theorem w_laws_FnExactDensityBound (q5:Sq 8 c18) (q2:Sq 9 c19) (q6:Sq 11 c38) (q3:Sq 12 c41) (q0:Sq 10 c79) (q1:Sq 13 c148) (q7:Sq 14 c167) (q4:Sq 15 Ztt):Sq 3 VB:=by
 refine Ze Zm (Zc q5 (Zc q2 (Zc q6 (Zc q3 (Zc q0 (Zc q1 (Zc q7 (Zc q4 Zh)))))))) mixed {draws:=[(14,[0,0,2,7,15],.op 0 (.op 1 (.alt 2 (.alt 3 (.op 4 (.done)) (.done)) (.done))))]} (fn:=Tryz.f3) Tryz.func3 (by kernel_rfl) (by kernel_rfl) ?_
 rintro ⟨aB0,aList0,aNet0,⟨⟩⟩ K ⟨r,h,hK⟩
 change YW aB0 aList0 aNet0=some r at h
 unfold YW at h
 conv=>whnf
 refine ZbV h (fun szBlock0 hb0 h=>?_)
 conv=>whnf
 refine Znb h (fun h=>?_) (fun h=>?_)
 conv=>whnf
 cases h
 exact hK
 conv=>whnf
 refine ZbV h (fun szActivityS0 hb1 h=>?_)
 conv=>whnf
 refine Znb h (fun h=>?_) (fun h=>?_)
 conv=>whnf
 cases h
 exact hK
 conv=>whnf
 refine ZbV h (fun toBlock0 hb2 h=>?_)
 conv=>whnf
 intro fp3
 conv=>whnf
 intro fp4
 conv=>whnf
 intro fp5
 conv=>whnf
 refine ZbV h (fun toActivityS0 hb6 h=>?_)
 conv=>whnf
 refine ZbV h (fun DensityBound0 hb7 h=>?_)
 conv=>whnf
 refine ⟨_,hb2,?_⟩
 conv=>whnf
 intro fp8
 conv=>whnf
 intro fp9
 conv=>whnf
 intro fp10
 conv=>whnf
 refine ⟨_,hb6,?_⟩
 conv=>whnf
 refine ZbV h (fun DensityBound1 hb11 h=>?_)
 conv=>whnf
 refine Zqb ?_
 refine Znb h (fun h=>?_) (fun h=>?_)
 conv=>whnf
 refine ZkM ?_
 refine Znb h (fun h=>?_) (fun h=>?_)
 conv=>whnf
 refine ⟨by kernel_rfl,?_⟩
 conv=>whnf
 refine ⟨_,hb2,?_⟩
 conv=>whnf
 intro fp12
 conv=>whnf
 intro fp13
 conv=>whnf
 intro fp14
 conv=>whnf
 refine ZbV h (fun eqBlock0 hb15 h=>?_)
 conv=>whnf
 refine ⟨trivial,?_⟩
 conv=>whnf
 refine ZkM ?_
 refine Zpm h (fun h=>?_) (fun h=>?_)
 conv=>whnf
 refine ⟨_,hb6,?_⟩
 conv=>whnf
 refine ZbV h (fun eqActivityS0 hb16 h=>?_)
 conv=>whnf
 refine ZkM ?_
 refine Zpm h (fun h=>?_) (fun h=>?_)
 conv=>whnf
 cases h
 exact hK
 conv=>whnf
 cases h
 exact hK
 conv=>whnf
 cases h
 exact hK
 conv=>whnf
 cases h
 exact hK
 conv=>whnf
 cases h
 exact hK
theorem ZAu (q1:Sq 126 c62) (q0:Sq 135 c63) (rec0:Zg→Int→(List Int)→Option (Int×(List Int))) (hrec:Sq 191 (ZwE rec0)):Sq 191 (ZwE (ZvO rec0)):=by
 refine Ze Vg (Zc hrec (Zc q1 (Zc q0 Zh))) mixed {loops:=[(0,[.reg 9 (.dat Iq),.reg 10 (.dat Iq),.reg 11 (.dat Iq),.ent 0 (nat_lit 2) (.flat (Ty.int IntKind.i64))])],draws:=[(10,[0,0,0,0,0,24,56,0,252,510,1023,2047],.op 0 (.op 1 (.op 2 (.op 3 (.op 4 (.op 5 (.op 6 (.op 7 (.alt 8 (.op 9 (.op 10 (.op 11 (.done)))) (.done)))))))))),(12,[0,0,0,4,12,0,32,96,0,480,992,2016,4092,8188,16380,0,65532,131068,262143,524287],.op 0 (.op 1 (.op 2 (.op 3 (.op 4 (.op 5 (.op 6 (.op 7 (.op 8 (.op 9 (.op 10 (.op 11 (.op 12 (.op 13 (.op 14 (.op 15 (.op 16 (.op 17 (.op 18 (.alt 19 (.done) (.done)))))))))))))))))))))]} (fn:=Tryz.f191) Tryz.func191 (by kernel_rfl) (by kernel_rfl) ?_
 rintro ⟨a0,a1,a2,⟨⟩⟩ K ⟨r,h,hK⟩
 change ZvO rec0 a0 a1 a2=some r at h
 unfold ZvO at h
 conv=>whnf
 refine vAt h (fun x0 he0a he0b he0x h=>?_)
 conv=>whnf
 refine ⟨by kernel_rfl,?_⟩
 conv=>whnf
 refine ⟨he0a,he0b,Za5 he0x ?_⟩
 conv=>whnf
 refine Znb h (fun h=>?_) (fun h=>?_)
 conv=>whnf
 refine ⟨he0a,he0b,Za5 he0x ?_⟩
 conv=>whnf
 refine ⟨by kernel_rfl,?_⟩
 conv=>whnf
 refine ⟨he0a,he0b,Za5 he0x ?_⟩
 conv=>whnf
 cases h
 exact hK
 conv=>whnf
 refine ZbV h (fun l28Gate0 hb1 h=>?_)
 conv=>whnf
 refine ZbV h (fun l28Inputs0 hb2 h=>?_)
 conv=>whnf
 refine Zss h ?_
 rintro I3 μ3 ⟨v0,v1,v2,l0,⟨⟩⟩ zs3 h hI3 hR3
 change ZvR a0 a1 rec0 l28Gate0 l28Inputs0 v0 v1 v2 l0=some zs3 at h
 unfold ZvR at h
 conv=>whnf
 refine Znb h (fun h=>?_) (fun h=>?_)
 conv=>whnf
 refine ⟨by kernel_rfl,?_⟩
 conv=>whnf
 refine vAt h (fun x1 he4a he4b he4x h=>?_)
 conv=>whnf
 refine ZbV h (fun r0 hb5 h=>?_)
 conv=>whnf
 refine ⟨trivial,?_⟩
 conv=>whnf
 cases h
 exact ⟨⟨rfl,rfl⟩,hI3 _ rfl⟩
 conv=>whnf
 refine ⟨by kernel_rfl,?_⟩
 conv=>whnf
 refine vAt h (fun x1 he6a he6b he6x h=>?_)
 conv=>whnf
 refine vAt h (fun x2 he7a he7b he7x h=>?_)
 conv=>whnf
 refine vAt h (fun x3 he8a he8b he8x h=>?_)
 conv=>whnf
 refine vAt h (fun x4 he9a he9b he9x h=>?_)
 conv=>whnf
 refine ⟨by kernel_rfl,?_⟩
 conv=>whnf
 refine ⟨by decide,?_⟩
 conv=>whnf
 refine ⟨he9a,he9b,Za5 he9x ?_⟩
 conv=>whnf
 refine ⟨trivial,?_⟩
 conv=>whnf
 refine vAt h (fun x5 he10a he10b he10x h=>?_)
 conv=>whnf
 refine ⟨by kernel_rfl,?_⟩
 conv=>whnf
 refine ⟨he10a,he10b,Za5 he10x ?_⟩
 conv=>whnf
 cases h
 obtain rfl:=hR3 _ rfl
 exact hK
theorem ZDu (q1:Sq 126 c62) (q0:Sq 135 c63):Sq 191 ZCn:=by
 have hn:∀ n,Sq 191 (ZwE (ZvN n)):=by
  intro n
  induction n with
  | zero =>
  refine Ze Vg Zh mixed {loops:=[(0,[.reg 9 (.dat Iq),.reg 10 (.dat Iq),.reg 11 (.dat Iq),.ent 0 (nat_lit 2) (.flat (Ty.int IntKind.i64))])],draws:=[(10,[0,0,0,0,0,24,56,0,252,510,1023,2047],.op 0 (.op 1 (.op 2 (.op 3 (.op 4 (.op 5 (.op 6 (.op 7 (.alt 8 (.op 9 (.op 10 (.op 11 (.done)))) (.done)))))))))),(12,[0,0,0,4,12,0,32,96,0,480,992,2016,4092,8188,16380,0,65532,131068,262143,524287],.op 0 (.op 1 (.op 2 (.op 3 (.op 4 (.op 5 (.op 6 (.op 7 (.op 8 (.op 9 (.op 10 (.op 11 (.op 12 (.op 13 (.op 14 (.op 15 (.op 16 (.op 17 (.op 18 (.alt 19 (.done) (.done)))))))))))))))))))))]} (fn:=Tryz.f191) Tryz.func191 (by kernel_rfl) (by kernel_rfl) ?_
  rintro ⟨a0,a1,a2,⟨⟩⟩ K ⟨r,h,hK⟩
  cases h
  | succ n ih=>exact ZAu q1 q0 _ ih
 refine ⟨(hn 0).1,?_⟩
 rintro w S vs ⟨a0,a1,a2,⟨⟩⟩ fp K h1 h2 h3 h4 ⟨r,h,hK⟩
 obtain ⟨n,hr⟩:=Zo2 h
 exact (hn n).2 w S vs _ fp K h1 h2 h3 h4 ⟨r,hr,hK⟩
theorem Zi1 (q1:Sq 126 c62) (q0:Sq 135 c63) (rec0:Zg→Int→(List Bool)→(List Bool)→Option ((List Bool)×(List Bool))) (hrec:Sq 95 (JK rec0)):Sq 95 (JK (YA rec0)):=by
 refine Ze Vg (Zc hrec (Zc q1 (Zc q0 Zh))) mixed {loops:=[(0,[.reg 10 (.dat Iq),.ent 0 (nat_lit 4) (.flat Ty.bool),.ent 1 (nat_lit 4) (.flat Ty.bool)])],draws:=[(10,[0,0,0,6,14,0,0,127],.op 0 (.op 1 (.op 2 (.op 3 (.op 4 (.op 5 (.op 6 (.alt 7 (.done) (.done)))))))))]} (fn:=Tryz.f95) Tryz.func95 (by kernel_rfl) (by kernel_rfl) ?_
 rintro ⟨b0,net0,marks0,seen0,⟨⟩⟩ K ⟨r,h,hK⟩
 change YA rec0 b0 net0 marks0 seen0=some r at h
 unfold YA at h
 conv=>whnf
 refine vAt h (fun x0 he0a he0b he0x h=>?_)
 conv=>whnf
 refine ⟨by kernel_rfl,?_⟩
 conv=>whnf
 refine ⟨he0a,he0b,Za5 he0x ?_⟩
 conv=>whnf
 refine Zpm h (fun h=>?_) (fun h=>?_)
 conv=>whnf
 cases h
 exact hK
 conv=>whnf
 refine ⟨he0a,he0b,Za5 he0x ?_⟩
 conv=>whnf
 refine ⟨by kernel_rfl,?_⟩
 conv=>whnf
 refine ⟨by decide,?_⟩
 conv=>whnf
 refine ⟨he0a,he0b,Za5 he0x ?_⟩
 conv=>whnf
 refine ZbV h (fun l28Gate0 hb1 h=>?_)
 conv=>whnf
 refine Znb h (fun h=>?_) (fun h=>?_)
 conv=>whnf
 refine vAt h (fun x1 he2a he2b he2x h=>?_)
 conv=>whnf
 refine ⟨by kernel_rfl,?_⟩
 conv=>whnf
 refine ⟨by decide,?_⟩
 conv=>whnf
 refine ⟨he2a,he2b,Za5 he2x ?_⟩
 conv=>whnf
 cases h
 exact hK
 conv=>whnf
 refine ZbV h (fun l28Inputs0 hb3 h=>?_)
 conv=>whnf
 refine Zss h ?_
 rintro I4 μ4 ⟨i0,l0,l1,⟨⟩⟩ zs4 h hI4 hR4
 change YF b0 rec0 l28Inputs0 i0 l0 l1=some zs4 at h
 unfold YF at h
 conv=>whnf
 refine Znb h (fun h=>?_) (fun h=>?_)
 conv=>whnf
 refine ⟨by kernel_rfl,?_⟩
 conv=>whnf
 refine vAt h (fun x1 he5a he5b he5x h=>?_)
 conv=>whnf
 refine ZbV h (fun r0 hb6 h=>?_)
 conv=>whnf
 refine ⟨trivial,?_⟩
 conv=>whnf
 cases h
 exact ⟨⟨rfl,rfl⟩,hI4 _ rfl⟩
 conv=>whnf
 cases h
 obtain rfl:=hR4 _ rfl
 exact hK
theorem w73 (q1:Sq 126 c62) (q0:Sq 135 c63):Sq 95 c73:=by
 have hn:∀ n,Sq 95 (JK (Yw n)):=by
  intro n
  induction n with
  | zero =>
  refine Ze Vg Zh mixed {loops:=[(0,[.reg 10 (.dat Iq),.ent 0 (nat_lit 4) (.flat Ty.bool),.ent 1 (nat_lit 4) (.flat Ty.bool)])],draws:=[(10,[0,0,0,6,14,0,0,127],.op 0 (.op 1 (.op 2 (.op 3 (.op 4 (.op 5 (.op 6 (.alt 7 (.done) (.done)))))))))]} (fn:=Tryz.f95) Tryz.func95 (by kernel_rfl) (by kernel_rfl) ?_
  rintro ⟨b0,net0,marks0,seen0,⟨⟩⟩ K ⟨r,h,hK⟩
  cases h
  | succ n ih=>exact Zi1 q1 q0 _ ih
 refine ⟨(hn 0).1,?_⟩
 rintro w S vs ⟨b0,net0,marks0,seen0,⟨⟩⟩ fp K h1 h2 h3 h4 ⟨r,h,hK⟩
 obtain ⟨n,hr⟩:=Zo2 h
 exact (hn n).2 w S vs _ fp K h1 h2 h3 h4 ⟨r,hr,hK⟩
end Go.Proofs.YtjfbeebdhmebpaaGreatDoor
