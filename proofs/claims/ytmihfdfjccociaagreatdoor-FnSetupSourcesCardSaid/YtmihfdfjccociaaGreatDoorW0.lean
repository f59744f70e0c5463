/-
  The functions keep their contracts, if what they call does. Printed by program.
-/
import Derived.Test.YtmihfdfjccociaaGreatDoorM
import Derived.KernelRfl
namespace Go.Proofs.YtmihfdfjccociaaGreatDoor
open Go Go.Sx
set_option maxRecDepth 100000
set_option maxHeartbeats 100000000
set_option linter.unusedVariables false
set_option linter.unusedSimpArgs false
structure Ws0:Prop where
 w84:Sq 128 c83->Sq 68 c84
 w93:Sq 76 c29->Sq 219 c93
 w71:Sq 123 c70->Sq 189 c71
 w154:Sq 32 c82->Sq 33 c91->Sq 34 ZuE->Sq 11 c154
 w125:Sq 22 c117->Sq 24 c124->Sq 8 Zuo
 w112:Sq 157 Zuf
 w155:Sq 134 ZtK->Sq 75 ZuF
 w124:Sq 52 c94->Sq 24 c124
 w43:Sq 69 c37->Sq 76 c29->Sq 127 c41->Sq 161 c42->Sq 310 c43
 w102:Sq 76 c29->Sq 134 ZtK
 w31:Sq 257 c31
 w37:Sq 69 c37
 w152:Sq 133 ZuD->Sq 76 c29->Sq 72 c152
 w151:Sq 45 c97->Sq 133 ZuD
 w58:Sq 284 c57->Sq 259 c58
 w48:Sq 309 c47->Sq 296 c48
 w120:Sq 111 c119->Sq 110 Zuk
 w72:Sq 189 c71->Sq 232 c72
 w32:Sq 254 c32
 w150:Sq 9 ZtL->Sq 31 ZuB->Sq 10 ZuC
 w21:Sq 38 c21
 w2:Sq 36 c2
 w132:Sq 228 Zus
 w130:Sq 279 Zur->Sq 256 c130
 w23:Sq 38 c21->Sq 60 c23
 w26:Sq 98 c18->Sq 36 c2->Sq 28 c13->Sq 99 c19->Sq 26 c25->Sq 47 c26
set_option maxHeartbeats 100000000 in
theorem ws0:Ws0:=by
 refine ⟨(λq0=>GO Zv (Ze q0 Zn) {loops:=[(0,[.reg 7 (.own (.ol 157 (.flat (Zkg)))),.reg 21 (.dat Iq)]),(2,[.reg 7 (.own (.ol 157 (.flat (Zkg)))),.reg 29 (.dat Iq)])]} Tryz.func68 ?_),
 (λq0=>GO Zv (Ze q0 Zn) {} Tryz.func219 ?_),
 (λq0=>GO Zv (Ze q0 Zn) {} Tryz.func189 ?_),
 (λq1 q2 q0=>GO Zv (Ze q1 (Ze q2 (Ze q0 Zn))) {} Tryz.func11 ?_),
 (λq0 q1=>GO Zv (Ze q0 (Ze q1 Zn)) {} Tryz.func8 ?_),
 (GO Zv Zn {} Tryz.func157 ?_),
 (λq0=>GO Zv (Ze q0 Zn) {} Tryz.func75 ?_),
 (λq0=>GO Zv (Ze q0 Zn) {loops:=[(0,[.reg 3 (.own (.ol 129 (.flat (Zgk)))),.reg 12 (.dat Iq)])]} Tryz.func24 ?_),
 (λq0 q3 q2 q1=>GO Zv (Ze q0 (Ze q3 (Ze q2 (Ze q1 Zn)))) {} Tryz.func310 ?_),
 (λq0=>GO Zv (Ze q0 Zn) {} Tryz.func134 ?_),
 (GO Zv Zn {} Tryz.func257 ?_),
 (GO Zv Zn {} Tryz.func69 ?_),
 (λq0 q1=>GO Zv (Ze q0 (Ze q1 Zn)) {} Tryz.func72 ?_),
 (λq0=>GO Zv (Ze q0 Zn) {} Tryz.func133 ?_),
 (λq0=>GO Zv (Ze q0 Zn) {} Tryz.func259 ?_),
 (λq0=>GO Zv (Ze q0 Zn) {} Tryz.func296 ?_),
 (λq0=>GO Zv (Ze q0 Zn) {loops:=[(0,[.reg 8 (.dat Iq)])]} Tryz.func110 ?_),
 (λq0=>GO Zv (Ze q0 Zn) {loops:=[(0,[.reg 8 (.dat Iq)])]} Tryz.func232 ?_),
 (GO Zv Zn {loops:=[(0,[.reg 8 (.dat Iq)])]} Tryz.func254 ?_),
 (λq1 q0=>GO Zv (Ze q1 (Ze q0 Zn)) {} Tryz.func10 ?_),
 (GO Zv Zn {} Tryz.func38 ?_),
 (GO Zv Zn {draws:=[(3,[],.u 0 10 .done),(4,[],.u 0 10 (.alt 10 (.op 11 .done) .done))]} Tryz.func36 ?_),
 (GO Zv Zn {loops:=[(0,[.reg 4 (.dat Iq),.ent 1 (nat_lit 2) (.flat ZrK.ety)])]} Tryz.func228 ?_),
 (λq0=>GO Zv (Ze q0 Zn) {loops:=[(0,[.reg 5 (.dat Iq)])]} Tryz.func256 ?_),
 (λq0=>GO Zv (Ze q0 Zn) {} Tryz.func60 ?_),
 (λq2 q3 q0 q4 q1=>GO ZcL (Ze q2 (Ze q3 (Ze q0 (Ze q4 (Ze q1 Zn))))) {loops:=[(0,[.reg 9 (.dat Iq),.cell 1000 0 (.sl (.int .u8)),.cell 1000 1 Iq,.cell 1000 2 Iq,.cello 1008 0 (.ol 77 (.flat (Jr)))]),(2,[.reg 11 (.own (.ol 111 (.flat (Qy)))),.reg 12 (.own (.ol 111 (.flat (Qy)))),.reg 13 (.dat Iq),.cell 1000 0 (.sl (.int .u8)),.cell 1000 1 Iq,.cell 1000 2 Iq]),(5,[.reg 17 (.own (.ol 82 (Zhx))),.reg 18 (.dat Iq),.cell 1000 0 (.sl (.int .u8)),.cell 1000 1 Iq,.cell 1000 2 Iq])],draws:=[(17,[],.o [1,2] (.ld 4 (.alt 0 (.alt 3 (.a [5,6] (.op 7 (.d 8))) (.a [5,3,6] (.op 7 (.d 8)))) (.a [5,0,3,6] (.op 7 (.d 8)))))),(48,[],.op 0 (.alt 1 (.a [2,3] .done) (.a [2,1,3] .done)))]} Tryz.func47 ?_)⟩
 all_goals
  intro a;repeat rcases a with ⟨_,a⟩
  rintro K ⟨r,h,hK⟩;repeat'
    conv=>whnf
    first
    | with_reducible refine ZqH ?_
    | with_reducible refine ZeT (by assumption) (by assumption) (by assumption) ?_
    | with_reducible refine Zhq (by assumption) ?_
    | with_reducible refine Ze2 (by assumption) ?_
    | (with_reducible refine shD ?_);first | refine Zmn h (λh=>?_) (λh=>?_) | refine Zrt h (λh=>?_) (λh=>?_)
    | (with_reducible refine Zrl ?_);first | refine ZsA ?_ | refine Zqm ?_
    | (with_reducible refine ZtZ ?_);first | refine Zou h (λh=>?_) (λh=>?_) | refine Zrs h (λh=>?_) (λh=>?_)
    | (with_reducible refine Zrk ?_);(refine ⟨λhd=>?_,?_⟩)<;>try subst hd
    | (with_reducible refine Zt1 ?_);first | with_reducible refine ZeB h (λx hb h=>?_) | refine Ze2 (by assumption) ?_ | with_reducible refine pG h (λhp h=>?_) | with_reducible refine pA h (λx ha hb hx h=>?_) | with_reducible refine pB h (λx hb h=>?_) | refine ZeB h (λx hb h=>?_)
    | (with_reducible refine ZtY ?_);first | with_reducible refine vAt h (λx ha hb hx h=>?_) | refine ZeT (by assumption) (by assumption) (by assumption) ?_ | with_reducible refine pG h (λhp h=>?_) | with_reducible refine pA h (λx ha hb hx h=>?_) | with_reducible refine pB h (λx hb h=>?_) | refine vAt h (λx ha hb hx h=>?_)
    | (with_reducible refine Zrj ?_);first | with_reducible refine Zmm h (λx hb h=>?_) | refine Zhq (by assumption) ?_ | with_reducible refine pG h (λhp h=>?_) | with_reducible refine pA h (λx ha hb hx h=>?_) | with_reducible refine pB h (λx hb h=>?_) | refine Zmm h (λx hb h=>?_)
    | with_reducible refine Zt0 ?_
    | (with_reducible refine ZnM ?_);refine ZnS h hK ?_;clear h hK;intro I μ v r h hK;(repeat rcases v with ⟨_,v⟩);(try dsimp only at h)
    | with_reducible refine ⟨by assumption,?_⟩
    | with_reducible refine orL ?_
    | with_reducible refine .inr ?_
    | (with_reducible refine Zrm ?_);first | refine ⟨?_,True.intro⟩ | refine ⟨?_,?_⟩
    | refine ⟨by kernel_rfl,?_⟩
    | refine ⟨by decide,?_⟩
    | with_reducible refine Zru h (λhp h=>?_)
    | intro fp
    | exact trivial
    | with_reducible exact ZqG h
    | (refine pS h (λe=>?_));subst e;(repeat (first | exact hK | exact ⟨⟨rfl,rfl⟩,hK.1 _ rfl⟩ | (refine pR hK (λe hK=>?_));subst e));done
    | refine Zru h (λhp h=>?_)
    | refine ⟨by assumption,?_⟩
    | with_reducible refine pG h (λhp h=>?_) | with_reducible refine pA h (λx ha hb hx h=>?_) | with_reducible refine pB h (λx hb h=>?_)
    | refine pG h (λhp h=>?_)
    | fail
theorem Zlv (rec0:(List Zd)->Int->Option Yu) (hrec:Sq 61 (ZcU rec0)):Sq 61 (ZcU (JE rec0)):=by
 refine GO Zv (Ze hrec Zn) {} Tryz.func61 ?_;rintro ⟨list0,k0,⟨⟩⟩ K ⟨r,h,hK⟩
 change JE rec0 list0 k0=some r at h
 unfold JE at h
 conv=>whnf
 refine vAt h (λx0 he0a he0b he0x h=>?_)
 conv=>whnf
 refine Zmn h (λh=>?_) (λh=>?_)
 conv=>whnf
 cases h;exact hK
 conv=>whnf
 refine ZeB h (λr0 hb1 h=>?_)
 conv=>whnf
 refine Zmn h (λh=>?_) (λh=>?_)
 conv=>whnf
 refine ⟨by decide,?_⟩
 conv=>whnf
 refine Zou h (λh=>?_) (λh=>?_)
 conv=>whnf
 cases h;exact hK
 conv=>whnf
 cases h;exact hK
 conv=>whnf
 refine Zou h (λh=>?_) (λh=>?_)
 conv=>whnf
 cases h;exact hK
 conv=>whnf
 cases h;exact hK
theorem w24:Sq 61 c24:=by
 have hn:∀ n,Sq 61 (ZcU (JF n)):=by
  intro n;induction n with
  | zero =>
  refine GO Zv Zn {} Tryz.func61 ?_;rintro ⟨list0,k0,⟨⟩⟩ K ⟨r,h,hK⟩;cases h
  | succ n ih=>exact Zlv _ ih
 refine ⟨(hn 0).1,?_⟩;rintro w S vs ⟨list0,k0,⟨⟩⟩ fp K h1 h2 h3 h4 ⟨r,h,hK⟩;obtain ⟨n,hr⟩:=ZjD h;exact (hn n).2 w S vs _ fp K h1 h2 h3 h4 ⟨r,hr,hK⟩
end Go.Proofs.YtmihfdfjccociaaGreatDoor
