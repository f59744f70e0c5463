/-
  The functions keep their contracts, if what they call does. Printed by program.
-/
import Derived.Test.YtnnbgbgapogckaaGreatDoorM
import Derived.KernelRfl
namespace Go.Proofs.YtnnbgbgapogckaaGreatDoor
open Go Go.Sx
set_option maxRecDepth 100000
set_option maxHeartbeats 6400000
set_option linter.unusedVariables false
set_option linter.unusedSimpArgs false
theorem ZFT (q0:Sq 113 ZA3):Sq 55 ZA4:=by
 refine Zm ZL (Zg q0 Zu) mixed {loops:=[(0,[.reg 8 (.dat Iq),.ent 3 (nat_lit 2) (.flat Znz.ety)])],draws:=[(1,[0,1,0,7,15,0,0,96,0,511,1023],.op 0 (.op 1 (.op 2 (.op 3 (.op 4 (.op 5 (.op 6 (.alt 7 (.alt 8 (.alt 9 (.op 10 (.done)) (.done)) (.done)) (.alt 8 (.alt 7 (.alt 9 (.op 10 (.done)) (.done)) (.done)) (.done)))))))))),(6,[0,0,0,0,8,0,56,120,252,508,0,1024,0,7168,15360,0,0,98304,229376,523264,1048572,2097151,4194303],.op 0 (.op 1 (.op 2 (.op 3 (.op 4 (.op 5 (.op 6 (.op 7 (.op 8 (.op 9 (.op 10 (.op 11 (.op 12 (.op 13 (.op 14 (.op 15 (.op 16 (.op 17 (.op 18 (.op 19 (.op 20 (.op 21 (.alt 22 (.done) (.done))))))))))))))))))))))))]} (fn:=Tryz.f55) Tryz.func55 (by kernel_rfl) (by kernel_rfl) ?_
 rintro ⟨b0,net0,⟨⟩⟩ K ⟨r,h,hK⟩
 change ZD5 b0 net0=some r at h
 unfold ZD5 at h
 focus
  conv=>whnf
  refine ⟨by kernel_rfl,?_⟩
  conv=>whnf
  refine vAt h (fun x0 he0a he0b he0x h=>?_)
  conv=>whnf
  obtain ⟨nodeLoads0,hb1,h⟩:=Option.bind_eq_some_iff.1 h
  refine ⟨?_,?_⟩
  rotate_left
  focus
   conv=>whnf
   refine ⟨_,hb1,?_⟩
   conv=>whnf
   refine ⟨trivial,?_⟩
  rotate_right
  focus
   conv=>whnf
   refine ⟨_,hb1,?_⟩
   conv=>whnf
   refine ⟨trivial,?_⟩
  all_goals
   conv=>whnf
   refine Yk h (fun hp2 h=>?_)
   conv=>whnf
   refine Yk h (fun hp3 h=>?_)
   conv=>whnf
   refine Yk h (fun hp4 h=>?_)
   conv=>whnf
   refine Yk h (fun hp5 h=>?_)
   conv=>whnf
   refine YH h ?_
   rintro I6 μ6 ⟨i0,l0,⟨⟩⟩ zs6 h hI6 hR6
   change ZD4 x0 nodeLoads0 i0 l0=some zs6 at h
   unfold ZD4 at h
   conv=>whnf
   refine ZG h (fun h=>?_) (fun h=>?_)
   conv=>whnf
   refine ⟨by kernel_rfl,?_⟩
   conv=>whnf
   refine vAt h (fun x1 he7a he7b he7x h=>?_)
   conv=>whnf
   refine vAt h (fun x2 he8a he8b he8x h=>?_)
   conv=>whnf
   refine ⟨by kernel_rfl,?_⟩
   conv=>whnf
   refine ⟨he8a,he8b,Zh he8x ?_⟩
   conv=>whnf
   refine vAt h (fun x3 he9a he9b he9x h=>?_)
   conv=>whnf
   refine vAt h (fun x4 he10a he10b he10x h=>?_)
   conv=>whnf
   refine ⟨by kernel_rfl,?_⟩
   conv=>whnf
   refine ⟨he10a,he10b,Zh he10x ?_⟩
   conv=>whnf
   refine vAt h (fun x5 he11a he11b he11x h=>?_)
   conv=>whnf
   refine ⟨by kernel_rfl,?_⟩
   conv=>whnf
   refine ⟨by decide,?_⟩
   conv=>whnf
   refine ⟨he11a,he11b,Zh he11x ?_⟩
   conv=>whnf
   refine ⟨trivial,?_⟩
   conv=>whnf
   cases h
   exact ⟨⟨rfl,rfl⟩,hI6 _ rfl⟩
   conv=>whnf
   cases h
   obtain rfl:=hR6 _ rfl
   exact hK
theorem w90 (q0:Sq 278 c79) (q1:Sq 109 c67) (q2:Sq 279 c89):Sq 252 c90:=by
 refine Zm ZL (Zg q0 (Zg q1 (Zg q2 Zu))) mixed {loops:=[(0,[.reg 3 (.dat Iq),.reg 9 (.dat Iq)])],draws:=[(10,[0,1,3,7,15,31,7,71,199,511,1023,2047,4095,8191,16383,32767,65535],.op 0 (.op 1 (.op 2 (.op 3 (.op 4 (.op 5 (.op 6 (.alt 7 (.op 8 (.op 9 (.op 10 (.op 11 (.op 12 (.op 13 (.alt 14 (.op 15 (.op 16 (.done))) (.done)))))))) (.done))))))))),(12,[0,1,3,7,15,31,63,127,255,511,1023,2047,4095,8191,16383,32767,16383,131071,262143,524287,1048575],.op 0 (.op 1 (.op 2 (.op 3 (.op 4 (.op 5 (.op 6 (.op 7 (.op 8 (.op 9 (.alt 10 (.op 11 (.op 12 (.op 13 (.op 14 (.op 16 (.alt 15 (.alt 17 (.op 18 (.op 19 (.op 20 (.done)))) (.done)) (.done))))))) (.done))))))))))))]} (fn:=Tryz.f252) Tryz.func252 (by kernel_rfl) (by kernel_rfl) ?_
 rintro ⟨a0,⟨⟩⟩ K ⟨r,h,hK⟩
 change ZrZ a0=some r at h
 unfold ZrZ at h
 conv=>whnf
 refine YH h ?_
 rintro I0 μ0 ⟨v0,v1,⟨⟩⟩ zs0 h hI0 hR0
 change Zp6 a0 v0 v1=some zs0 at h
 unfold Zp6 at h
 conv=>whnf
 refine ZG h (fun h=>?_) (fun h=>?_)
 conv=>whnf
 refine vAt h (fun x0 he1a he1b he1x h=>?_)
 conv=>whnf
 refine Qn h (fun h=>?_) (fun h=>?_)
 conv=>whnf
 cases h
 exact ⟨⟨rfl,rfl⟩,hI0 _ rfl⟩
 conv=>whnf
 cases h
 exact ⟨⟨rfl,rfl⟩,hI0 _ rfl⟩
 conv=>whnf
 refine ZG h (fun h=>?_) (fun h=>?_)
 conv=>whnf
 refine ⟨by kernel_rfl,?_⟩
 conv=>whnf
 refine ZG h (fun h=>?_) (fun h=>?_)
 conv=>whnf
 refine Ze h (fun output0 hb2 h=>?_)
 conv=>whnf
 refine Yk h (fun hp3 h=>?_)
 conv=>whnf
 refine ZG h (fun h=>?_) (fun h=>?_)
 conv=>whnf
 refine Ze h (fun areWithin0 hb4 h=>?_)
 conv=>whnf
 refine ⟨trivial,?_⟩
 conv=>whnf
 cases h
 obtain rfl:=hR0 _ rfl
 exact hK
 conv=>whnf
 refine ⟨trivial,?_⟩
 conv=>whnf
 cases h
 obtain rfl:=hR0 _ rfl
 exact hK
 conv=>whnf
 refine ⟨trivial,?_⟩
 conv=>whnf
 cases h
 obtain rfl:=hR0 _ rfl
 exact hK
 conv=>whnf
 refine ZG h (fun h=>?_) (fun h=>?_)
 conv=>whnf
 refine ⟨by kernel_rfl,?_⟩
 conv=>whnf
 refine ZG h (fun h=>?_) (fun h=>?_)
 conv=>whnf
 refine ZG h (fun h=>?_) (fun h=>?_)
 conv=>whnf
 refine Ze h (fun has0 hb5 h=>?_)
 conv=>whnf
 refine Yc ?_
 refine Qn h (fun h=>?_) (fun h=>?_)
 conv=>whnf
 refine ⟨trivial,?_⟩
 conv=>whnf
 cases h
 obtain rfl:=hR0 _ rfl
 exact hK
 conv=>whnf
 refine Ze h (fun has1 hb6 h=>?_)
 conv=>whnf
 refine Ze h (fun has2 hb7 h=>?_)
 conv=>whnf
 refine ⟨trivial,?_⟩
 conv=>whnf
 cases h
 obtain rfl:=hR0 _ rfl
 exact hK
 conv=>whnf
 refine ⟨trivial,?_⟩
 conv=>whnf
 cases h
 obtain rfl:=hR0 _ rfl
 exact hK
 conv=>whnf
 refine ⟨trivial,?_⟩
 conv=>whnf
 cases h
 obtain rfl:=hR0 _ rfl
 exact hK
 conv=>whnf
 refine ZG h (fun h=>?_) (fun h=>?_)
 conv=>whnf
 refine ZG h (fun h=>?_) (fun h=>?_)
 conv=>whnf
 refine ZG h (fun h=>?_) (fun h=>?_)
 conv=>whnf
 refine Ze h (fun has0 hb8 h=>?_)
 conv=>whnf
 refine Qn h (fun h=>?_) (fun h=>?_)
 conv=>whnf
 refine Ze h (fun has1 hb9 h=>?_)
 conv=>whnf
 refine Qn h (fun h=>?_) (fun h=>?_)
 conv=>whnf
 refine Ze h (fun has2 hb10 h=>?_)
 conv=>whnf
 cases h
 obtain rfl:=hR0 _ rfl
 exact hK
 conv=>whnf
 cases h
 obtain rfl:=hR0 _ rfl
 exact hK
 conv=>whnf
 cases h
 obtain rfl:=hR0 _ rfl
 exact hK
 conv=>whnf
 cases h
 obtain rfl:=hR0 _ rfl
 exact hK
 conv=>whnf
 cases h
 obtain rfl:=hR0 _ rfl
 exact hK
 conv=>whnf
 cases h
 obtain rfl:=hR0 _ rfl
 exact hK
theorem w93 (q0:Sq 188 c60):Sq 154 c93:=by
 refine Zm ZL (Zg q0 Zu) mixed {loops:=[(0,[.reg 3 (.own (.ol 9 (.flat (.str)))),.reg 12 (.dat Iq)]),(2,[.reg 4 (.own (.ol 9 (.flat (.str)))),.reg 25 (.dat Iq)])]} (fn:=Tryz.f154) Tryz.func154 (by kernel_rfl) (by kernel_rfl) ?_
 rintro ⟨d0,⟨⟩⟩ K ⟨r,h,hK⟩
 change Zrf d0=some r at h
 unfold Zrf at h
 conv=>whnf
 refine YH h ?_
 rintro I0 μ0 ⟨instances0,v0,⟨⟩⟩ zs0 h hI0 hR0
 change Zq3 d0 instances0 v0=some zs0 at h
 unfold Zq3 at h
 conv=>whnf
 refine ZG h (fun h=>?_) (fun h=>?_)
 conv=>whnf
 refine vAt h (fun x0 he1a he1b he1x h=>?_)
 conv=>whnf
 refine Yk h (fun hp2 h=>?_)
 conv=>whnf
 cases h
 exact ⟨⟨rfl,rfl⟩,hI0 _ rfl⟩
 conv=>whnf
 refine YH h ?_
 rintro I3 μ3 ⟨ports0,v1,⟨⟩⟩ zs3 h hI3 hR3
 change Zq2 d0 instances0 ports0 v1=some zs3 at h
 unfold Zq2 at h
 conv=>whnf
 refine ZG h (fun h=>?_) (fun h=>?_)
 conv=>whnf
 refine vAt h (fun x0 he4a he4b he4x h=>?_)
 conv=>whnf
 refine Yk h (fun hp5 h=>?_)
 conv=>whnf
 cases h
 exact ⟨⟨rfl,rfl⟩,hI3 _ rfl⟩
 conv=>whnf
 refine ZG h (fun h=>?_) (fun h=>?_)
 conv=>whnf
 refine ZG h (fun h=>?_) (fun h=>?_)
 conv=>whnf
 refine ZG h (fun h=>?_) (fun h=>?_)
 conv=>whnf
 refine Ze h (fun areNames0 hb6 h=>?_)
 conv=>whnf
 refine Qn h (fun h=>?_) (fun h=>?_)
 conv=>whnf
 refine Ze h (fun areNames1 hb7 h=>?_)
 conv=>whnf
 refine Qn h (fun h=>?_) (fun h=>?_)
 conv=>whnf
 refine Ze h (fun areNames2 hb8 h=>?_)
 conv=>whnf
 cases h
 obtain rfl:=hR3 _ rfl
 obtain rfl:=hR0 _ rfl
 exact hK
 conv=>whnf
 cases h
 obtain rfl:=hR3 _ rfl
 obtain rfl:=hR0 _ rfl
 exact hK
 conv=>whnf
 cases h
 obtain rfl:=hR3 _ rfl
 obtain rfl:=hR0 _ rfl
 exact hK
 conv=>whnf
 cases h
 obtain rfl:=hR3 _ rfl
 obtain rfl:=hR0 _ rfl
 exact hK
 conv=>whnf
 cases h
 obtain rfl:=hR3 _ rfl
 obtain rfl:=hR0 _ rfl
 exact hK
 conv=>whnf
 cases h
 obtain rfl:=hR3 _ rfl
 obtain rfl:=hR0 _ rfl
 exact hK
theorem w96 (q0:Sq 191 c95) (q1:Sq 159 c55):Sq 112 c96:=by
 refine Zm ZL (Zg q0 (Zg q1 Zu)) mixed {} (fn:=Tryz.f112) Tryz.func112 (by kernel_rfl) (by kernel_rfl) ?_
 rintro ⟨d0,net0,⟨⟩⟩ K ⟨r,h,hK⟩
 change ZpJ d0 net0=some r at h
 unfold ZpJ at h
 conv=>whnf
 refine Ze h (fun string0 hb0 h=>?_)
 conv=>whnf
 refine Ze h (fun within0 hb1 h=>?_)
 conv=>whnf
 cases h
 exact hK
theorem ZFI (q4:Sq 153 c92) (q2:Sq 154 c93) (q1:Sq 155 ZAT) (q3:Sq 112 c96) (q0:Sq 156 ZAW):Sq 82 ZAX:=by
 refine Zm ZL (Zg q4 (Zg q2 (Zg q1 (Zg q3 (Zg q0 Zu))))) mixed {loops:=[(0,[.reg 25 (.dat Iq),.ent 2 (nat_lit 3) (.flat ZyJ.ety)]),(2,[.reg 51 (.dat Iq),.ent 2 (nat_lit 3) (.flat ZyJ.ety)])]} (fn:=Tryz.f82) Tryz.func82 (by kernel_rfl) (by kernel_rfl) ?_
 rintro ⟨a0,a1,⟨⟩⟩ K ⟨r,h,hK⟩
 change ZtS a0 a1=some r at h
 unfold ZtS at h
 conv=>whnf
 refine Ze h (fun IsLibrary0 hb0 h=>?_)
 conv=>whnf
 refine Zj4 ?_
 refine Qn h (fun h=>?_) (fun h=>?_)
 conv=>whnf
 refine Ze h (fun hasNames0 hb1 h=>?_)
 conv=>whnf
 refine Yc ?_
 refine Qn h (fun h=>?_) (fun h=>?_)
 conv=>whnf
 refine Yk h (fun hp2 h=>?_)
 conv=>whnf
 refine Yk h (fun hp3 h=>?_)
 conv=>whnf
 refine Yk h (fun hp4 h=>?_)
 conv=>whnf
 refine Yk h (fun hp5 h=>?_)
 conv=>whnf
 refine YH h ?_
 rintro I6 μ6 ⟨v0,l0,⟨⟩⟩ zs6 h hI6 hR6
 change ZrI a0 a1 v0 l0=some zs6 at h
 unfold ZrI at h
 conv=>whnf
 refine ZG h (fun h=>?_) (fun h=>?_)
 conv=>whnf
 refine vAt h (fun x0 he7a he7b he7x h=>?_)
 conv=>whnf
 refine Ze h (fun isInstance0 hb8 h=>?_)
 conv=>whnf
 refine Yc ?_
 refine Qn h (fun h=>?_) (fun h=>?_)
 conv=>whnf
 refine vAt h (fun x1 he9a he9b he9x h=>?_)
 conv=>whnf
 refine vAt h (fun x2 he10a he10b he10x h=>?_)
 conv=>whnf
 refine ⟨by kernel_rfl,?_⟩
 conv=>whnf
 refine ⟨he10a,he10b,Zh he10x ?_⟩
 conv=>whnf
 refine ⟨he10a,he10b,Zh he10x ?_⟩
 conv=>whnf
 refine ⟨by kernel_rfl,?_⟩
 conv=>whnf
 refine ⟨by decide,?_⟩
 conv=>whnf
 refine ⟨he10a,he10b,Zh he10x ?_⟩
 conv=>whnf
 cases h
 exact ⟨⟨rfl,rfl⟩,hI6 _ rfl⟩
 conv=>whnf
 cases h
 obtain rfl:=hR6 _ rfl
 exact hK
 conv=>whnf
 refine YH h ?_
 rintro I11 μ11 ⟨v1,l1,⟨⟩⟩ zs11 h hI11 hR11
 change ZqQ a1 v1 l1=some zs11 at h
 unfold ZqQ at h
 conv=>whnf
 refine ZG h (fun h=>?_) (fun h=>?_)
 conv=>whnf
 refine vAt h (fun x0 he12a he12b he12x h=>?_)
 conv=>whnf
 refine Yc ?_
 refine ZG h (fun h=>?_) (fun h=>?_)
 conv=>whnf
 refine Ze h (fun isNet0 hb13 h=>?_)
 conv=>whnf
 refine Yc ?_
 refine Qn h (fun h=>?_) (fun h=>?_)
 conv=>whnf
 refine ZG h (fun h=>?_) (fun h=>?_)
 conv=>whnf
 refine vAt h (fun x1 he14a he14b he14x h=>?_)
 conv=>whnf
 refine ⟨by kernel_rfl,?_⟩
 conv=>whnf
 refine ⟨he14a,he14b,Zh he14x ?_⟩
 conv=>whnf
 refine ⟨he14a,he14b,Zh he14x ?_⟩
 conv=>whnf
 refine ⟨by kernel_rfl,?_⟩
 conv=>whnf
 refine ⟨by decide,?_⟩
 conv=>whnf
 refine ⟨he14a,he14b,Zh he14x ?_⟩
 conv=>whnf
 cases h
 exact ⟨⟨rfl,rfl⟩,hI11 _ rfl⟩
 conv=>whnf
 cases h
 exact ⟨⟨rfl,rfl⟩,hI11 _ rfl⟩
 conv=>whnf
 cases h
 obtain rfl:=hR11 _ rfl
 obtain rfl:=hR6 _ rfl
 exact hK
 conv=>whnf
 refine Zj4 ?_
 refine ZG h (fun h=>?_) (fun h=>?_)
 conv=>whnf
 refine Ze h (fun isNet0 hb15 h=>?_)
 conv=>whnf
 refine Yc ?_
 refine Qn h (fun h=>?_) (fun h=>?_)
 conv=>whnf
 refine ZG h (fun h=>?_) (fun h=>?_)
 conv=>whnf
 refine vAt h (fun x1 he16a he16b he16x h=>?_)
 conv=>whnf
 refine ⟨by kernel_rfl,?_⟩
 conv=>whnf
 refine ⟨he16a,he16b,Zh he16x ?_⟩
 conv=>whnf
 refine ⟨he16a,he16b,Zh he16x ?_⟩
 conv=>whnf
 refine ⟨by kernel_rfl,?_⟩
 conv=>whnf
 refine ⟨by decide,?_⟩
 conv=>whnf
 refine ⟨he16a,he16b,Zh he16x ?_⟩
 conv=>whnf
 cases h
 exact ⟨⟨rfl,rfl⟩,hI11 _ rfl⟩
 conv=>whnf
 cases h
 exact ⟨⟨rfl,rfl⟩,hI11 _ rfl⟩
 conv=>whnf
 cases h
 obtain rfl:=hR11 _ rfl
 obtain rfl:=hR6 _ rfl
 exact hK
 conv=>whnf
 cases h
 obtain rfl:=hR11 _ rfl
 obtain rfl:=hR6 _ rfl
 exact hK
 conv=>whnf
 refine Ze h (fun c1_0 hb17 h=>?_)
 conv=>whnf
 cases h
 obtain rfl:=hR11 _ rfl
 obtain rfl:=hR6 _ rfl
 exact hK
 conv=>whnf
 cases h
 exact hK
 conv=>whnf
 cases h
 exact hK
theorem ZF4:Sq 64 c127:=by
 refine Zm ZL Zu mixed {loops:=[(0,[.reg 3 (.own (.ol 2 (.flat Iq))),.reg 8 (.dat Iq)])]} (fn:=Tryz.f64) Tryz.func64 (by kernel_rfl) (by kernel_rfl) ?_
 rintro ⟨list0,⟨⟩⟩ K ⟨r,h,hK⟩
 change ZHm list0=some r at h
 unfold ZHm at h
 conv=>whnf
 refine YH h ?_
 rintro I0 μ0 ⟨out0,v0,⟨⟩⟩ zs0 h hI0 hR0
 change ZGX list0 out0 v0=some zs0 at h
 unfold ZGX at h
 conv=>whnf
 refine ZG h (fun h=>?_) (fun h=>?_)
 conv=>whnf
 refine vAt h (fun x0 he1a he1b he1x h=>?_)
 conv=>whnf
 refine Qn h (fun h=>?_) (fun h=>?_)
 conv=>whnf
 refine Yk h (fun hp2 h=>?_)
 conv=>whnf
 cases h
 exact ⟨⟨rfl,rfl⟩,hI0 _ rfl⟩
 conv=>whnf
 cases h
 exact ⟨⟨rfl,rfl⟩,hI0 _ rfl⟩
 conv=>whnf
 cases h
 obtain rfl:=hR0 _ rfl
 exact hK
theorem w68:Sq 133 c68:=by
 refine Zm ZL Zu mixed {loops:=[(0,[.reg 3 (.dat Iq)])],draws:=[(4,[0,0,2,7,15,0,0,96,224,511],.op 0 (.op 1 (.op 2 (.op 3 (.op 4 (.op 5 (.op 6 (.op 7 (.op 8 (.op 9 (.done)))))))))))]} (fn:=Tryz.f133) Tryz.func133 (by kernel_rfl) (by kernel_rfl) ?_
 rintro ⟨list0,⟨⟩⟩ K ⟨r,h,hK⟩
 change Zsi list0=some r at h
 unfold Zsi at h
 conv=>whnf
 refine YH h ?_
 rintro I0 μ0 ⟨i0,⟨⟩⟩ zs0 h hI0 hR0
 change Zqf list0 i0=some zs0 at h
 unfold Zqf at h
 conv=>whnf
 refine ZG h (fun h=>?_) (fun h=>?_)
 conv=>whnf
 refine ⟨by kernel_rfl,?_⟩
 conv=>whnf
 refine vAt h (fun x0 he1a he1b he1x h=>?_)
 conv=>whnf
 refine vAt h (fun x1 he2a he2b he2x h=>?_)
 conv=>whnf
 refine ⟨trivial,?_⟩
 conv=>whnf
 refine ZG h (fun h=>?_) (fun h=>?_)
 conv=>whnf
 cases h
 obtain rfl:=hR0 _ rfl
 exact hK
 conv=>whnf
 cases h
 exact ⟨⟨rfl,rfl⟩,hI0 _ rfl⟩
 conv=>whnf
 cases h
 obtain rfl:=hR0 _ rfl
 exact hK
theorem ZFW:Sq 202 Zy7:=by
 refine Zm ZL Zu mixed {} (fn:=Tryz.f202) Tryz.func202 (by kernel_rfl) (by kernel_rfl) ?_
 rintro ⟨list0,⟨⟩⟩ K ⟨r,h,hK⟩
 change ZGC list0=some r at h
 unfold ZGC at h
 conv=>whnf
 cases h
 exact hK
theorem w95:Sq 191 c95:=by
 refine Zm ZL Zu mixed {} (fn:=Tryz.f191) Tryz.func191 (by kernel_rfl) (by kernel_rfl) ?_
 rintro ⟨list0,⟨⟩⟩ K ⟨r,h,hK⟩
 change ZpQ list0=some r at h
 unfold ZpQ at h
 conv=>whnf
 cases h
 exact hK
theorem ZFX (q0:Sq 202 Zy7) (q2:Sq 109 c67) (q1:Sq 133 c68):Sq 130 c119:=by
 refine Zm ZL (Zg q0 (Zg q2 (Zg q1 Zu))) mixed {} (fn:=Tryz.f130) Tryz.func130 (by kernel_rfl) (by kernel_rfl) ?_
 rintro ⟨v0,list0,⟨⟩⟩ K ⟨r,h,hK⟩
 change ZGw v0 list0=some r at h
 unfold ZGw at h
 conv=>whnf
 refine Ze h (fun Link0 hb0 h=>?_)
 conv=>whnf
 refine Ze h (fun areWithin0 hb1 h=>?_)
 conv=>whnf
 refine Qn h (fun h=>?_) (fun h=>?_)
 conv=>whnf
 refine Ze h (fun isIncreasing0 hb2 h=>?_)
 conv=>whnf
 cases h
 exact hK
 conv=>whnf
 cases h
 exact hK
theorem ZF1 (q0:Sq 179 ZA5):Sq 132 ZA6:=by
 refine Zm ZL (Zg q0 Zu) mixed {} (fn:=Tryz.f132) Tryz.func132 (by kernel_rfl) (by kernel_rfl) ?_
 rintro ⟨v0,⟨⟩⟩ K ⟨r,h,hK⟩
 change ZGI v0=some r at h
 unfold ZGI at h
 conv=>whnf
 refine Ze h (fun place0 hb0 h=>?_)
 conv=>whnf
 cases h
 exact hK
theorem ZGd:Sq 26 c138:=by
 refine Zm ZL Zu mixed {loops:=[(0,[.reg 5 (.dat Iq)])],draws:=[(6,[0,0,3,7,0,0,48,112,255],.op 0 (.op 1 (.op 2 (.op 3 (.op 4 (.op 5 (.op 6 (.op 7 (.op 8 (.done))))))))))]} (fn:=Tryz.f26) Tryz.func26 (by kernel_rfl) (by kernel_rfl) ?_
 rintro ⟨a0,b0,⟨⟩⟩ K ⟨r,h,hK⟩
 change Zq7 a0 b0=some r at h
 unfold Zq7 at h
 conv=>whnf
 refine Yc ?_
 refine ZG h (fun h=>?_) (fun h=>?_)
 conv=>whnf
 refine YH h ?_
 rintro I0 μ0 ⟨i0,⟨⟩⟩ zs0 h hI0 hR0
 change ZsJ a0 b0 i0=some zs0 at h
 unfold ZsJ at h
 conv=>whnf
 refine ZG h (fun h=>?_) (fun h=>?_)
 conv=>whnf
 refine ⟨by kernel_rfl,?_⟩
 conv=>whnf
 refine vAt h (fun x0 he1a he1b he1x h=>?_)
 conv=>whnf
 refine vAt h (fun x1 he2a he2b he2x h=>?_)
 conv=>whnf
 refine ⟨trivial,?_⟩
 conv=>whnf
 refine Yc ?_
 refine ZG h (fun h=>?_) (fun h=>?_)
 conv=>whnf
 cases h
 exact ⟨⟨rfl,rfl⟩,hI0 _ rfl⟩
 conv=>whnf
 cases h
 obtain rfl:=hR0 _ rfl
 exact hK
 conv=>whnf
 cases h
 obtain rfl:=hR0 _ rfl
 exact hK
 conv=>whnf
 cases h
 exact hK
theorem ZFP:Sq 134 ZA0:=by
 refine Zm ZL Zu mixed {} (fn:=Tryz.f134) Tryz.func134 (by kernel_rfl) (by kernel_rfl) ?_
 rintro ⟨s0,⟨⟩⟩ K ⟨r,h,hK⟩
 change Zpk s0=some r at h
 unfold Zpk at h
 conv=>whnf
 refine ⟨fun hd=>?_,?_⟩
 have h:=ZoV (T:=(some ([]:List Int))) h (by simp [hd,Zj])
 conv=>whnf
 cases h
 exact hK
 conv=>whnf
 refine Yk h (fun hp0 h=>?_)
 conv=>whnf
 cases h
 exact hK
theorem w84 (q0:Sq 296 c83):Sq 276 c84:=by
 refine Zm ZL (Zg q0 Zu) mixed {} (fn:=Tryz.f276) Tryz.func276 (by kernel_rfl) (by kernel_rfl) ?_
 rintro ⟨s0,f0,⟨⟩⟩ K ⟨r,h,hK⟩
 change Zpf s0 f0=some r at h
 unfold Zpf at h
 conv=>whnf
 refine Ze h (fun c1_0 hb0 h=>?_)
 conv=>whnf
 cases h
 exact hK
theorem w37 (q0:Sq 95 c35) (q1:Sq 139 c14) (q2:Sq 144 c36):Sq 77 c37:=by
 refine Zm ZL (Zg q0 (Zg q1 (Zg q2 Zu))) mixed {loops:=[(0,[.reg 3 (.dat Iq)])],draws:=[(6,[0,1,0,7,15,0,32,0,224,480,1023,2047],.op 0 (.op 1 (.op 2 (.op 3 (.op 4 (.op 5 (.op 6 (.op 7 (.alt 8 (.op 9 (.alt 10 (.op 11 (.done)) (.done))) (.done))))))))))]} (fn:=Tryz.f77) Tryz.func77 (by kernel_rfl) (by kernel_rfl) ?_
 rintro ⟨b0,⟨⟩⟩ K ⟨r,h,hK⟩
 change Zsb b0=some r at h
 unfold Zsb at h
 conv=>whnf
 refine Ze h (fun IsDesign0 hb0 h=>?_)
 conv=>whnf
 refine Zj4 ?_
 refine Qn h (fun h=>?_) (fun h=>?_)
 conv=>whnf
 refine Yc ?_
 refine ZG h (fun h=>?_) (fun h=>?_)
 conv=>whnf
 refine YH h ?_
 rintro I1 μ1 ⟨net0,⟨⟩⟩ zs1 h hI1 hR1
 change Ztg b0 net0=some zs1 at h
 unfold Ztg at h
 conv=>whnf
 refine ZG h (fun h=>?_) (fun h=>?_)
 conv=>whnf
 refine ⟨by kernel_rfl,?_⟩
 conv=>whnf
 refine vAt h (fun x0 he2a he2b he2x h=>?_)
 conv=>whnf
 refine Ze h (fun l05Sinks0 hb3 h=>?_)
 conv=>whnf
 refine Ze h (fun IsWire0 hb4 h=>?_)
 conv=>whnf
 refine ⟨trivial,?_⟩
 conv=>whnf
 refine Yc ?_
 refine Qn h (fun h=>?_) (fun h=>?_)
 conv=>whnf
 cases h
 exact ⟨⟨rfl,rfl⟩,hI1 _ rfl⟩
 conv=>whnf
 cases h
 obtain rfl:=hR1 _ rfl
 exact hK
 conv=>whnf
 cases h
 obtain rfl:=hR1 _ rfl
 exact hK
 conv=>whnf
 cases h
 exact hK
 conv=>whnf
 cases h
 exact hK
theorem w25 (q0:Sq 114 c23):Sq 327 c25:=by
 refine Zm ZL (Zg q0 Zu) mixed {loops:=[(0,[.reg 3 (.dat Iq)])],draws:=[(4,[0,0,3,7,15,31,63,127,255,511,1023,1023,3071,8191,16383,1023,1023,99327,230399,524287,1048575,2097151],.op 0 (.op 1 (.op 2 (.op 3 (.alt 4 (.op 5 (.op 6 (.op 7 (.op 8 (.op 9 (.op 10 (.op 11 (.op 12 (.op 13 (.op 14 (.op 15 (.op 16 (.op 17 (.op 18 (.op 19 (.op 20 (.op 21 (.done)))))))))))))))))) (.done))))))]} (fn:=Tryz.f327) Tryz.func327 (by kernel_rfl) (by kernel_rfl) ?_
 rintro ⟨list0,⟨⟩⟩ K ⟨r,h,hK⟩
 change ZtG list0=some r at h
 unfold ZtG at h
 conv=>whnf
 refine YH h ?_
 rintro I0 μ0 ⟨i0,⟨⟩⟩ zs0 h hI0 hR0
 change Zti list0 i0=some zs0 at h
 unfold Zti at h
 conv=>whnf
 refine ZG h (fun h=>?_) (fun h=>?_)
 conv=>whnf
 refine ⟨by kernel_rfl,?_⟩
 conv=>whnf
 refine vAt h (fun x0 he1a he1b he1x h=>?_)
 conv=>whnf
 refine Ze h (fun l01In0 hb2 h=>?_)
 conv=>whnf
 refine Zj4 ?_
 refine Qn h (fun h=>?_) (fun h=>?_)
 conv=>whnf
 refine ZG h (fun h=>?_) (fun h=>?_)
 conv=>whnf
 refine vAt h (fun x1 he3a he3b he3x h=>?_)
 conv=>whnf
 refine ⟨he1a,he1b,Zh he1x ?_⟩
 conv=>whnf
 refine ⟨trivial,?_⟩
 conv=>whnf
 refine ZG h (fun h=>?_) (fun h=>?_)
 conv=>whnf
 cases h
 obtain rfl:=hR0 _ rfl
 exact hK
 conv=>whnf
 cases h
 exact ⟨⟨rfl,rfl⟩,hI0 _ rfl⟩
 conv=>whnf
 refine ⟨trivial,?_⟩
 conv=>whnf
 cases h
 exact ⟨⟨rfl,rfl⟩,hI0 _ rfl⟩
 conv=>whnf
 refine ⟨trivial,?_⟩
 conv=>whnf
 cases h
 obtain rfl:=hR0 _ rfl
 exact hK
 conv=>whnf
 refine ZG h (fun h=>?_) (fun h=>?_)
 conv=>whnf
 cases h
 obtain rfl:=hR0 _ rfl
 exact hK
 conv=>whnf
 cases h
 obtain rfl:=hR0 _ rfl
 exact hK
theorem w4 (q0:Sq 44 c2):Sq 319 c4:=by
 refine Zm ZL (Zg q0 Zu) mixed {loops:=[(0,[.reg 5 (.own (.ol 2 (.flat Iq))),.reg 6 (.dat Iq),.reg 7 (.dat Iq),.cell 0 0 (.sl (.int .u8)),.cell 0 1 Iq,.cell 0 2 Iq])]} (fn:=Tryz.f319) Tryz.func319 (by kernel_rfl) (by kernel_rfl) ?_
 rintro ⟨s0,step0,⟨⟩⟩ K ⟨r,h,hK⟩
 change YU s0 step0=some r at h
 unfold YU at h
 conv=>whnf
 refine Ze h (fun l01Next0 hb0 h=>?_)
 conv=>whnf
 refine Ze h (fun l01Next1 hb1 h=>?_)
 conv=>whnf
 refine YH h ?_
 rintro I2 μ2 ⟨out0,at0,n0,c0,c1,c2,⟨⟩⟩ zs2 h hI2 hR2
 change Yv step0 out0 at0 n0 c0 c1 c2=some zs2 at h
 unfold Yv at h
 conv=>whnf
 refine ZG h (fun h=>?_) (fun h=>?_)
 conv=>whnf
 refine Yk h (fun hp3 h=>?_)
 conv=>whnf
 refine Ze h (fun l01Next2 hb4 h=>?_)
 conv=>whnf
 cases h
 exact ⟨⟨rfl,rfl⟩,hI2 _ rfl⟩
 conv=>whnf
 cases h
 obtain rfl:=hR2 _ rfl
 exact hK
theorem w12 (q1:Sq 44 c2) (q0:Sq 163 c11):Sq 198 c12:=by
 refine Zm VX (Zg q1 (Zg q0 Zu)) mixed {loops:=[(0,[.reg 9 (.own (.ol 193 (Zbr))),.reg 10 (.own (.ol 9 (.flat (.str)))),.reg 11 (.dat Iq),.cell 1000 0 (.sl (.int .u8)),.cell 1000 1 Iq,.cell 1000 2 Iq]),(2,[.reg 14 (.dat Iq),.cell 1000 0 (.sl (.int .u8)),.cell 1000 1 Iq,.cell 1000 2 Iq,.cello 1013 2 (.ol 2 (.flat Iq))]),(4,[.reg 16 (.dat Iq),.cell 1000 0 (.sl (.int .u8)),.cell 1000 1 Iq,.cell 1000 2 Iq,.ent 9 (nat_lit 193) (Dp.pair (Dp.flat Ty.str) (Dp.pair (Dp.flat (Ty.int IntKind.i64)) (Dp.pair (Dp.ol (2:Go.TypeId) (Dp.flat (Ty.int IntKind.i64))) (Dp.flat Ty.unit))))])],draws:=[(27,[0,0,3,7,15,0,0,64,192,480,992,2047,4095],.op 0 (.op 1 (.op 2 (.op 3 (.op 5 (.op 6 (.op 7 (.op 8 (.alt 4 (.alt 9 (.op 10 (.op 11 (.alt 12 (.done) (.done)))) (.done)) (.alt 9 (.op 10 (.alt 4 (.op 11 (.alt 12 (.done) (.done))) (.done))) (.done)))))))))))]} (fn:=Tryz.f198) Tryz.func198 (by kernel_rfl) (by kernel_rfl) ?_
 rintro ⟨a0,a1,a2,⟨⟩⟩ K ⟨r,h,hK⟩
 change Vh a0 a1 a2=some r at h
 unfold Vh at h
 conv=>whnf
 intro fp0
 conv=>whnf
 refine ⟨by decide,?_⟩
 conv=>whnf
 refine Ze h (fun l01Next0 hb1 h=>?_)
 conv=>whnf
 refine YH h ?_
 rintro I2 μ2 ⟨v0,v1,v2,c0,c1,c2,⟨⟩⟩ zs2 h hI2 hR2
 change Xx a2 v0 v1 v2 c0 c1 c2=some zs2 at h
 unfold Xx at h
 conv=>whnf
 intro fp3
 conv=>whnf
 refine ZG h (fun h=>?_) (fun h=>?_)
 conv=>whnf
 refine Ze h (fun l01Next1 hb4 h=>?_)
 conv=>whnf
 refine vAt h (fun x0 he5a he5b he5x h=>?_)
 conv=>whnf
 refine ⟨by kernel_rfl,?_⟩
 conv=>whnf
 refine ⟨he5a,he5b,Zh he5x ?_⟩
 conv=>whnf
 refine Ze h (fun l01Number0 hb6 h=>?_)
 conv=>whnf
 refine Yk h (fun hp7 h=>?_)
 conv=>whnf
 refine YH h ?_
 rintro I8 μ8 ⟨v3,c3,c4,c5,c6,⟨⟩⟩ zs8 h hI8 hR8
 change Xv v0 v1 v2 x0 l01Number0 v3 c3 c4 c5 c6=some zs8 at h
 unfold Xv at h
 conv=>whnf
 refine vAt h (fun x1 he9a he9b he9x h=>?_)
 conv=>whnf
 refine ⟨by kernel_rfl,?_⟩
 conv=>whnf
 refine ⟨he9a,he9b,Zh he9x ?_⟩
 conv=>whnf
 refine ZG h (fun h=>?_) (fun h=>?_)
 conv=>whnf
 refine Ze h (fun l01Next2 hb10 h=>?_)
 conv=>whnf
 refine Ze h (fun l01Next3 hb11 h=>?_)
 conv=>whnf
 refine ZG h (fun h=>?_) (fun h=>?_)
 conv=>whnf
 refine ZG h (fun h=>?_) (fun h=>?_)
 conv=>whnf
 refine ZG h (fun h=>?_) (fun h=>?_)
 conv=>whnf
 refine Yk h (fun hp12 h=>?_)
 conv=>whnf
 refine Yk h (fun hp13 h=>?_)
 conv=>whnf
 cases h
 exact ⟨⟨rfl,rfl⟩,hI8 _ rfl⟩
 conv=>whnf
 refine Yk h (fun hp14 h=>?_)
 conv=>whnf
 refine Yk h (fun hp15 h=>?_)
 conv=>whnf
 cases h
 exact ⟨⟨rfl,rfl⟩,hI8 _ rfl⟩
 conv=>whnf
 refine Yk h (fun hp16 h=>?_)
 conv=>whnf
 refine Yk h (fun hp17 h=>?_)
 conv=>whnf
 cases h
 exact ⟨⟨rfl,rfl⟩,hI8 _ rfl⟩
 conv=>whnf
 refine ZG h (fun h=>?_) (fun h=>?_)
 conv=>whnf
 refine ZG h (fun h=>?_) (fun h=>?_)
 conv=>whnf
 refine Yk h (fun hp18 h=>?_)
 conv=>whnf
 refine Yk h (fun hp19 h=>?_)
 conv=>whnf
 cases h
 exact ⟨⟨rfl,rfl⟩,hI8 _ rfl⟩
 conv=>whnf
 refine Yk h (fun hp20 h=>?_)
 conv=>whnf
 refine Yk h (fun hp21 h=>?_)
 conv=>whnf
 cases h
 exact ⟨⟨rfl,rfl⟩,hI8 _ rfl⟩
 conv=>whnf
 refine Yk h (fun hp22 h=>?_)
 conv=>whnf
 refine Yk h (fun hp23 h=>?_)
 conv=>whnf
 cases h
 exact ⟨⟨rfl,rfl⟩,hI8 _ rfl⟩
 conv=>whnf
 refine Yk h (fun hp24 h=>?_)
 conv=>whnf
 refine Yk h (fun hp25 h=>?_)
 conv=>whnf
 refine Ze h (fun l01Number1 hb26 h=>?_)
 conv=>whnf
 refine Yk h (fun hp27 h=>?_)
 conv=>whnf
 refine Yk h (fun hp28 h=>?_)
 conv=>whnf
 intro fp29
 conv=>whnf
 refine Yk h (fun hp30 h=>?_)
 conv=>whnf
 intro fp31
 conv=>whnf
 cases h
 obtain rfl:=hR8 _ rfl
 exact ⟨⟨rfl,rfl⟩,hI2 _ rfl⟩
 conv=>whnf
 refine YH h ?_
 rintro I32 μ32 ⟨v3,c3,c4,c5,l0,⟨⟩⟩ zs32 h hI32 hR32
 change Xw a2 v1 v3 c3 c4 c5 l0=some zs32 at h
 unfold Xw at h
 conv=>whnf
 intro fp33
 conv=>whnf
 refine ZG h (fun h=>?_) (fun h=>?_)
 conv=>whnf
 refine Ze h (fun l01Next1 hb34 h=>?_)
 conv=>whnf
 refine ZG h (fun h=>?_) (fun h=>?_)
 conv=>whnf
 refine vAt h (fun x0 he35a he35b he35x h=>?_)
 conv=>whnf
 refine ⟨he35a,he35b,Zh he35x ?_⟩
 conv=>whnf
 intro fp36
 conv=>whnf
 refine ZcV h (fun h=>?_) (fun h=>?_)
 focus
  conv=>whnf
  refine ⟨by kernel_rfl,?_⟩
  conv=>whnf
  refine ⟨he35a,he35b,Zh he35x ?_⟩
  conv=>whnf
  obtain ⟨l01Next2,hb37,h⟩:=Option.bind_eq_some_iff.1 h
  obtain ⟨x1,he38a,he38b,he38x,h⟩:=atE h
  refine ⟨?_,?_⟩
  rotate_left
  focus
   conv=>whnf
   refine ⟨_,hb37,?_⟩
   conv=>whnf
   refine .inl ⟨rfl,?_⟩
   conv=>whnf
   refine ⟨he38a,he38b,Zh he38x ?_⟩
   conv=>whnf
   refine ⟨by kernel_rfl,?_⟩
   conv=>whnf
   refine ⟨by decide,?_⟩
   conv=>whnf
   refine ⟨he38a,he38b,Zh he38x ?_⟩
   conv=>whnf
   refine ⟨trivial,?_⟩
  rotate_right
  focus
   conv=>whnf
   refine .inl ⟨rfl,?_⟩
   conv=>whnf
   refine ⟨_,hb37,?_⟩
   conv=>whnf
   refine ⟨he38a,he38b,Zh he38x ?_⟩
   conv=>whnf
   refine ⟨by kernel_rfl,?_⟩
   conv=>whnf
   refine ⟨by decide,?_⟩
   conv=>whnf
   refine ⟨he38a,he38b,Zh he38x ?_⟩
   conv=>whnf
   refine ⟨trivial,?_⟩
  all_goals
   conv=>whnf
   cases h
   exact ⟨⟨rfl,rfl⟩,hI32 _ rfl⟩
 conv=>whnf
 refine ⟨he35a,he35b,Zh he35x ?_⟩
 conv=>whnf
 refine .inl ⟨rfl,?_⟩
 conv=>whnf
 refine ZcV h (fun h=>?_) (fun h=>?_)
 focus
  conv=>whnf
  refine ⟨by kernel_rfl,?_⟩
  conv=>whnf
  refine ⟨he35a,he35b,Zh he35x ?_⟩
  conv=>whnf
  obtain ⟨l01Next2,hb39,h⟩:=Option.bind_eq_some_iff.1 h
  obtain ⟨x1,he40a,he40b,he40x,h⟩:=atE h
  refine ⟨?_,?_⟩
  rotate_left
  focus
   conv=>whnf
   refine ⟨_,hb39,?_⟩
   conv=>whnf
   refine .inl ⟨rfl,?_⟩
   conv=>whnf
   refine ⟨he40a,he40b,Zh he40x ?_⟩
   conv=>whnf
   refine ⟨by kernel_rfl,?_⟩
   conv=>whnf
   refine ⟨by decide,?_⟩
   conv=>whnf
   refine ⟨he40a,he40b,Zh he40x ?_⟩
   conv=>whnf
   refine ⟨trivial,?_⟩
  rotate_right
  focus
   conv=>whnf
   refine .inl ⟨rfl,?_⟩
   conv=>whnf
   refine ⟨_,hb39,?_⟩
   conv=>whnf
   refine ⟨he40a,he40b,Zh he40x ?_⟩
   conv=>whnf
   refine ⟨by kernel_rfl,?_⟩
   conv=>whnf
   refine ⟨by decide,?_⟩
   conv=>whnf
   refine ⟨he40a,he40b,Zh he40x ?_⟩
   conv=>whnf
   refine ⟨trivial,?_⟩
  all_goals
   conv=>whnf
   cases h
   exact ⟨⟨rfl,rfl⟩,hI32 _ rfl⟩
 conv=>whnf
 refine Qn h (fun h=>?_) (fun h=>?_)
 focus
  conv=>whnf
  refine ⟨by kernel_rfl,?_⟩
  conv=>whnf
  refine ⟨he35a,he35b,Zh he35x ?_⟩
  conv=>whnf
  obtain ⟨l01Next2,hb41,h⟩:=Option.bind_eq_some_iff.1 h
  obtain ⟨x1,he42a,he42b,he42x,h⟩:=atE h
  refine ⟨?_,?_⟩
  rotate_left
  focus
   conv=>whnf
   refine ⟨_,hb41,?_⟩
   conv=>whnf
   refine .inl ⟨rfl,?_⟩
   conv=>whnf
   refine ⟨he42a,he42b,Zh he42x ?_⟩
   conv=>whnf
   refine ⟨by kernel_rfl,?_⟩
   conv=>whnf
   refine ⟨by decide,?_⟩
   conv=>whnf
   refine ⟨he42a,he42b,Zh he42x ?_⟩
   conv=>whnf
   refine ⟨trivial,?_⟩
  rotate_right
  focus
   conv=>whnf
   refine .inl ⟨rfl,?_⟩
   conv=>whnf
   refine ⟨_,hb41,?_⟩
   conv=>whnf
   refine ⟨he42a,he42b,Zh he42x ?_⟩
   conv=>whnf
   refine ⟨by kernel_rfl,?_⟩
   conv=>whnf
   refine ⟨by decide,?_⟩
   conv=>whnf
   refine ⟨he42a,he42b,Zh he42x ?_⟩
   conv=>whnf
   refine ⟨trivial,?_⟩
  all_goals
   conv=>whnf
   cases h
   exact ⟨⟨rfl,rfl⟩,hI32 _ rfl⟩
 conv=>whnf
 cases h
 exact ⟨⟨rfl,rfl⟩,hI32 _ rfl⟩
 conv=>whnf
 cases h
 exact ⟨⟨rfl,rfl⟩,hI32 _ rfl⟩
 conv=>whnf
 refine ⟨by decide,?_⟩
 conv=>whnf
 refine Yk h (fun hp43 h=>?_)
 conv=>whnf
 refine Ze h (fun l01Next1 hb44 h=>?_)
 conv=>whnf
 refine ZG h (fun h=>?_) (fun h=>?_)
 conv=>whnf
 refine Ze h (fun l01Next2 hb45 h=>?_)
 conv=>whnf
 refine Yk h (fun hp46 h=>?_)
 conv=>whnf
 cases h
 obtain rfl:=hR32 _ rfl
 obtain rfl:=hR2 _ rfl
 exact hK
 conv=>whnf
 cases h
 obtain rfl:=hR32 _ rfl
 obtain rfl:=hR2 _ rfl
 exact hK
theorem w38 (q0:Sq 96 c13):Sq 137 c38:=by
 refine Zm ZL (Zg q0 Zu) mixed {loops:=[(0,[.reg 8 (.dat Iq)])]} (fn:=Tryz.f137) Tryz.func137 (by kernel_rfl) (by kernel_rfl) ?_
 rintro ⟨d0,instance0,pin0,⟨⟩⟩ K ⟨r,h,hK⟩
 change Zs1 d0 instance0 pin0=some r at h
 unfold Zs1 at h
 conv=>whnf
 refine Ze h (fun l05Places0 hb0 h=>?_)
 conv=>whnf
 refine YH h ?_
 rintro I1 μ1 ⟨i0,⟨⟩⟩ zs1 h hI1 hR1
 change Ztj instance0 pin0 l05Places0 i0=some zs1 at h
 unfold Ztj at h
 conv=>whnf
 refine ZG h (fun h=>?_) (fun h=>?_)
 conv=>whnf
 refine vAt h (fun x0 he2a he2b he2x h=>?_)
 conv=>whnf
 refine ⟨by kernel_rfl,?_⟩
 conv=>whnf
 refine ⟨he2a,he2b,Zh he2x ?_⟩
 conv=>whnf
 refine ZG h (fun h=>?_) (fun h=>?_)
 conv=>whnf
 refine ⟨he2a,he2b,Zh he2x ?_⟩
 conv=>whnf
 refine ⟨by kernel_rfl,?_⟩
 conv=>whnf
 refine ⟨he2a,he2b,Zh he2x ?_⟩
 conv=>whnf
 refine ZG h (fun h=>?_) (fun h=>?_)
 conv=>whnf
 cases h
 obtain rfl:=hR1 _ rfl
 exact hK
 conv=>whnf
 cases h
 exact ⟨⟨rfl,rfl⟩,hI1 _ rfl⟩
 conv=>whnf
 cases h
 exact ⟨⟨rfl,rfl⟩,hI1 _ rfl⟩
 conv=>whnf
 cases h
 obtain rfl:=hR1 _ rfl
 exact hK
theorem w14 (q0:Sq 96 c13):Sq 139 c14:=by
 refine Zm ZL (Zg q0 Zu) mixed {loops:=[(0,[.reg 5 (.own (.ol 2 (.flat Iq))),.reg 7 (.dat Iq)])]} (fn:=Tryz.f139) Tryz.func139 (by kernel_rfl) (by kernel_rfl) ?_
 rintro ⟨d0,net0,⟨⟩⟩ K ⟨r,h,hK⟩
 change QT d0 net0=some r at h
 unfold QT at h
 conv=>whnf
 refine Ze h (fun l05Places0 hb0 h=>?_)
 conv=>whnf
 refine YH h ?_
 rintro I1 μ1 ⟨out0,i0,⟨⟩⟩ zs1 h hI1 hR1
 change Xc net0 l05Places0 out0 i0=some zs1 at h
 unfold Xc at h
 conv=>whnf
 refine ZG h (fun h=>?_) (fun h=>?_)
 conv=>whnf
 refine vAt h (fun x0 he2a he2b he2x h=>?_)
 conv=>whnf
 refine ⟨by kernel_rfl,?_⟩
 conv=>whnf
 refine ⟨he2a,he2b,Zh he2x ?_⟩
 conv=>whnf
 refine ZG h (fun h=>?_) (fun h=>?_)
 conv=>whnf
 refine ⟨he2a,he2b,Zh he2x ?_⟩
 conv=>whnf
 refine ⟨by kernel_rfl,?_⟩
 conv=>whnf
 refine ⟨he2a,he2b,Zh he2x ?_⟩
 conv=>whnf
 refine Yc ?_
 refine Qn h (fun h=>?_) (fun h=>?_)
 conv=>whnf
 cases h
 exact ⟨⟨rfl,rfl⟩,hI1 _ rfl⟩
 conv=>whnf
 refine Yk h (fun hp3 h=>?_)
 conv=>whnf
 cases h
 exact ⟨⟨rfl,rfl⟩,hI1 _ rfl⟩
 conv=>whnf
 cases h
 exact ⟨⟨rfl,rfl⟩,hI1 _ rfl⟩
 conv=>whnf
 cases h
 obtain rfl:=hR1 _ rfl
 exact hK
theorem w42 (q2:Sq 137 c38) (q4:Sq 136 c40) (q0:Sq 138 c41) (q1:Sq 139 c14) (q3:Sq 140 c39):Sq 69 c42:=by
 refine Zm ZL (Zg q2 (Zg q4 (Zg q0 (Zg q1 (Zg q3 Zu))))) mixed {loops:=[(0,[.reg 3 (.own (.ol 211 (.flat (Zl8)))),.reg 5 (.dat Iq)]),(2,[.reg 3 (.own (.ol 211 (.flat (Zl8)))),.reg 7 (.dat Iq)]),(4,[.reg 3 (.own (.ol 211 (.flat (Zl8)))),.reg 8 (.dat Iq)]),(6,[.reg 3 (.own (.ol 211 (.flat (Zl8)))),.reg 11 (.dat Iq)])],draws:=[(6,[0,1,3,0,8,0,56,120,248,511,1023,2047,4095],.op 0 (.op 1 (.op 2 (.op 3 (.op 4 (.op 5 (.op 6 (.op 7 (.op 8 (.op 9 (.op 10 (.op 11 (.op 12 (.done)))))))))))))),(11,[0,0,0,6,14,0,0,0,0,384,896,1920,4064,0,0,0,0,98304,229376,491520,1048544,0,4194303,8388607],.op 0 (.op 1 (.op 2 (.op 3 (.op 4 (.op 5 (.op 6 (.op 7 (.op 8 (.op 9 (.op 10 (.op 11 (.op 13 (.op 14 (.op 15 (.op 16 (.op 17 (.op 18 (.op 19 (.op 21 (.alt 12 (.alt 20 (.alt 22 (.op 23 (.done)) (.done)) (.done)) (.done))))))))))))))))))))))]} (fn:=Tryz.f69) Tryz.func69 (by kernel_rfl) (by kernel_rfl) ?_
 rintro ⟨a0,⟨⟩⟩ K ⟨r,h,hK⟩
 change ZG1 a0=some r at h
 unfold ZG1 at h
 conv=>whnf
 refine YH h ?_
 rintro I0 μ0 ⟨v0,v1,⟨⟩⟩ zs0 h hI0 hR0
 change ZHa a0 v0 v1=some zs0 at h
 unfold ZHa at h
 conv=>whnf
 refine ZG h (fun h=>?_) (fun h=>?_)
 conv=>whnf
 refine ⟨by kernel_rfl,?_⟩
 conv=>whnf
 refine vAt h (fun x0 he1a he1b he1x h=>?_)
 conv=>whnf
 refine vAt h (fun x1 he2a he2b he2x h=>?_)
 conv=>whnf
 refine ⟨trivial,?_⟩
 conv=>whnf
 refine YH h ?_
 rintro I3 μ3 ⟨v2,v3,⟨⟩⟩ zs3 h hI3 hR3
 change ZGQ a0 v1 x1 v2 v3=some zs3 at h
 unfold ZGQ at h
 conv=>whnf
 refine ZG h (fun h=>?_) (fun h=>?_)
 conv=>whnf
 refine vAt h (fun x2 he4a he4b he4x h=>?_)
 conv=>whnf
 refine ZG h (fun h=>?_) (fun h=>?_)
 conv=>whnf
 refine ⟨by kernel_rfl,?_⟩
 conv=>whnf
 refine ⟨he4a,he4b,Zh he4x ?_⟩
 conv=>whnf
 refine ⟨he4a,he4b,Zh he4x ?_⟩
 conv=>whnf
 refine ⟨he4a,he4b,Zh he4x ?_⟩
 conv=>whnf
 refine Ze h (fun l05Find0 hb5 h=>?_)
 conv=>whnf
 refine Ze h (fun l05Find1 hb6 h=>?_)
 conv=>whnf
 refine Ze h (fun l09Arc0 hb7 h=>?_)
 conv=>whnf
 refine ⟨trivial,?_⟩
 conv=>whnf
 cases h
 exact ⟨⟨rfl,rfl⟩,hI3 _ rfl⟩
 conv=>whnf
 cases h
 exact ⟨⟨rfl,rfl⟩,hI3 _ rfl⟩
 conv=>whnf
 cases h
 obtain rfl:=hR3 _ rfl
 exact ⟨⟨rfl,rfl⟩,hI0 _ rfl⟩
 conv=>whnf
 refine YH h ?_
 rintro I8 μ8 ⟨v2,v3,⟨⟩⟩ zs8 h hI8 hR8
 change ZG9 a0 v2 v3=some zs8 at h
 unfold ZG9 at h
 conv=>whnf
 refine ZG h (fun h=>?_) (fun h=>?_)
 conv=>whnf
 refine Ze h (fun l05Driver0 hb9 h=>?_)
 conv=>whnf
 refine Ze h (fun l05Sinks0 hb10 h=>?_)
 conv=>whnf
 refine YH h ?_
 rintro I11 μ11 ⟨v4,v5,⟨⟩⟩ zs11 h hI11 hR11
 change ZG8 v3 l05Driver0 l05Sinks0 v4 v5=some zs11 at h
 unfold ZG8 at h
 conv=>whnf
 refine ZG h (fun h=>?_) (fun h=>?_)
 conv=>whnf
 refine vAt h (fun x0 he12a he12b he12x h=>?_)
 conv=>whnf
 refine ⟨by kernel_rfl,?_⟩
 conv=>whnf
 refine ⟨he12a,he12b,Zh he12x ?_⟩
 conv=>whnf
 refine Ze h (fun l09Pair0 hb13 h=>?_)
 conv=>whnf
 refine ⟨he12a,he12b,Zh he12x ?_⟩
 conv=>whnf
 refine ⟨by kernel_rfl,?_⟩
 conv=>whnf
 refine ⟨he12a,he12b,Zh he12x ?_⟩
 conv=>whnf
 refine Ze h (fun l09Pair1 hb14 h=>?_)
 conv=>whnf
 cases h
 exact ⟨⟨rfl,rfl⟩,hI11 _ rfl⟩
 conv=>whnf
 cases h
 obtain rfl:=hR11 _ rfl
 exact ⟨⟨rfl,rfl⟩,hI8 _ rfl⟩
 conv=>whnf
 cases h
 obtain rfl:=hR8 _ rfl
 obtain rfl:=hR0 _ rfl
 exact hK
end Go.Proofs.YtnnbgbgapogckaaGreatDoor
