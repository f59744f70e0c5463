/-
  The functions keep their contracts, if what they call does. Printed by program.
-/
import Derived.Test.YtnnbgbgapogckaaGreatDoorM
import Derived.KernelRfl
namespace Go.Proofs.YtnnbgbgapogckaaGreatDoor
open Go Go.Sx
set_option maxRecDepth 100000
set_option maxHeartbeats 6400000
set_option linter.unusedVariables false
set_option linter.unusedSimpArgs false
theorem w85 (q1:Sq 275 c81) (q0:Sq 276 c84):Sq 251 c85:=by
 refine Zm ZL (Zg q1 (Zg q0 Zu)) mixed {loops:=[(0,[.reg 8 (.dat Iq)])]} (fn:=Tryz.f251) Tryz.func251 (by kernel_rfl) (by kernel_rfl) ?_
 rintro ⟨c0,⟨⟩⟩ K ⟨r,h,hK⟩
 change Zsg c0=some r at h
 unfold Zsg at h
 conv=>whnf
 refine YH h ?_
 rintro I0 μ0 ⟨v0,⟨⟩⟩ zs0 h hI0 hR0
 change ZrF c0 v0=some zs0 at h
 unfold ZrF at h
 conv=>whnf
 refine ZG h (fun h=>?_) (fun h=>?_)
 conv=>whnf
 refine vAt h (fun x0 he1a he1b he1x h=>?_)
 conv=>whnf
 refine Ze h (fun isArc0 hb2 h=>?_)
 conv=>whnf
 refine Zj4 ?_
 refine Qn h (fun h=>?_) (fun h=>?_)
 conv=>whnf
 refine ⟨by decide,?_⟩
 conv=>whnf
 refine Yk h (fun hp3 h=>?_)
 conv=>whnf
 refine Yk h (fun hp4 h=>?_)
 conv=>whnf
 refine Ze h (fun c1_0 hb5 h=>?_)
 conv=>whnf
 refine Qn h (fun h=>?_) (fun h=>?_)
 conv=>whnf
 cases h
 obtain rfl:=hR0 _ rfl
 exact hK
 conv=>whnf
 cases h
 exact ⟨⟨rfl,rfl⟩,hI0 _ rfl⟩
 conv=>whnf
 cases h
 obtain rfl:=hR0 _ rfl
 exact hK
 conv=>whnf
 cases h
 obtain rfl:=hR0 _ rfl
 exact hK
theorem w78 (q0:Sq 309 c77):Sq 294 c78:=by
 refine Zm ZL (Zg q0 Zu) mixed {} (fn:=Tryz.f294) Tryz.func294 (by kernel_rfl) (by kernel_rfl) ?_
 rintro ⟨c0,⟨⟩⟩ K ⟨r,h,hK⟩
 change Zs7 c0=some r at h
 unfold Zs7 at h
 conv=>whnf
 refine Ze h (fun c1_0 hb0 h=>?_)
 conv=>whnf
 cases h
 exact hK
theorem w86:Sq 297 c86:=by
 refine Zm ZL Zu mixed {} (fn:=Tryz.f297) Tryz.func297 (by kernel_rfl) (by kernel_rfl) ?_
 rintro ⟨a0,a1,⟨⟩⟩ K ⟨r,h,hK⟩
 change ZsC a0 a1=some r at h
 unfold ZsC at h
 conv=>whnf
 cases h
 exact hK
theorem w79 (q0:Sq 274 c57):Sq 278 c79:=by
 refine Zm ZL (Zg q0 Zu) mixed {} (fn:=Tryz.f278) Tryz.func278 (by kernel_rfl) (by kernel_rfl) ?_
 rintro ⟨c0,⟨⟩⟩ K ⟨r,h,hK⟩
 change ZrN c0=some r at h
 unfold ZrN at h
 conv=>whnf
 refine Ze h (fun Pin0 hb0 h=>?_)
 conv=>whnf
 cases h
 exact hK
theorem ZFQ (q0:Sq 83 c105):Sq 192 ZA1:=by
 refine Zm ZL (Zg q0 Zu) mixed {loops:=[(0,[.reg 5 (.own (.ol 2 (.flat Iq))),.reg 11 (.dat Iq)])]} (fn:=Tryz.f192) Tryz.func192 (by kernel_rfl) (by kernel_rfl) ?_
 rintro ⟨d0,net0,⟨⟩⟩ K ⟨r,h,hK⟩
 change Zsh d0 net0=some r at h
 unfold Zsh at h
 conv=>whnf
 refine Ze h (fun places0 hb0 h=>?_)
 conv=>whnf
 refine YH h ?_
 rintro I1 μ1 ⟨list0,v0,⟨⟩⟩ zs1 h hI1 hR1
 change ZrG net0 places0 list0 v0=some zs1 at h
 unfold ZrG at h
 conv=>whnf
 refine ZG h (fun h=>?_) (fun h=>?_)
 conv=>whnf
 refine vAt h (fun x0 he2a he2b he2x h=>?_)
 conv=>whnf
 refine ⟨by kernel_rfl,?_⟩
 conv=>whnf
 refine ⟨he2a,he2b,Zh he2x ?_⟩
 conv=>whnf
 refine ZG h (fun h=>?_) (fun h=>?_)
 conv=>whnf
 refine Yc ?_
 refine Qn h (fun h=>?_) (fun h=>?_)
 conv=>whnf
 cases h
 exact ⟨⟨rfl,rfl⟩,hI1 _ rfl⟩
 conv=>whnf
 refine Yk h (fun hp3 h=>?_)
 conv=>whnf
 cases h
 exact ⟨⟨rfl,rfl⟩,hI1 _ rfl⟩
 conv=>whnf
 cases h
 exact ⟨⟨rfl,rfl⟩,hI1 _ rfl⟩
 conv=>whnf
 cases h
 obtain rfl:=hR1 _ rfl
 exact hK
theorem w70 (q1:Sq 324 c69) (q0:Sq 109 c67):Sq 307 c70:=by
 refine Zm ZL (Zg q1 (Zg q0 Zu)) mixed {} (fn:=Tryz.f307) Tryz.func307 (by kernel_rfl) (by kernel_rfl) ?_
 rintro ⟨t0,⟨⟩⟩ K ⟨r,h,hK⟩
 change Zuo t0=some r at h
 unfold Zuo at h
 conv=>whnf
 refine Ze h (fun isAxis0 hb0 h=>?_)
 conv=>whnf
 refine Qn h (fun h=>?_) (fun h=>?_)
 conv=>whnf
 refine Ze h (fun isAxis1 hb1 h=>?_)
 conv=>whnf
 refine Qn h (fun h=>?_) (fun h=>?_)
 conv=>whnf
 refine ZG h (fun h=>?_) (fun h=>?_)
 conv=>whnf
 refine Ze h (fun areWithin0 hb2 h=>?_)
 conv=>whnf
 cases h
 exact hK
 conv=>whnf
 cases h
 exact hK
 conv=>whnf
 cases h
 exact hK
 conv=>whnf
 cases h
 exact hK
theorem w94:Sq 209 c94:=by
 refine Zm ZL Zu mixed {} (fn:=Tryz.f209) Tryz.func209 (by kernel_rfl) (by kernel_rfl) ?_
 rintro ⟨list0,⟨⟩⟩ K ⟨r,h,hK⟩
 change Zp7 list0=some r at h
 unfold Zp7 at h
 conv=>whnf
 cases h
 exact hK
theorem ZF9 (q0:Sq 132 ZA6) (q1:Sq 159 c55):Sq 142 ZBd:=by
 refine Zm ZL (Zg q0 (Zg q1 Zu)) mixed {} (fn:=Tryz.f142) Tryz.func142 (by kernel_rfl) (by kernel_rfl) ?_
 rintro ⟨v0,node0,⟨⟩⟩ K ⟨r,h,hK⟩
 change ZGW v0 node0=some r at h
 unfold ZGW at h
 conv=>whnf
 refine Ze h (fun nodes0 hb0 h=>?_)
 conv=>whnf
 refine Ze h (fun within0 hb1 h=>?_)
 conv=>whnf
 cases h
 exact hK
theorem w74 (q0:Sq 323 c73):Sq 305 c74:=by
 refine Zm ZL (Zg q0 Zu) mixed {} (fn:=Tryz.f305) Tryz.func305 (by kernel_rfl) (by kernel_rfl) ?_
 rintro ⟨s0,f0,⟨⟩⟩ K ⟨r,h,hK⟩
 change Zpe s0 f0=some r at h
 unfold Zpe at h
 conv=>whnf
 refine Ze h (fun c1_0 hb0 h=>?_)
 conv=>whnf
 cases h
 exact hK
theorem w73 (q0:Sq 306 c72):Sq 323 c73:=by
 refine Zm ZL (Zg q0 Zu) mixed {loops:=[(0,[.reg 8 (.dat Iq)])]} (fn:=Tryz.f323) Tryz.func323 (by kernel_rfl) (by kernel_rfl) ?_
 rintro ⟨s0,f0,⟨⟩⟩ K ⟨r,h,hK⟩
 change Zpl s0 f0=some r at h
 unfold Zpl at h
 conv=>whnf
 refine YH h ?_
 rintro I0 μ0 ⟨v0,⟨⟩⟩ zs0 h hI0 hR0
 change Zpu s0 f0 v0=some zs0 at h
 unfold Zpu at h
 conv=>whnf
 refine ZG h (fun h=>?_) (fun h=>?_)
 conv=>whnf
 refine vAt h (fun x0 he1a he1b he1x h=>?_)
 conv=>whnf
 refine Ze h (fun c1_0 hb2 h=>?_)
 conv=>whnf
 refine Qn h (fun h=>?_) (fun h=>?_)
 conv=>whnf
 cases h
 obtain rfl:=hR0 _ rfl
 exact hK
 conv=>whnf
 cases h
 exact ⟨⟨rfl,rfl⟩,hI0 _ rfl⟩
 conv=>whnf
 cases h
 obtain rfl:=hR0 _ rfl
 exact hK
theorem ZFG (q0:Sq 157 ZAU):Sq 218 ZAV:=by
 refine Zm ZL (Zg q0 Zu) mixed {loops:=[(0,[.reg 8 (.dat Iq)])]} (fn:=Tryz.f218) Tryz.func218 (by kernel_rfl) (by kernel_rfl) ?_
 rintro ⟨s0,f0,⟨⟩⟩ K ⟨r,h,hK⟩
 change ZpE s0 f0=some r at h
 unfold ZpE at h
 conv=>whnf
 refine YH h ?_
 rintro I0 μ0 ⟨v0,⟨⟩⟩ zs0 h hI0 hR0
 change ZpI s0 v0=some zs0 at h
 unfold ZpI at h
 conv=>whnf
 refine ZG h (fun h=>?_) (fun h=>?_)
 conv=>whnf
 refine vAt h (fun x0 he1a he1b he1x h=>?_)
 conv=>whnf
 refine Ze h (fun c1_0 hb2 h=>?_)
 conv=>whnf
 refine Qn h (fun h=>?_) (fun h=>?_)
 conv=>whnf
 cases h
 obtain rfl:=hR0 _ rfl
 exact hK
 conv=>whnf
 cases h
 exact ⟨⟨rfl,rfl⟩,hI0 _ rfl⟩
 conv=>whnf
 cases h
 obtain rfl:=hR0 _ rfl
 exact hK
theorem w6 (q0:Sq 301 c5):Sq 286 c6:=by
 refine Zm VX (Zg q0 Zu) mixed {draws:=[(2,[0,0,0,6,15,31],.op 1 (.op 2 (.alt 0 (.alt 3 (.alt 4 (.op 5 (.done)) (.done)) (.done)) (.alt 3 (.alt 0 (.alt 4 (.op 5 (.done)) (.done)) (.done)) (.done)))))]} (fn:=Tryz.f286) Tryz.func286 (by kernel_rfl) (by kernel_rfl) ?_
 rintro ⟨s0,base0,⟨⟩⟩ K ⟨r,h,hK⟩
 change Z7 s0 base0=some r at h
 unfold Z7 at h
 focus
  conv=>whnf
  refine Ze h (fun l02Draw0 hb0 h=>?_)
  conv=>whnf
  refine ⟨by kernel_rfl,?_⟩
  conv=>whnf
  obtain ⟨l02Draw1,hb1,h⟩:=Option.bind_eq_some_iff.1 h
  refine ⟨?_,?_⟩
  rotate_left
  focus
   conv=>whnf
   refine ⟨_,hb1,?_⟩
   conv=>whnf
   intro fp3
   conv=>whnf
   refine ⟨trivial,?_⟩
  rotate_right
  focus
   conv=>whnf
   refine ⟨_,hb1,?_⟩
   conv=>whnf
   intro fp3
   conv=>whnf
   refine ⟨trivial,?_⟩
  all_goals
   conv=>whnf
   cases h
   exact hK
theorem w34 (q0:Sq 147 c22):Sq 178 c34:=by
 refine Zm ZL (Zg q0 Zu) mixed {loops:=[(0,[.reg 3 (.dat Iq)]),(2,[.reg 4 (.dat Iq)])],draws:=[(9,[0,0,3,7,0,0,48,112,255],.op 0 (.op 1 (.op 2 (.op 3 (.op 4 (.op 5 (.op 6 (.op 7 (.op 8 (.done))))))))))]} (fn:=Tryz.f178) Tryz.func178 (by kernel_rfl) (by kernel_rfl) ?_
 rintro ⟨list0,⟨⟩⟩ K ⟨r,h,hK⟩
 change Zso list0=some r at h
 unfold Zso at h
 conv=>whnf
 refine YH h ?_
 rintro I0 μ0 ⟨i0,⟨⟩⟩ zs0 h hI0 hR0
 change ZsS list0 i0=some zs0 at h
 unfold ZsS at h
 conv=>whnf
 refine ZG h (fun h=>?_) (fun h=>?_)
 conv=>whnf
 refine vAt h (fun x0 he1a he1b he1x h=>?_)
 conv=>whnf
 refine Ze h (fun l03Name0 hb2 h=>?_)
 conv=>whnf
 refine Yc ?_
 refine Qn h (fun h=>?_) (fun h=>?_)
 conv=>whnf
 refine YH h ?_
 rintro I3 μ3 ⟨k0,⟨⟩⟩ zs3 h hI3 hR3
 change ZsR list0 i0 x0 k0=some zs3 at h
 unfold ZsR at h
 conv=>whnf
 refine ZG h (fun h=>?_) (fun h=>?_)
 conv=>whnf
 refine ⟨by kernel_rfl,?_⟩
 conv=>whnf
 refine vAt h (fun x1 he4a he4b he4x h=>?_)
 conv=>whnf
 refine ⟨he1a,he1b,Zh he1x ?_⟩
 conv=>whnf
 refine ⟨trivial,?_⟩
 conv=>whnf
 refine ZG h (fun h=>?_) (fun h=>?_)
 conv=>whnf
 cases h
 obtain rfl:=hR3 _ rfl
 obtain rfl:=hR0 _ rfl
 exact hK
 conv=>whnf
 cases h
 exact ⟨⟨rfl,rfl⟩,hI3 _ rfl⟩
 conv=>whnf
 cases h
 obtain rfl:=hR3 _ rfl
 exact ⟨⟨rfl,rfl⟩,hI0 _ rfl⟩
 conv=>whnf
 cases h
 obtain rfl:=hR0 _ rfl
 exact hK
 conv=>whnf
 cases h
 obtain rfl:=hR0 _ rfl
 exact hK
theorem w45 (q0:Sq 141 c44):Sq 70 c45:=by
 refine Zm ZL (Zg q0 Zu) mixed {loops:=[(0,[.reg 5 (.own (.ol 4 (.flat (.bool)))),.reg 6 (.dat Iq)])]} (fn:=Tryz.f70) Tryz.func70 (by kernel_rfl) (by kernel_rfl) ?_
 rintro ⟨links0,broken0,⟨⟩⟩ K ⟨r,h,hK⟩
 change ZHy links0 broken0=some r at h
 unfold ZHy at h
 conv=>whnf
 refine YH h ?_
 rintro I0 μ0 ⟨out0,k0,⟨⟩⟩ zs0 h hI0 hR0
 change ZHj links0 broken0 out0 k0=some zs0 at h
 unfold ZHj at h
 conv=>whnf
 refine ZG h (fun h=>?_) (fun h=>?_)
 conv=>whnf
 refine Ze h (fun l09Has0 hb1 h=>?_)
 conv=>whnf
 refine Yk h (fun hp2 h=>?_)
 conv=>whnf
 cases h
 exact ⟨⟨rfl,rfl⟩,hI0 _ rfl⟩
 conv=>whnf
 cases h
 obtain rfl:=hR0 _ rfl
 exact hK
theorem ZF5 (q0:Sq 114 c23):Sq 135 ZBa:=by
 refine Zm ZL (Zg q0 Zu) mixed {loops:=[(0,[.reg 5 (.dat Iq)])],draws:=[(4,[0,0,3,7,0,16,63,127,255,511,1023,2047,4095,4095,12287,32767,65535,4095,4095,397311,921599,2097151,4194303,8388607],.op 0 (.op 1 (.op 2 (.op 3 (.op 4 (.op 5 (.alt 6 (.op 7 (.op 8 (.op 9 (.op 10 (.op 11 (.op 12 (.op 13 (.op 14 (.op 15 (.op 16 (.op 17 (.op 18 (.op 19 (.op 20 (.op 21 (.op 22 (.op 23 (.done)))))))))))))))))) (.done))))))))]} (fn:=Tryz.f135) Tryz.func135 (by kernel_rfl) (by kernel_rfl) ?_
 rintro ⟨list0,n0,⟨⟩⟩ K ⟨r,h,hK⟩
 change ZHo list0 n0=some r at h
 unfold ZHo at h
 conv=>whnf
 refine YH h ?_
 rintro I0 μ0 ⟨i0,⟨⟩⟩ zs0 h hI0 hR0
 change ZG0 list0 n0 i0=some zs0 at h
 unfold ZG0 at h
 conv=>whnf
 refine ZG h (fun h=>?_) (fun h=>?_)
 conv=>whnf
 refine ⟨by kernel_rfl,?_⟩
 conv=>whnf
 refine vAt h (fun x0 he1a he1b he1x h=>?_)
 conv=>whnf
 refine Ze h (fun l01In0 hb2 h=>?_)
 conv=>whnf
 refine Zj4 ?_
 refine Qn h (fun h=>?_) (fun h=>?_)
 conv=>whnf
 refine ZG h (fun h=>?_) (fun h=>?_)
 conv=>whnf
 refine vAt h (fun x1 he3a he3b he3x h=>?_)
 conv=>whnf
 refine ⟨he1a,he1b,Zh he1x ?_⟩
 conv=>whnf
 refine ⟨trivial,?_⟩
 conv=>whnf
 refine ZG h (fun h=>?_) (fun h=>?_)
 conv=>whnf
 cases h
 obtain rfl:=hR0 _ rfl
 exact hK
 conv=>whnf
 cases h
 exact ⟨⟨rfl,rfl⟩,hI0 _ rfl⟩
 conv=>whnf
 refine ⟨trivial,?_⟩
 conv=>whnf
 cases h
 exact ⟨⟨rfl,rfl⟩,hI0 _ rfl⟩
 conv=>whnf
 refine ⟨trivial,?_⟩
 conv=>whnf
 cases h
 obtain rfl:=hR0 _ rfl
 exact hK
 conv=>whnf
 cases h
 obtain rfl:=hR0 _ rfl
 exact hK
theorem w21 (q0:Sq 44 c2):Sq 124 c21:=by
 refine Zm ZL (Zg q0 Zu) mixed {draws:=[(1,[0,0,2,7,15,0,38,102,230,0,614,1638,3686,8191,0,32767],.op 1 (.op 5 (.op 9 (.alt 0 (.alt 2 (.op 3 (.alt 4 (.alt 6 (.op 7 (.op 8 (.alt 10 (.op 11 (.op 12 (.op 13 (.alt 14 (.alt 15 (.done) (.done)) (.done))))) (.alt 14 (.alt 10 (.op 11 (.op 12 (.op 13 (.alt 15 (.done) (.done))))) (.done)) (.done))))) (.alt 14 (.alt 6 (.op 7 (.op 8 (.alt 10 (.op 11 (.op 12 (.op 13 (.alt 15 (.done) (.done))))) (.done)))) (.done)) (.done))) (.alt 6 (.op 7 (.op 8 (.alt 4 (.alt 10 (.op 11 (.op 12 (.op 13 (.alt 14 (.alt 15 (.done) (.done)) (.done))))) (.alt 14 (.alt 10 (.op 11 (.op 12 (.op 13 (.alt 15 (.done) (.done))))) (.done)) (.done))) (.alt 10 (.op 11 (.op 12 (.alt 4 (.op 13 (.alt 14 (.alt 15 (.done) (.done)) (.done))) (.alt 14 (.alt 4 (.op 13 (.alt 15 (.done) (.done))) (.done)) (.done))))) (.alt 14 (.alt 4 (.alt 10 (.op 11 (.op 12 (.op 13 (.alt 15 (.done) (.done))))) (.done)) (.alt 10 (.op 11 (.op 12 (.alt 4 (.op 13 (.alt 15 (.done) (.done))) (.done)))) (.done))) (.done)))))) (.alt 14 (.alt 4 (.alt 6 (.op 7 (.op 8 (.alt 10 (.op 11 (.op 12 (.op 13 (.alt 15 (.done) (.done))))) (.done)))) (.done)) (.alt 6 (.op 7 (.op 8 (.alt 4 (.alt 10 (.op 11 (.op 12 (.op 13 (.alt 15 (.done) (.done))))) (.done)) (.alt 10 (.op 11 (.op 12 (.alt 4 (.op 13 (.alt 15 (.done) (.done))) (.done)))) (.done))))) (.done))) (.done))))) (.alt 14 (.alt 2 (.op 3 (.alt 4 (.alt 6 (.op 7 (.op 8 (.alt 10 (.op 11 (.op 12 (.op 13 (.alt 15 (.done) (.done))))) (.done)))) (.done)) (.alt 6 (.op 7 (.op 8 (.alt 4 (.alt 10 (.op 11 (.op 12 (.op 13 (.alt 15 (.done) (.done))))) (.done)) (.alt 10 (.op 11 (.op 12 (.alt 4 (.op 13 (.alt 15 (.done) (.done))) (.done)))) (.done))))) (.done)))) (.done)) (.done))) (.alt 2 (.alt 0 (.op 3 (.alt 4 (.alt 6 (.op 7 (.op 8 (.alt 10 (.op 11 (.op 12 (.op 13 (.alt 14 (.alt 15 (.done) (.done)) (.done))))) (.alt 14 (.alt 10 (.op 11 (.op 12 (.op 13 (.alt 15 (.done) (.done))))) (.done)) (.done))))) (.alt 14 (.alt 6 (.op 7 (.op 8 (.alt 10 (.op 11 (.op 12 (.op 13 (.alt 15 (.done) (.done))))) (.done)))) (.done)) (.done))) (.alt 6 (.op 7 (.op 8 (.alt 4 (.alt 10 (.op 11 (.op 12 (.op 13 (.alt 14 (.alt 15 (.done) (.done)) (.done))))) (.alt 14 (.alt 10 (.op 11 (.op 12 (.op 13 (.alt 15 (.done) (.done))))) (.done)) (.done))) (.alt 10 (.op 11 (.op 12 (.alt 4 (.op 13 (.alt 14 (.alt 15 (.done) (.done)) (.done))) (.alt 14 (.alt 4 (.op 13 (.alt 15 (.done) (.done))) (.done)) (.done))))) (.alt 14 (.alt 4 (.alt 10 (.op 11 (.op 12 (.op 13 (.alt 15 (.done) (.done))))) (.done)) (.alt 10 (.op 11 (.op 12 (.alt 4 (.op 13 (.alt 15 (.done) (.done))) (.done)))) (.done))) (.done)))))) (.alt 14 (.alt 4 (.alt 6 (.op 7 (.op 8 (.alt 10 (.op 11 (.op 12 (.op 13 (.alt 15 (.done) (.done))))) (.done)))) (.done)) (.alt 6 (.op 7 (.op 8 (.alt 4 (.alt 10 (.op 11 (.op 12 (.op 13 (.alt 15 (.done) (.done))))) (.done)) (.alt 10 (.op 11 (.op 12 (.alt 4 (.op 13 (.alt 15 (.done) (.done))) (.done)))) (.done))))) (.done))) (.done))))) (.alt 6 (.op 7 (.op 8 (.alt 0 (.op 3 (.alt 4 (.alt 10 (.op 11 (.op 12 (.op 13 (.alt 14 (.alt 15 (.done) (.done)) (.done))))) (.alt 14 (.alt 10 (.op 11 (.op 12 (.op 13 (.alt 15 (.done) (.done))))) (.done)) (.done))) (.alt 10 (.op 11 (.op 12 (.alt 4 (.op 13 (.alt 14 (.alt 15 (.done) (.done)) (.done))) (.alt 14 (.alt 4 (.op 13 (.alt 15 (.done) (.done))) (.done)) (.done))))) (.alt 14 (.alt 4 (.alt 10 (.op 11 (.op 12 (.op 13 (.alt 15 (.done) (.done))))) (.done)) (.alt 10 (.op 11 (.op 12 (.alt 4 (.op 13 (.alt 15 (.done) (.done))) (.done)))) (.done))) (.done))))) (.alt 10 (.op 11 (.op 12 (.alt 0 (.op 3 (.alt 4 (.op 13 (.alt 14 (.alt 15 (.done) (.done)) (.done))) (.alt 14 (.alt 4 (.op 13 (.alt 15 (.done) (.done))) (.done)) (.done)))) (.alt 14 (.alt 0 (.op 3 (.alt 4 (.op 13 (.alt 15 (.done) (.done))) (.done))) (.done)) (.done))))) (.alt 14 (.alt 0 (.op 3 (.alt 4 (.alt 10 (.op 11 (.op 12 (.op 13 (.alt 15 (.done) (.done))))) (.done)) (.alt 10 (.op 11 (.op 12 (.alt 4 (.op 13 (.alt 15 (.done) (.done))) (.done)))) (.done)))) (.alt 10 (.op 11 (.op 12 (.alt 0 (.op 3 (.alt 4 (.op 13 (.alt 15 (.done) (.done))) (.done))) (.done)))) (.done))) (.done)))))) (.alt 14 (.alt 0 (.op 3 (.alt 4 (.alt 6 (.op 7 (.op 8 (.alt 10 (.op 11 (.op 12 (.op 13 (.alt 15 (.done) (.done))))) (.done)))) (.done)) (.alt 6 (.op 7 (.op 8 (.alt 4 (.alt 10 (.op 11 (.op 12 (.op 13 (.alt 15 (.done) (.done))))) (.done)) (.alt 10 (.op 11 (.op 12 (.alt 4 (.op 13 (.alt 15 (.done) (.done))) (.done)))) (.done))))) (.done)))) (.alt 6 (.op 7 (.op 8 (.alt 0 (.op 3 (.alt 4 (.alt 10 (.op 11 (.op 12 (.op 13 (.alt 15 (.done) (.done))))) (.done)) (.alt 10 (.op 11 (.op 12 (.alt 4 (.op 13 (.alt 15 (.done) (.done))) (.done)))) (.done)))) (.alt 10 (.op 11 (.op 12 (.alt 0 (.op 3 (.alt 4 (.op 13 (.alt 15 (.done) (.done))) (.done))) (.done)))) (.done))))) (.done))) (.done)))) (.alt 14 (.alt 0 (.alt 2 (.op 3 (.alt 4 (.alt 6 (.op 7 (.op 8 (.alt 10 (.op 11 (.op 12 (.op 13 (.alt 15 (.done) (.done))))) (.done)))) (.done)) (.alt 6 (.op 7 (.op 8 (.alt 4 (.alt 10 (.op 11 (.op 12 (.op 13 (.alt 15 (.done) (.done))))) (.done)) (.alt 10 (.op 11 (.op 12 (.alt 4 (.op 13 (.alt 15 (.done) (.done))) (.done)))) (.done))))) (.done)))) (.done)) (.alt 2 (.alt 0 (.op 3 (.alt 4 (.alt 6 (.op 7 (.op 8 (.alt 10 (.op 11 (.op 12 (.op 13 (.alt 15 (.done) (.done))))) (.done)))) (.done)) (.alt 6 (.op 7 (.op 8 (.alt 4 (.alt 10 (.op 11 (.op 12 (.op 13 (.alt 15 (.done) (.done))))) (.done)) (.alt 10 (.op 11 (.op 12 (.alt 4 (.op 13 (.alt 15 (.done) (.done))) (.done)))) (.done))))) (.done)))) (.alt 6 (.op 7 (.op 8 (.alt 0 (.op 3 (.alt 4 (.alt 10 (.op 11 (.op 12 (.op 13 (.alt 15 (.done) (.done))))) (.done)) (.alt 10 (.op 11 (.op 12 (.alt 4 (.op 13 (.alt 15 (.done) (.done))) (.done)))) (.done)))) (.alt 10 (.op 11 (.op 12 (.alt 0 (.op 3 (.alt 4 (.op 13 (.alt 15 (.done) (.done))) (.done))) (.done)))) (.done))))) (.done))) (.done))) (.done))))))),(2,[0,1,0,4,12,31,63,127],.op 0 (.op 2 (.alt 1 (.alt 3 (.op 4 (.op 5 (.op 6 (.alt 7 (.done) (.done))))) (.done)) (.alt 3 (.op 4 (.alt 1 (.op 5 (.op 6 (.alt 7 (.done) (.done)))) (.done))) (.done))))),(3,[0,1,0,4,12,31,63,127],.op 0 (.op 2 (.alt 1 (.alt 3 (.op 4 (.op 5 (.op 6 (.alt 7 (.done) (.done))))) (.done)) (.alt 3 (.op 4 (.alt 1 (.op 5 (.op 6 (.alt 7 (.done) (.done)))) (.done))) (.done)))))]} (fn:=Tryz.f124) Tryz.func124 (by kernel_rfl) (by kernel_rfl) ?_
 rintro ⟨s0,⟨⟩⟩ K ⟨r,h,hK⟩
 change ZGV s0=some r at h
 unfold ZGV at h
 focus
  conv=>whnf
  refine ⟨by kernel_rfl,?_⟩
  conv=>whnf
  obtain ⟨l01Next0,hb0,h⟩:=Option.bind_eq_some_iff.1 h
  obtain ⟨x0,he1a,he1b,he1x,h⟩:=atE h
  obtain ⟨l01Next1,hb2,h⟩:=Option.bind_eq_some_iff.1 h
  obtain ⟨l01Next2,hb3,h⟩:=Option.bind_eq_some_iff.1 h
  refine ⟨?_,?_⟩
  rotate_left
  focus
   conv=>whnf
   refine ⟨?_,?_⟩
   rotate_left
   focus
    conv=>whnf
    refine ⟨?_,?_⟩
    rotate_left
    focus
     conv=>whnf
     refine ⟨_,hb0,?_⟩
     conv=>whnf
     refine ⟨?_,?_⟩
     rotate_left
     focus
      conv=>whnf
      refine ⟨_,hb2,?_⟩
      conv=>whnf
      refine ⟨?_,?_⟩
      rotate_left
      focus
       conv=>whnf
       refine ⟨_,hb3,?_⟩
       conv=>whnf
       refine ⟨he1a,he1b,Zh he1x ?_⟩
       conv=>whnf
       refine ⟨by kernel_rfl,?_⟩
       conv=>whnf
       refine ⟨he1a,he1b,Zh he1x ?_⟩
       conv=>whnf
       refine ⟨trivial,?_⟩
      rotate_right
      focus
       conv=>whnf
       refine ⟨he1a,he1b,Zh he1x ?_⟩
       conv=>whnf
       refine ⟨?_,?_⟩
       rotate_left
       focus
        conv=>whnf
        refine ⟨_,hb3,?_⟩
        conv=>whnf
        refine ⟨by kernel_rfl,?_⟩
        conv=>whnf
        refine ⟨he1a,he1b,Zh he1x ?_⟩
        conv=>whnf
        refine ⟨trivial,?_⟩
       rotate_right
       focus
        conv=>whnf
        refine ⟨by kernel_rfl,?_⟩
        conv=>whnf
        refine ⟨he1a,he1b,Zh he1x ?_⟩
        conv=>whnf
        refine ⟨_,hb3,?_⟩
        conv=>whnf
        refine ⟨trivial,?_⟩
     rotate_right
     focus
      conv=>whnf
      refine ⟨he1a,he1b,Zh he1x ?_⟩
      conv=>whnf
      refine ⟨?_,?_⟩
      rotate_left
      focus
       conv=>whnf
       refine ⟨_,hb2,?_⟩
       conv=>whnf
       refine ⟨?_,?_⟩
       rotate_left
       focus
        conv=>whnf
        refine ⟨_,hb3,?_⟩
        conv=>whnf
        refine ⟨by kernel_rfl,?_⟩
        conv=>whnf
        refine ⟨he1a,he1b,Zh he1x ?_⟩
        conv=>whnf
        refine ⟨trivial,?_⟩
       rotate_right
       focus
        conv=>whnf
        refine ⟨by kernel_rfl,?_⟩
        conv=>whnf
        refine ⟨he1a,he1b,Zh he1x ?_⟩
        conv=>whnf
        refine ⟨_,hb3,?_⟩
        conv=>whnf
        refine ⟨trivial,?_⟩
      rotate_right
      focus
       conv=>whnf
       refine ⟨by kernel_rfl,?_⟩
       conv=>whnf
       refine ⟨he1a,he1b,Zh he1x ?_⟩
       conv=>whnf
       refine ⟨_,hb2,?_⟩
       conv=>whnf
       refine ⟨_,hb3,?_⟩
       conv=>whnf
       refine ⟨trivial,?_⟩
    rotate_right
    focus
     conv=>whnf
     refine ⟨_,hb0,?_⟩
     conv=>whnf
     refine ⟨he1a,he1b,Zh he1x ?_⟩
     conv=>whnf
     refine ⟨?_,?_⟩
     rotate_left
     focus
      conv=>whnf
      refine ⟨_,hb2,?_⟩
      conv=>whnf
      refine ⟨?_,?_⟩
      rotate_left
      focus
       conv=>whnf
       refine ⟨_,hb3,?_⟩
       conv=>whnf
       refine ⟨by kernel_rfl,?_⟩
       conv=>whnf
       refine ⟨he1a,he1b,Zh he1x ?_⟩
       conv=>whnf
       refine ⟨trivial,?_⟩
      rotate_right
      focus
       conv=>whnf
       refine ⟨by kernel_rfl,?_⟩
       conv=>whnf
       refine ⟨he1a,he1b,Zh he1x ?_⟩
       conv=>whnf
       refine ⟨_,hb3,?_⟩
       conv=>whnf
       refine ⟨trivial,?_⟩
     rotate_right
     focus
      conv=>whnf
      refine ⟨by kernel_rfl,?_⟩
      conv=>whnf
      refine ⟨he1a,he1b,Zh he1x ?_⟩
      conv=>whnf
      refine ⟨_,hb2,?_⟩
      conv=>whnf
      refine ⟨_,hb3,?_⟩
      conv=>whnf
      refine ⟨trivial,?_⟩
   rotate_right
   focus
    conv=>whnf
    refine ⟨_,hb0,?_⟩
    conv=>whnf
    refine ⟨?_,?_⟩
    rotate_left
    focus
     conv=>whnf
     refine ⟨?_,?_⟩
     rotate_left
     focus
      conv=>whnf
      refine ⟨?_,?_⟩
      rotate_left
      focus
       conv=>whnf
       refine ⟨_,hb2,?_⟩
       conv=>whnf
       refine ⟨?_,?_⟩
       rotate_left
       focus
        conv=>whnf
        refine ⟨_,hb3,?_⟩
        conv=>whnf
        refine ⟨he1a,he1b,Zh he1x ?_⟩
        conv=>whnf
        refine ⟨by kernel_rfl,?_⟩
        conv=>whnf
        refine ⟨he1a,he1b,Zh he1x ?_⟩
        conv=>whnf
        refine ⟨trivial,?_⟩
       rotate_right
       focus
        conv=>whnf
        refine ⟨he1a,he1b,Zh he1x ?_⟩
        conv=>whnf
        refine ⟨?_,?_⟩
        rotate_left
        focus
         conv=>whnf
         refine ⟨_,hb3,?_⟩
         conv=>whnf
         refine ⟨by kernel_rfl,?_⟩
         conv=>whnf
         refine ⟨he1a,he1b,Zh he1x ?_⟩
         conv=>whnf
         refine ⟨trivial,?_⟩
        rotate_right
        focus
         conv=>whnf
         refine ⟨by kernel_rfl,?_⟩
         conv=>whnf
         refine ⟨he1a,he1b,Zh he1x ?_⟩
         conv=>whnf
         refine ⟨_,hb3,?_⟩
         conv=>whnf
         refine ⟨trivial,?_⟩
      rotate_right
      focus
       conv=>whnf
       refine ⟨he1a,he1b,Zh he1x ?_⟩
       conv=>whnf
       refine ⟨?_,?_⟩
       rotate_left
       focus
        conv=>whnf
        refine ⟨_,hb2,?_⟩
        conv=>whnf
        refine ⟨?_,?_⟩
        rotate_left
        focus
         conv=>whnf
         refine ⟨_,hb3,?_⟩
         conv=>whnf
         refine ⟨by kernel_rfl,?_⟩
         conv=>whnf
         refine ⟨he1a,he1b,Zh he1x ?_⟩
         conv=>whnf
         refine ⟨trivial,?_⟩
        rotate_right
        focus
         conv=>whnf
         refine ⟨by kernel_rfl,?_⟩
         conv=>whnf
         refine ⟨he1a,he1b,Zh he1x ?_⟩
         conv=>whnf
         refine ⟨_,hb3,?_⟩
         conv=>whnf
         refine ⟨trivial,?_⟩
       rotate_right
       focus
        conv=>whnf
        refine ⟨by kernel_rfl,?_⟩
        conv=>whnf
        refine ⟨he1a,he1b,Zh he1x ?_⟩
        conv=>whnf
        refine ⟨_,hb2,?_⟩
        conv=>whnf
        refine ⟨_,hb3,?_⟩
        conv=>whnf
        refine ⟨trivial,?_⟩
     rotate_right
     focus
      conv=>whnf
      refine ⟨_,hb2,?_⟩
      conv=>whnf
      refine ⟨?_,?_⟩
      rotate_left
      focus
       conv=>whnf
       refine ⟨?_,?_⟩
       rotate_left
       focus
        conv=>whnf
        refine ⟨?_,?_⟩
        rotate_left
        focus
         conv=>whnf
         refine ⟨_,hb3,?_⟩
         conv=>whnf
         refine ⟨he1a,he1b,Zh he1x ?_⟩
         conv=>whnf
         refine ⟨by kernel_rfl,?_⟩
         conv=>whnf
         refine ⟨he1a,he1b,Zh he1x ?_⟩
         conv=>whnf
         refine ⟨trivial,?_⟩
        rotate_right
        focus
         conv=>whnf
         refine ⟨he1a,he1b,Zh he1x ?_⟩
         conv=>whnf
         refine ⟨?_,?_⟩
         rotate_left
         focus
          conv=>whnf
          refine ⟨_,hb3,?_⟩
          conv=>whnf
          refine ⟨by kernel_rfl,?_⟩
          conv=>whnf
          refine ⟨he1a,he1b,Zh he1x ?_⟩
          conv=>whnf
          refine ⟨trivial,?_⟩
         rotate_right
         focus
          conv=>whnf
          refine ⟨by kernel_rfl,?_⟩
          conv=>whnf
          refine ⟨he1a,he1b,Zh he1x ?_⟩
          conv=>whnf
          refine ⟨_,hb3,?_⟩
          conv=>whnf
          refine ⟨trivial,?_⟩
       rotate_right
       focus
        conv=>whnf
        refine ⟨_,hb3,?_⟩
        conv=>whnf
        refine ⟨?_,?_⟩
        rotate_left
        focus
         conv=>whnf
         refine ⟨he1a,he1b,Zh he1x ?_⟩
         conv=>whnf
         refine ⟨by kernel_rfl,?_⟩
         conv=>whnf
         refine ⟨he1a,he1b,Zh he1x ?_⟩
         conv=>whnf
         refine ⟨trivial,?_⟩
        rotate_right
        focus
         conv=>whnf
         refine ⟨he1a,he1b,Zh he1x ?_⟩
         conv=>whnf
         refine ⟨?_,?_⟩
         rotate_left
         focus
          conv=>whnf
          refine ⟨by kernel_rfl,?_⟩
          conv=>whnf
          refine ⟨he1a,he1b,Zh he1x ?_⟩
          conv=>whnf
          refine ⟨trivial,?_⟩
         rotate_right
         focus
          conv=>whnf
          refine ⟨by kernel_rfl,?_⟩
          conv=>whnf
          refine ⟨he1a,he1b,Zh he1x ?_⟩
          conv=>whnf
          refine ⟨trivial,?_⟩
      rotate_right
      focus
       conv=>whnf
       refine ⟨he1a,he1b,Zh he1x ?_⟩
       conv=>whnf
       refine ⟨?_,?_⟩
       rotate_left
       focus
        conv=>whnf
        refine ⟨?_,?_⟩
        rotate_left
        focus
         conv=>whnf
         refine ⟨?_,?_⟩
         rotate_left
         focus
          conv=>whnf
          refine ⟨_,hb3,?_⟩
          conv=>whnf
          refine ⟨by kernel_rfl,?_⟩
          conv=>whnf
          refine ⟨he1a,he1b,Zh he1x ?_⟩
          conv=>whnf
          refine ⟨trivial,?_⟩
         rotate_right
         focus
          conv=>whnf
          refine ⟨by kernel_rfl,?_⟩
          conv=>whnf
          refine ⟨he1a,he1b,Zh he1x ?_⟩
          conv=>whnf
          refine ⟨_,hb3,?_⟩
          conv=>whnf
          refine ⟨trivial,?_⟩
        rotate_right
        focus
         conv=>whnf
         refine ⟨_,hb3,?_⟩
         conv=>whnf
         refine ⟨?_,?_⟩
         rotate_left
         focus
          conv=>whnf
          refine ⟨by kernel_rfl,?_⟩
          conv=>whnf
          refine ⟨he1a,he1b,Zh he1x ?_⟩
          conv=>whnf
          refine ⟨trivial,?_⟩
         rotate_right
         focus
          conv=>whnf
          refine ⟨by kernel_rfl,?_⟩
          conv=>whnf
          refine ⟨he1a,he1b,Zh he1x ?_⟩
          conv=>whnf
          refine ⟨trivial,?_⟩
       rotate_right
       focus
        conv=>whnf
        refine ⟨by kernel_rfl,?_⟩
        conv=>whnf
        refine ⟨he1a,he1b,Zh he1x ?_⟩
        conv=>whnf
        refine ⟨?_,?_⟩
        rotate_left
        focus
         conv=>whnf
         refine ⟨_,hb3,?_⟩
         conv=>whnf
         refine ⟨trivial,?_⟩
        rotate_right
        focus
         conv=>whnf
         refine ⟨_,hb3,?_⟩
         conv=>whnf
         refine ⟨trivial,?_⟩
    rotate_right
    focus
     conv=>whnf
     refine ⟨he1a,he1b,Zh he1x ?_⟩
     conv=>whnf
     refine ⟨?_,?_⟩
     rotate_left
     focus
      conv=>whnf
      refine ⟨?_,?_⟩
      rotate_left
      focus
       conv=>whnf
       refine ⟨?_,?_⟩
       rotate_left
       focus
        conv=>whnf
        refine ⟨_,hb2,?_⟩
        conv=>whnf
        refine ⟨?_,?_⟩
        rotate_left
        focus
         conv=>whnf
         refine ⟨_,hb3,?_⟩
         conv=>whnf
         refine ⟨by kernel_rfl,?_⟩
         conv=>whnf
         refine ⟨he1a,he1b,Zh he1x ?_⟩
         conv=>whnf
         refine ⟨trivial,?_⟩
        rotate_right
        focus
         conv=>whnf
         refine ⟨by kernel_rfl,?_⟩
         conv=>whnf
         refine ⟨he1a,he1b,Zh he1x ?_⟩
         conv=>whnf
         refine ⟨_,hb3,?_⟩
         conv=>whnf
         refine ⟨trivial,?_⟩
       rotate_right
       focus
        conv=>whnf
        refine ⟨by kernel_rfl,?_⟩
        conv=>whnf
        refine ⟨he1a,he1b,Zh he1x ?_⟩
        conv=>whnf
        refine ⟨_,hb2,?_⟩
        conv=>whnf
        refine ⟨_,hb3,?_⟩
        conv=>whnf
        refine ⟨trivial,?_⟩
      rotate_right
      focus
       conv=>whnf
       refine ⟨_,hb2,?_⟩
       conv=>whnf
       refine ⟨?_,?_⟩
       rotate_left
       focus
        conv=>whnf
        refine ⟨?_,?_⟩
        rotate_left
        focus
         conv=>whnf
         refine ⟨?_,?_⟩
         rotate_left
         focus
          conv=>whnf
          refine ⟨_,hb3,?_⟩
          conv=>whnf
          refine ⟨by kernel_rfl,?_⟩
          conv=>whnf
          refine ⟨he1a,he1b,Zh he1x ?_⟩
          conv=>whnf
          refine ⟨trivial,?_⟩
         rotate_right
         focus
          conv=>whnf
          refine ⟨by kernel_rfl,?_⟩
          conv=>whnf
          refine ⟨he1a,he1b,Zh he1x ?_⟩
          conv=>whnf
          refine ⟨_,hb3,?_⟩
          conv=>whnf
          refine ⟨trivial,?_⟩
        rotate_right
        focus
         conv=>whnf
         refine ⟨_,hb3,?_⟩
         conv=>whnf
         refine ⟨?_,?_⟩
         rotate_left
         focus
          conv=>whnf
          refine ⟨by kernel_rfl,?_⟩
          conv=>whnf
          refine ⟨he1a,he1b,Zh he1x ?_⟩
          conv=>whnf
          refine ⟨trivial,?_⟩
         rotate_right
         focus
          conv=>whnf
          refine ⟨by kernel_rfl,?_⟩
          conv=>whnf
          refine ⟨he1a,he1b,Zh he1x ?_⟩
          conv=>whnf
          refine ⟨trivial,?_⟩
       rotate_right
       focus
        conv=>whnf
        refine ⟨by kernel_rfl,?_⟩
        conv=>whnf
        refine ⟨he1a,he1b,Zh he1x ?_⟩
        conv=>whnf
        refine ⟨?_,?_⟩
        rotate_left
        focus
         conv=>whnf
         refine ⟨_,hb3,?_⟩
         conv=>whnf
         refine ⟨trivial,?_⟩
        rotate_right
        focus
         conv=>whnf
         refine ⟨_,hb3,?_⟩
         conv=>whnf
         refine ⟨trivial,?_⟩
     rotate_right
     focus
      conv=>whnf
      refine ⟨by kernel_rfl,?_⟩
      conv=>whnf
      refine ⟨he1a,he1b,Zh he1x ?_⟩
      conv=>whnf
      refine ⟨?_,?_⟩
      rotate_left
      focus
       conv=>whnf
       refine ⟨_,hb2,?_⟩
       conv=>whnf
       refine ⟨_,hb3,?_⟩
       conv=>whnf
       refine ⟨trivial,?_⟩
      rotate_right
      focus
       conv=>whnf
       refine ⟨_,hb2,?_⟩
       conv=>whnf
       refine ⟨?_,?_⟩
       rotate_left
       focus
        conv=>whnf
        refine ⟨_,hb3,?_⟩
        conv=>whnf
        refine ⟨trivial,?_⟩
       rotate_right
       focus
        conv=>whnf
        refine ⟨_,hb3,?_⟩
        conv=>whnf
        refine ⟨trivial,?_⟩
  rotate_right
  focus
   conv=>whnf
   refine ⟨?_,?_⟩
   rotate_left
   focus
    conv=>whnf
    refine ⟨_,hb0,?_⟩
    conv=>whnf
    refine ⟨he1a,he1b,Zh he1x ?_⟩
    conv=>whnf
    refine ⟨?_,?_⟩
    rotate_left
    focus
     conv=>whnf
     refine ⟨_,hb2,?_⟩
     conv=>whnf
     refine ⟨?_,?_⟩
     rotate_left
     focus
      conv=>whnf
      refine ⟨_,hb3,?_⟩
      conv=>whnf
      refine ⟨by kernel_rfl,?_⟩
      conv=>whnf
      refine ⟨he1a,he1b,Zh he1x ?_⟩
      conv=>whnf
      refine ⟨trivial,?_⟩
     rotate_right
     focus
      conv=>whnf
      refine ⟨by kernel_rfl,?_⟩
      conv=>whnf
      refine ⟨he1a,he1b,Zh he1x ?_⟩
      conv=>whnf
      refine ⟨_,hb3,?_⟩
      conv=>whnf
      refine ⟨trivial,?_⟩
    rotate_right
    focus
     conv=>whnf
     refine ⟨by kernel_rfl,?_⟩
     conv=>whnf
     refine ⟨he1a,he1b,Zh he1x ?_⟩
     conv=>whnf
     refine ⟨_,hb2,?_⟩
     conv=>whnf
     refine ⟨_,hb3,?_⟩
     conv=>whnf
     refine ⟨trivial,?_⟩
   rotate_right
   focus
    conv=>whnf
    refine ⟨_,hb0,?_⟩
    conv=>whnf
    refine ⟨he1a,he1b,Zh he1x ?_⟩
    conv=>whnf
    refine ⟨?_,?_⟩
    rotate_left
    focus
     conv=>whnf
     refine ⟨?_,?_⟩
     rotate_left
     focus
      conv=>whnf
      refine ⟨?_,?_⟩
      rotate_left
      focus
       conv=>whnf
       refine ⟨_,hb2,?_⟩
       conv=>whnf
       refine ⟨?_,?_⟩
       rotate_left
       focus
        conv=>whnf
        refine ⟨_,hb3,?_⟩
        conv=>whnf
        refine ⟨by kernel_rfl,?_⟩
        conv=>whnf
        refine ⟨he1a,he1b,Zh he1x ?_⟩
        conv=>whnf
        refine ⟨trivial,?_⟩
       rotate_right
       focus
        conv=>whnf
        refine ⟨by kernel_rfl,?_⟩
        conv=>whnf
        refine ⟨he1a,he1b,Zh he1x ?_⟩
        conv=>whnf
        refine ⟨_,hb3,?_⟩
        conv=>whnf
        refine ⟨trivial,?_⟩
      rotate_right
      focus
       conv=>whnf
       refine ⟨by kernel_rfl,?_⟩
       conv=>whnf
       refine ⟨he1a,he1b,Zh he1x ?_⟩
       conv=>whnf
       refine ⟨_,hb2,?_⟩
       conv=>whnf
       refine ⟨_,hb3,?_⟩
       conv=>whnf
       refine ⟨trivial,?_⟩
     rotate_right
     focus
      conv=>whnf
      refine ⟨_,hb2,?_⟩
      conv=>whnf
      refine ⟨?_,?_⟩
      rotate_left
      focus
       conv=>whnf
       refine ⟨?_,?_⟩
       rotate_left
       focus
        conv=>whnf
        refine ⟨?_,?_⟩
        rotate_left
        focus
         conv=>whnf
         refine ⟨_,hb3,?_⟩
         conv=>whnf
         refine ⟨by kernel_rfl,?_⟩
         conv=>whnf
         refine ⟨he1a,he1b,Zh he1x ?_⟩
         conv=>whnf
         refine ⟨trivial,?_⟩
        rotate_right
        focus
         conv=>whnf
         refine ⟨by kernel_rfl,?_⟩
         conv=>whnf
         refine ⟨he1a,he1b,Zh he1x ?_⟩
         conv=>whnf
         refine ⟨_,hb3,?_⟩
         conv=>whnf
         refine ⟨trivial,?_⟩
       rotate_right
       focus
        conv=>whnf
        refine ⟨_,hb3,?_⟩
        conv=>whnf
        refine ⟨?_,?_⟩
        rotate_left
        focus
         conv=>whnf
         refine ⟨by kernel_rfl,?_⟩
         conv=>whnf
         refine ⟨he1a,he1b,Zh he1x ?_⟩
         conv=>whnf
         refine ⟨trivial,?_⟩
        rotate_right
        focus
         conv=>whnf
         refine ⟨by kernel_rfl,?_⟩
         conv=>whnf
         refine ⟨he1a,he1b,Zh he1x ?_⟩
         conv=>whnf
         refine ⟨trivial,?_⟩
      rotate_right
      focus
       conv=>whnf
       refine ⟨by kernel_rfl,?_⟩
       conv=>whnf
       refine ⟨he1a,he1b,Zh he1x ?_⟩
       conv=>whnf
       refine ⟨?_,?_⟩
       rotate_left
       focus
        conv=>whnf
        refine ⟨_,hb3,?_⟩
        conv=>whnf
        refine ⟨trivial,?_⟩
       rotate_right
       focus
        conv=>whnf
        refine ⟨_,hb3,?_⟩
        conv=>whnf
        refine ⟨trivial,?_⟩
    rotate_right
    focus
     conv=>whnf
     refine ⟨by kernel_rfl,?_⟩
     conv=>whnf
     refine ⟨he1a,he1b,Zh he1x ?_⟩
     conv=>whnf
     refine ⟨?_,?_⟩
     rotate_left
     focus
      conv=>whnf
      refine ⟨_,hb2,?_⟩
      conv=>whnf
      refine ⟨_,hb3,?_⟩
      conv=>whnf
      refine ⟨trivial,?_⟩
     rotate_right
     focus
      conv=>whnf
      refine ⟨_,hb2,?_⟩
      conv=>whnf
      refine ⟨?_,?_⟩
      rotate_left
      focus
       conv=>whnf
       refine ⟨_,hb3,?_⟩
       conv=>whnf
       refine ⟨trivial,?_⟩
      rotate_right
      focus
       conv=>whnf
       refine ⟨_,hb3,?_⟩
       conv=>whnf
       refine ⟨trivial,?_⟩
  all_goals
   focus
    conv=>whnf
    refine ⟨by kernel_rfl,?_⟩
    conv=>whnf
    obtain ⟨l01Next3,hb4,h⟩:=Option.bind_eq_some_iff.1 h
    refine ⟨?_,?_⟩
    rotate_left
    focus
     conv=>whnf
     refine ⟨_,hb4,?_⟩
     conv=>whnf
     refine ⟨trivial,?_⟩
    rotate_right
    focus
     conv=>whnf
     refine ⟨_,hb4,?_⟩
     conv=>whnf
     refine ⟨trivial,?_⟩
    all_goals
     focus
      conv=>whnf
      refine ⟨by kernel_rfl,?_⟩
      conv=>whnf
      obtain ⟨l01Next4,hb5,h⟩:=Option.bind_eq_some_iff.1 h
      refine ⟨?_,?_⟩
      rotate_left
      focus
       conv=>whnf
       refine ⟨_,hb5,?_⟩
       conv=>whnf
       refine ⟨trivial,?_⟩
      rotate_right
      focus
       conv=>whnf
       refine ⟨_,hb5,?_⟩
       conv=>whnf
       refine ⟨trivial,?_⟩
      all_goals
       conv=>whnf
       refine Ze h (fun l01Next5 hb6 h=>?_)
       conv=>whnf
       refine ZG h (fun h=>?_) (fun h=>?_)
       conv=>whnf
       cases h
       exact hK
       conv=>whnf
       refine ZG h (fun h=>?_) (fun h=>?_)
       conv=>whnf
       refine Ze h (fun l01Next6 hb7 h=>?_)
       conv=>whnf
       refine vAt h (fun x1 he8a he8b he8x h=>?_)
       conv=>whnf
       refine ⟨by kernel_rfl,?_⟩
       conv=>whnf
       refine ⟨he8a,he8b,Zh he8x ?_⟩
       conv=>whnf
       cases h
       exact hK
       conv=>whnf
       refine ZG h (fun h=>?_) (fun h=>?_)
       conv=>whnf
       refine Ze h (fun l01Next6 hb9 h=>?_)
       conv=>whnf
       cases h
       exact hK
       conv=>whnf
       refine ZG h (fun h=>?_) (fun h=>?_)
       conv=>whnf
       cases h
       exact hK
       conv=>whnf
       cases h
       exact hK
end Go.Proofs.YtnnbgbgapogckaaGreatDoor
