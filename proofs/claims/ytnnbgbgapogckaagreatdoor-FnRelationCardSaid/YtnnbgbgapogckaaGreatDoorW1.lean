/-
  The functions keep their contracts, if what they call does. Printed by program.
-/
import Derived.Test.YtnnbgbgapogckaaGreatDoorM
import Derived.KernelRfl
namespace Go.Proofs.YtnnbgbgapogckaaGreatDoor
open Go Go.Sx
set_option maxRecDepth 100000
set_option maxHeartbeats 6400000
set_option linter.unusedVariables false
set_option linter.unusedSimpArgs false
theorem w30 (q0:Sq 159 c29):Sq 229 c30:=by
 refine Zm ZL (Zg q0 Zu) mixed {} (fn:=Tryz.f229) Tryz.func229 (by kernel_rfl) (by kernel_rfl) ?_
 rintro ⟨c0,⟨⟩⟩ K ⟨r,h,hK⟩
 change Yl c0=some r at h
 unfold Yl at h
 conv=>whnf
 refine Ze h (fun within0 hb0 h=>?_)
 conv=>whnf
 refine Qn h (fun h=>?_) (fun h=>?_)
 conv=>whnf
 refine Ze h (fun within1 hb1 h=>?_)
 conv=>whnf
 refine Qn h (fun h=>?_) (fun h=>?_)
 conv=>whnf
 refine Ze h (fun within2 hb2 h=>?_)
 conv=>whnf
 refine Qn h (fun h=>?_) (fun h=>?_)
 conv=>whnf
 refine Yc ?_
 refine ZG h (fun h=>?_) (fun h=>?_)
 conv=>whnf
 cases h
 exact hK
 conv=>whnf
 refine ZG h (fun h=>?_) (fun h=>?_)
 conv=>whnf
 cases h
 exact hK
 conv=>whnf
 cases h
 exact hK
 conv=>whnf
 cases h
 exact hK
 conv=>whnf
 cases h
 exact hK
 conv=>whnf
 cases h
 exact hK
theorem w67 (q0:Sq 51 c43) (q1:Sq 52 c31):Sq 13 c67:=by
 refine Zm ZL (Zg q0 (Zg q1 Zu)) mixed {draws:=[(5,[0,1,0,4,12,0,32,96,3,287,1023,2047],.op 0 (.op 1 (.op 2 (.op 3 (.op 4 (.op 5 (.op 6 (.op 7 (.op 8 (.op 9 (.op 10 (.op 11 (.done)))))))))))))]} (fn:=Tryz.f13) Tryz.func13 (by kernel_rfl) (by kernel_rfl) ?_
 rintro ⟨list0,k0,⟨⟩⟩ K ⟨r,h,hK⟩
 change VB list0 k0=some r at h
 unfold VB at h
 conv=>whnf
 refine Ze h (fun clockCode0 hb0 h=>?_)
 conv=>whnf
 refine Yc ?_
 refine ZG h (fun h=>?_) (fun h=>?_)
 conv=>whnf
 refine Ze h (fun waveOf0 hb1 h=>?_)
 conv=>whnf
 refine ⟨by kernel_rfl,?_⟩
 conv=>whnf
 refine ⟨trivial,?_⟩
 conv=>whnf
 cases h
 exact hK
 conv=>whnf
 cases h
 exact hK
theorem w36 (q1:Sq 212 c33) (q0:Sq 230 c35):Sq 188 c36:=by
 refine Zm ZL (Zg q1 (Zg q0 Zu)) mixed {loops:=[(0,[.reg 7 (.dat Iq)])]} (fn:=Tryz.f188) Tryz.func188 (by kernel_rfl) (by kernel_rfl) ?_
 rintro ⟨list0,⟨⟩⟩ K ⟨r,h,hK⟩
 change QO list0=some r at h
 unfold QO at h
 conv=>whnf
 refine YH h ?_
 rintro I0 μ0 ⟨v0,⟨⟩⟩ zs0 h hI0 hR0
 change Y7 list0 v0=some zs0 at h
 unfold Y7 at h
 conv=>whnf
 refine ZG h (fun h=>?_) (fun h=>?_)
 conv=>whnf
 refine vAt h (fun x0 he1a he1b he1x h=>?_)
 conv=>whnf
 refine Ze h (fun isName0 hb2 h=>?_)
 conv=>whnf
 refine Zj4 ?_
 refine Qn h (fun h=>?_) (fun h=>?_)
 conv=>whnf
 refine ⟨by decide,?_⟩
 conv=>whnf
 refine Yk h (fun hp3 h=>?_)
 conv=>whnf
 refine Yk h (fun hp4 h=>?_)
 conv=>whnf
 refine Ze h (fun string0 hb5 h=>?_)
 conv=>whnf
 refine Qn h (fun h=>?_) (fun h=>?_)
 conv=>whnf
 cases h
 obtain rfl:=hR0 _ rfl
 exact hK
 conv=>whnf
 cases h
 exact ⟨⟨rfl,rfl⟩,hI0 _ rfl⟩
 conv=>whnf
 cases h
 obtain rfl:=hR0 _ rfl
 exact hK
 conv=>whnf
 cases h
 obtain rfl:=hR0 _ rfl
 exact hK
theorem w51 (q0:Sq 183 c50):Sq 103 c51:=by
 refine Zm VX (Zg q0 Zu) mixed {loops:=[(0,[.reg 3 (.own (.ol 51 (.ol 2 (.flat Iq)))),.reg 4 (.dat Iq)])]} (fn:=Tryz.f103) Tryz.func103 (by kernel_rfl) (by kernel_rfl) ?_
 rintro ⟨x0,⟨⟩⟩ K ⟨r,h,hK⟩
 change YS x0=some r at h
 unfold YS at h
 conv=>whnf
 refine Yk h (fun hp0 h=>?_)
 conv=>whnf
 refine Yk h (fun hp1 h=>?_)
 conv=>whnf
 refine ⟨fun hi=>?_,fun hi=>?_,trivial⟩
 have hi:Ye.ea x0=(0:Int):=hi
 simp only [hi,if_true,Int.reduceEq,if_false] at h
 conv=>whnf
 refine YH h ?_
 rintro I2 μ2 ⟨list0,l0,⟨⟩⟩ zs2 h hI2 hR2
 change ZO x0 list0 l0=some zs2 at h
 unfold ZO at h
 conv=>whnf
 intro fp3
 conv=>whnf
 refine ZG h (fun h=>?_) (fun h=>?_)
 conv=>whnf
 refine Ze h (fun next0 hb4 h=>?_)
 conv=>whnf
 intro fp5
 conv=>whnf
 refine Yk h (fun hp6 h=>?_)
 conv=>whnf
 intro fp7
 conv=>whnf
 cases h
 exact ⟨⟨rfl,rfl⟩,hI2 _ rfl⟩
 conv=>whnf
 cases h
 obtain rfl:=hR2 _ rfl
 exact hK
 have hi:Ye.ea x0=(1:Int):=hi
 simp only [hi,if_true,Int.reduceEq,if_false] at h
 conv=>whnf
 refine YH h ?_
 rintro I8 μ8 ⟨list0,l0,⟨⟩⟩ zs8 h hI8 hR8
 change ZO x0 list0 l0=some zs8 at h
 unfold ZO at h
 conv=>whnf
 intro fp9
 conv=>whnf
 refine ZG h (fun h=>?_) (fun h=>?_)
 conv=>whnf
 refine Ze h (fun next0 hb10 h=>?_)
 conv=>whnf
 intro fp11
 conv=>whnf
 refine Yk h (fun hp12 h=>?_)
 conv=>whnf
 intro fp13
 conv=>whnf
 cases h
 exact ⟨⟨rfl,rfl⟩,hI8 _ rfl⟩
 conv=>whnf
 cases h
 obtain rfl:=hR8 _ rfl
 exact hK
theorem w47 (q0:Sq 52 c31) (q1:Sq 182 c46):Sq 102 c47:=by
 refine Zm ZL (Zg q0 (Zg q1 Zu)) mixed {} (fn:=Tryz.f102) Tryz.func102 (by kernel_rfl) (by kernel_rfl) ?_
 rintro ⟨list0,a0,b0,⟨⟩⟩ K ⟨r,h,hK⟩
 change Xh list0 a0 b0=some r at h
 unfold Xh at h
 conv=>whnf
 refine Ze h (fun waveOf0 hb0 h=>?_)
 conv=>whnf
 refine Ze h (fun waveOf1 hb1 h=>?_)
 conv=>whnf
 refine Ze h (fun gcd0 hb2 h=>?_)
 conv=>whnf
 refine Yk h (fun hp3 h=>?_)
 conv=>whnf
 cases h
 exact hK
theorem w32 (q1:Sq 159 c29) (q0:Sq 229 c30) (q2:Sq 52 c31):Sq 187 c32:=by
 refine Zm ZL (Zg q1 (Zg q0 (Zg q2 Zu))) mixed {} (fn:=Tryz.f187) Tryz.func187 (by kernel_rfl) (by kernel_rfl) ?_
 rintro ⟨a0,a1,⟨⟩⟩ K ⟨r,h,hK⟩
 change Va a0 a1=some r at h
 unfold Va at h
 conv=>whnf
 refine vAt h (fun x0 he0a he0b he0x h=>?_)
 conv=>whnf
 refine ZcV h (fun h=>?_) (fun h=>?_)
 conv=>whnf
 cases h
 exact hK
 conv=>whnf
 refine ZcV h (fun h=>?_) (fun h=>?_)
 conv=>whnf
 cases h
 exact hK
 conv=>whnf
 refine ZcV h (fun h=>?_) (fun h=>?_)
 conv=>whnf
 cases h
 exact hK
 conv=>whnf
 refine ZcV h (fun h=>?_) (fun h=>?_)
 conv=>whnf
 cases h
 exact hK
 conv=>whnf
 refine Ze h (fun within0 hb1 h=>?_)
 conv=>whnf
 refine Yc ?_
 refine Qn h (fun h=>?_) (fun h=>?_)
 conv=>whnf
 refine ZG h (fun h=>?_) (fun h=>?_)
 conv=>whnf
 refine Ze h (fun isPrimary0 hb2 h=>?_)
 conv=>whnf
 cases h
 exact hK
 conv=>whnf
 refine Ze h (fun within1 hb3 h=>?_)
 conv=>whnf
 refine Qn h (fun h=>?_) (fun h=>?_)
 conv=>whnf
 refine Ze h (fun within2 hb4 h=>?_)
 conv=>whnf
 refine Qn h (fun h=>?_) (fun h=>?_)
 conv=>whnf
 refine ZG h (fun h=>?_) (fun h=>?_)
 conv=>whnf
 refine ZG h (fun h=>?_) (fun h=>?_)
 conv=>whnf
 refine ZG h (fun h=>?_) (fun h=>?_)
 conv=>whnf
 refine Ze h (fun waveOf0 hb5 h=>?_)
 conv=>whnf
 cases h
 exact hK
 conv=>whnf
 cases h
 exact hK
 conv=>whnf
 cases h
 exact hK
 conv=>whnf
 cases h
 exact hK
 conv=>whnf
 cases h
 exact hK
 conv=>whnf
 cases h
 exact hK
 conv=>whnf
 cases h
 exact hK
theorem w_laws_FnRelation (q4:Sq 9 c0) (q0:Sq 10 c28) (q1:Sq 11 c54) (q2:Sq 12 c66) (q3:Sq 13 c67):Sq 3 Jz:=by
 refine Zm ZL (Zg q4 (Zg q0 (Zg q1 (Zg q2 (Zg q3 Zu))))) mixed {} (fn:=Tryz.f3) Tryz.func3 (by kernel_rfl) (by kernel_rfl) ?_
 rintro ⟨a0,⟨⟩⟩ K ⟨r,h,hK⟩
 change Qs a0=some r at h
 unfold Qs at h
 conv=>whnf
 refine Ze h (fun big0 hb0 h=>?_)
 conv=>whnf
 refine Qn h (fun h=>?_) (fun h=>?_)
 conv=>whnf
 cases h
 exact hK
 conv=>whnf
 refine Ze h (fun DrawRelationOf0 hb1 h=>?_)
 conv=>whnf
 intro fp2
 conv=>whnf
 refine Ze h (fun RelationOf0 hb3 h=>?_)
 conv=>whnf
 refine Ze h (fun RelationOf1 hb4 h=>?_)
 conv=>whnf
 refine Yc ?_
 refine ZG h (fun h=>?_) (fun h=>?_)
 conv=>whnf
 refine Yc ?_
 refine ZG h (fun h=>?_) (fun h=>?_)
 conv=>whnf
 refine Ze h (fun RelationOf2 hb5 h=>?_)
 conv=>whnf
 refine Ze h (fun WaveOf0 hb6 h=>?_)
 conv=>whnf
 refine ZG h (fun h=>?_) (fun h=>?_)
 conv=>whnf
 refine ZG h (fun h=>?_) (fun h=>?_)
 conv=>whnf
 refine ZG h (fun h=>?_) (fun h=>?_)
 conv=>whnf
 refine ZG h (fun h=>?_) (fun h=>?_)
 conv=>whnf
 refine ZG h (fun h=>?_) (fun h=>?_)
 conv=>whnf
 refine ZG h (fun h=>?_) (fun h=>?_)
 conv=>whnf
 cases h
 exact hK
 conv=>whnf
 cases h
 exact hK
 conv=>whnf
 cases h
 exact hK
 conv=>whnf
 cases h
 exact hK
 conv=>whnf
 cases h
 exact hK
 conv=>whnf
 cases h
 exact hK
 conv=>whnf
 cases h
 exact hK
 conv=>whnf
 cases h
 exact hK
 conv=>whnf
 cases h
 exact hK
theorem w0:Sq 9 c0:=by
 refine Zm ZL Zu mixed {} (fn:=Tryz.f9) Tryz.func9 (by kernel_rfl) (by kernel_rfl) ?_
 rintro ⟨code0,⟨⟩⟩ K ⟨r,h,hK⟩
 change ZbE code0=some r at h
 unfold ZbE at h
 conv=>whnf
 cases h
 exact hK
theorem w41 (q0:Sq 231 c40):Sq 189 c41:=by
 refine Zm ZL (Zg q0 Zu) mixed {} (fn:=Tryz.f189) Tryz.func189 (by kernel_rfl) (by kernel_rfl) ?_
 rintro ⟨s0,f0,⟨⟩⟩ K ⟨r,h,hK⟩
 change Zt s0 f0=some r at h
 unfold Zt at h
 conv=>whnf
 refine Ze h (fun c1_0 hb0 h=>?_)
 conv=>whnf
 cases h
 exact hK
theorem w40 (q0:Sq 190 c39):Sq 231 c40:=by
 refine Zm ZL (Zg q0 Zu) mixed {loops:=[(0,[.reg 8 (.dat Iq)])]} (fn:=Tryz.f231) Tryz.func231 (by kernel_rfl) (by kernel_rfl) ?_
 rintro ⟨s0,f0,⟨⟩⟩ K ⟨r,h,hK⟩
 change Zq s0 f0=some r at h
 unfold Zq at h
 conv=>whnf
 refine YH h ?_
 rintro I0 μ0 ⟨v0,⟨⟩⟩ zs0 h hI0 hR0
 change Zr s0 f0 v0=some zs0 at h
 unfold Zr at h
 conv=>whnf
 refine ZG h (fun h=>?_) (fun h=>?_)
 conv=>whnf
 refine vAt h (fun x0 he1a he1b he1x h=>?_)
 conv=>whnf
 refine Ze h (fun c1_0 hb2 h=>?_)
 conv=>whnf
 refine Qn h (fun h=>?_) (fun h=>?_)
 conv=>whnf
 cases h
 obtain rfl:=hR0 _ rfl
 exact hK
 conv=>whnf
 cases h
 exact ⟨⟨rfl,rfl⟩,hI0 _ rfl⟩
 conv=>whnf
 cases h
 obtain rfl:=hR0 _ rfl
 exact hK
theorem w66 (q0:Sq 48 c62) (q1:Sq 49 c63) (q2:Sq 50 c65):Sq 12 c66:=by
 refine Zm ZL (Zg q0 (Zg q1 (Zg q2 Zu))) mixed {} (fn:=Tryz.f12) Tryz.func12 (by kernel_rfl) (by kernel_rfl) ?_
 rintro ⟨s0,from0,to0,⟨⟩⟩ K ⟨r,h,hK⟩
 change XK s0 from0 to0=some r at h
 unfold XK at h
 conv=>whnf
 refine Ze h (fun SetupSeparation0 hb0 h=>?_)
 conv=>whnf
 refine Yc ?_
 refine ZG h (fun h=>?_) (fun h=>?_)
 conv=>whnf
 refine Ze h (fun HoldSeparation0 hb1 h=>?_)
 conv=>whnf
 refine Ze h (fun UncertaintyOf0 hb2 h=>?_)
 conv=>whnf
 cases h
 exact hK
 conv=>whnf
 cases h
 exact hK
theorem w21:Sq 114 c21:=by
 refine Zm ZL Zu mixed {} (fn:=Tryz.f114) Tryz.func114 (by kernel_rfl) (by kernel_rfl) ?_
 rintro ⟨n0,low0,high0,⟨⟩⟩ K ⟨r,h,hK⟩
 change Yd n0 low0 high0=some r at h
 unfold Yd at h
 conv=>whnf
 refine ZG h (fun h=>?_) (fun h=>?_)
 conv=>whnf
 cases h
 exact hK
 conv=>whnf
 cases h
 exact hK
theorem Zcs (rec0:Int→Option (List UInt8)) (hrec:Sq 163 (QJ rec0)):Sq 163 (QJ (ZN rec0)):=by
 refine Zm ZL (Zg hrec Zu) mixed {draws:=[(5,[0,1,3,0,8,24,56,120,248,511,1023],.op 0 (.op 1 (.op 3 (.op 4 (.op 5 (.alt 2 (.alt 6 (.alt 7 (.alt 8 (.op 9 (.op 10 (.done))) (.done)) (.done)) (.done)) (.alt 6 (.alt 2 (.alt 7 (.alt 8 (.op 9 (.op 10 (.done))) (.done)) (.done)) (.alt 7 (.alt 2 (.alt 8 (.op 9 (.op 10 (.done))) (.done)) (.alt 8 (.alt 2 (.op 9 (.op 10 (.done))) (.done)) (.done))) (.done))) (.done))))))))]} (fn:=Tryz.f163) Tryz.func163 (by kernel_rfl) (by kernel_rfl) ?_
 rintro ⟨n0,⟨⟩⟩ K ⟨r,h,hK⟩
 change ZN rec0 n0=some r at h
 unfold ZN at h
 conv=>whnf
 refine ZG h (fun h=>?_) (fun h=>?_)
 conv=>whnf
 refine Ze h (fun r0 hb0 h=>?_)
 conv=>whnf
 refine Yk h (fun hp1 h=>?_)
 conv=>whnf
 cases h
 exact hK
 conv=>whnf
 refine ZG h (fun h=>?_) (fun h=>?_)
 conv=>whnf
 cases h
 exact hK
 focus
  conv=>whnf
  refine ⟨by kernel_rfl,?_⟩
  conv=>whnf
  refine ⟨by decide,?_⟩
  conv=>whnf
  refine ⟨by decide,?_⟩
  conv=>whnf
  obtain ⟨r0,hb2,h⟩:=Option.bind_eq_some_iff.1 h
  obtain ⟨hp3,h⟩:=guardE h
  refine ⟨?_,?_⟩
  rotate_left
  focus
   conv=>whnf
   refine ⟨?_,?_⟩
   rotate_left
   focus
    conv=>whnf
    refine ⟨?_,?_⟩
    rotate_left
    focus
     conv=>whnf
     refine ⟨_,hb2,?_⟩
     conv=>whnf
     refine ⟨hp3,?_⟩
     conv=>whnf
     refine ⟨trivial,?_⟩
    rotate_right
    focus
     conv=>whnf
     refine ⟨_,hb2,?_⟩
     conv=>whnf
     refine ⟨hp3,?_⟩
     conv=>whnf
     refine ⟨trivial,?_⟩
   rotate_right
   focus
    conv=>whnf
    refine ⟨_,hb2,?_⟩
    conv=>whnf
    refine ⟨hp3,?_⟩
    conv=>whnf
    refine ⟨trivial,?_⟩
  rotate_right
  focus
   conv=>whnf
   refine ⟨_,hb2,?_⟩
   conv=>whnf
   refine ⟨hp3,?_⟩
   conv=>whnf
   refine ⟨trivial,?_⟩
  all_goals
   conv=>whnf
   cases h
   exact hK
theorem w11:Sq 163 c11:=by
 have hn:∀ n,Sq 163 (QJ (Yp n)):=by
  intro n
  induction n with
  | zero =>
  refine Zm ZL Zu mixed {draws:=[(5,[0,1,3,0,8,24,56,120,248,511,1023],.op 0 (.op 1 (.op 3 (.op 4 (.op 5 (.alt 2 (.alt 6 (.alt 7 (.alt 8 (.op 9 (.op 10 (.done))) (.done)) (.done)) (.done)) (.alt 6 (.alt 2 (.alt 7 (.alt 8 (.op 9 (.op 10 (.done))) (.done)) (.done)) (.alt 7 (.alt 2 (.alt 8 (.op 9 (.op 10 (.done))) (.done)) (.alt 8 (.alt 2 (.op 9 (.op 10 (.done))) (.done)) (.done))) (.done))) (.done))))))))]} (fn:=Tryz.f163) Tryz.func163 (by kernel_rfl) (by kernel_rfl) ?_
  rintro ⟨n0,⟨⟩⟩ K ⟨r,h,hK⟩
  cases h
  | succ n ih=>exact Zcs _ ih
 refine ⟨(hn 0).1,?_⟩
 rintro w S vs ⟨n0,⟨⟩⟩ fp K h1 h2 h3 h4 ⟨r,h,hK⟩
 obtain ⟨n,hr⟩:=ZdB h
 exact (hn n).2 w S vs _ fp K h1 h2 h3 h4 ⟨r,hr,hK⟩
theorem w4 (q0:Sq 44 c2):Sq 319 c4:=by
 refine Zm ZL (Zg q0 Zu) mixed {loops:=[(0,[.reg 5 (.own (.ol 2 (.flat Iq))),.reg 6 (.dat Iq),.reg 7 (.dat Iq),.cell 0 0 (.sl (.int .u8)),.cell 0 1 Iq,.cell 0 2 Iq])]} (fn:=Tryz.f319) Tryz.func319 (by kernel_rfl) (by kernel_rfl) ?_
 rintro ⟨s0,step0,⟨⟩⟩ K ⟨r,h,hK⟩
 change YU s0 step0=some r at h
 unfold YU at h
 conv=>whnf
 refine Ze h (fun l01Next0 hb0 h=>?_)
 conv=>whnf
 refine Ze h (fun l01Next1 hb1 h=>?_)
 conv=>whnf
 refine YH h ?_
 rintro I2 μ2 ⟨out0,at0,n0,c0,c1,c2,⟨⟩⟩ zs2 h hI2 hR2
 change Yv step0 out0 at0 n0 c0 c1 c2=some zs2 at h
 unfold Yv at h
 conv=>whnf
 refine ZG h (fun h=>?_) (fun h=>?_)
 conv=>whnf
 refine Yk h (fun hp3 h=>?_)
 conv=>whnf
 refine Ze h (fun l01Next2 hb4 h=>?_)
 conv=>whnf
 cases h
 exact ⟨⟨rfl,rfl⟩,hI2 _ rfl⟩
 conv=>whnf
 cases h
 obtain rfl:=hR2 _ rfl
 exact hK
theorem w16:Sq 161 c16:=by
 refine Zm ZL Zu mixed {} (fn:=Tryz.f161) Tryz.func161 (by kernel_rfl) (by kernel_rfl) ?_
 rintro ⟨list0,⟨⟩⟩ K ⟨r,h,hK⟩
 change XT list0=some r at h
 unfold XT at h
 conv=>whnf
 refine Yk h (fun hp0 h=>?_)
 conv=>whnf
 cases h
 exact hK
theorem w14 (q0:Sq 96 c13):Sq 139 c14:=by
 refine Zm ZL (Zg q0 Zu) mixed {loops:=[(0,[.reg 5 (.own (.ol 2 (.flat Iq))),.reg 7 (.dat Iq)])]} (fn:=Tryz.f139) Tryz.func139 (by kernel_rfl) (by kernel_rfl) ?_
 rintro ⟨d0,net0,⟨⟩⟩ K ⟨r,h,hK⟩
 change QT d0 net0=some r at h
 unfold QT at h
 conv=>whnf
 refine Ze h (fun l05Places0 hb0 h=>?_)
 conv=>whnf
 refine YH h ?_
 rintro I1 μ1 ⟨out0,i0,⟨⟩⟩ zs1 h hI1 hR1
 change Xc net0 l05Places0 out0 i0=some zs1 at h
 unfold Xc at h
 conv=>whnf
 refine ZG h (fun h=>?_) (fun h=>?_)
 conv=>whnf
 refine vAt h (fun x0 he2a he2b he2x h=>?_)
 conv=>whnf
 refine ⟨by kernel_rfl,?_⟩
 conv=>whnf
 refine ⟨he2a,he2b,Zh he2x ?_⟩
 conv=>whnf
 refine ZG h (fun h=>?_) (fun h=>?_)
 conv=>whnf
 refine ⟨he2a,he2b,Zh he2x ?_⟩
 conv=>whnf
 refine ⟨by kernel_rfl,?_⟩
 conv=>whnf
 refine ⟨he2a,he2b,Zh he2x ?_⟩
 conv=>whnf
 refine Yc ?_
 refine Qn h (fun h=>?_) (fun h=>?_)
 conv=>whnf
 cases h
 exact ⟨⟨rfl,rfl⟩,hI1 _ rfl⟩
 conv=>whnf
 refine Yk h (fun hp3 h=>?_)
 conv=>whnf
 cases h
 exact ⟨⟨rfl,rfl⟩,hI1 _ rfl⟩
 conv=>whnf
 cases h
 exact ⟨⟨rfl,rfl⟩,hI1 _ rfl⟩
 conv=>whnf
 cases h
 obtain rfl:=hR1 _ rfl
 exact hK
theorem w17 (q1:Sq 44 c2) (q0:Sq 219 c15) (q2:Sq 161 c16):Sq 164 c17:=by
 refine Zm ZL (Zg q1 (Zg q0 (Zg q2 Zu))) mixed {loops:=[(0,[.reg 6 (.dat Iq),.cell 1000 0 (.sl (.int .u8)),.cell 1000 1 Iq,.cell 1000 2 Iq,.cello 1005 0 (.ol (nat_lit 2) (.flat (Ty.int IntKind.i64))),.cello 1005 1 (.ol (nat_lit 2) (.flat (Ty.int IntKind.i64))),.cello 1005 2 (.ol (nat_lit 2) (.flat (Ty.int IntKind.i64))),.cello 1005 3 (.ol (nat_lit 2) (.flat (Ty.int IntKind.i64)))]),(2,[.reg 8 (.dat Iq),.cell 1000 0 (.sl (.int .u8)),.cell 1000 1 Iq,.cell 1000 2 Iq,.ent 10 (nat_lit 2) (.flat (Ty.int IntKind.i64))])],draws:=[(6,[0,1,3,0,0,31,63,127,0,256,1023,0,4095,8191,16383,0,32768,131071,0,524287,1048575,2097151,0,4194304,16777215,33554431],.op 0 (.op 1 (.op 3 (.op 4 (.op 8 (.op 11 (.op 15 (.op 18 (.op 22 (.ld 9 (.ld 16 (.ld 23 (.alt 2 (.alt 5 (.alt 6 (.alt 7 (.alt 10 (.alt 12 (.alt 13 (.alt 14 (.alt 17 (.alt 19 (.alt 20 (.alt 21 (.op 24 (.alt 25 (.done) (.done))) (.done)) (.done)) (.done)) (.done)) (.done)) (.done)) (.done)) (.done)) (.done)) (.done)) (.done)) (.done)))))))))))))),(10,[0,1,0,0,0,16,48,120,255,511],.op 0 (.op 2 (.op 3 (.op 4 (.op 5 (.op 6 (.ld 1 (.alt 7 (.op 8 (.alt 9 (.done) (.done))) (.done)))))))))]} (fn:=Tryz.f164) Tryz.func164 (by kernel_rfl) (by kernel_rfl) ?_
 rintro ⟨s0,sinks0,⟨⟩⟩ K ⟨r,h,hK⟩
 change Xi s0 sinks0=some r at h
 unfold Xi at h
 conv=>whnf
 refine Ze h (fun l01Next0 hb0 h=>?_)
 conv=>whnf
 refine Ze h (fun l07Lumped0 hb1 h=>?_)
 conv=>whnf
 refine Ze h (fun l01Next1 hb2 h=>?_)
 conv=>whnf
 refine YH h ?_
 rintro I3 μ3 ⟨n0,c0,c1,c2,c3,c4,c5,c6,⟨⟩⟩ zs3 h hI3 hR3
 change Yx n0 c0 c1 c2 c3 c4 c5 c6=some zs3 at h
 unfold Yx at h
 conv=>whnf
 refine ZG h (fun h=>?_) (fun h=>?_)
 conv=>whnf
 refine ⟨by kernel_rfl,?_⟩
 conv=>whnf
 refine ⟨by kernel_rfl,?_⟩
 conv=>whnf
 refine ⟨by kernel_rfl,?_⟩
 conv=>whnf
 refine ⟨by kernel_rfl,?_⟩
 conv=>whnf
 refine Ze h (fun l02Ints0 hb4 h=>?_)
 conv=>whnf
 refine ⟨by kernel_rfl,?_⟩
 conv=>whnf
 refine Ze h (fun l01Next2 hb5 h=>?_)
 conv=>whnf
 refine ⟨by kernel_rfl,?_⟩
 conv=>whnf
 refine Yk h (fun hp6 h=>?_)
 conv=>whnf
 refine Ze h (fun l02Ints1 hb7 h=>?_)
 conv=>whnf
 refine ⟨by kernel_rfl,?_⟩
 conv=>whnf
 refine Ze h (fun l01Next3 hb8 h=>?_)
 conv=>whnf
 refine ⟨by kernel_rfl,?_⟩
 conv=>whnf
 refine Yk h (fun hp9 h=>?_)
 conv=>whnf
 refine Ze h (fun l02Ints2 hb10 h=>?_)
 conv=>whnf
 refine ⟨by kernel_rfl,?_⟩
 conv=>whnf
 refine Ze h (fun l01Next4 hb11 h=>?_)
 conv=>whnf
 refine ⟨by kernel_rfl,?_⟩
 conv=>whnf
 refine Yk h (fun hp12 h=>?_)
 conv=>whnf
 refine ⟨trivial,?_⟩
 conv=>whnf
 cases h
 exact ⟨⟨rfl,rfl⟩,hI3 _ rfl⟩
 conv=>whnf
 refine YH h ?_
 rintro I13 μ13 ⟨i0,c7,c8,c9,l0,⟨⟩⟩ zs13 h hI13 hR13
 change Yw c3 c4 c5 i0 c7 c8 c9 l0=some zs13 at h
 unfold Yw at h
 conv=>whnf
 refine ZG h (fun h=>?_) (fun h=>?_)
 conv=>whnf
 refine ⟨by kernel_rfl,?_⟩
 conv=>whnf
 refine ⟨by kernel_rfl,?_⟩
 conv=>whnf
 refine ⟨by kernel_rfl,?_⟩
 conv=>whnf
 refine Ze h (fun l01Next2 hb14 h=>?_)
 conv=>whnf
 refine vAt h (fun x0 he15a he15b he15x h=>?_)
 conv=>whnf
 refine ⟨by kernel_rfl,?_⟩
 conv=>whnf
 refine ⟨by kernel_rfl,?_⟩
 conv=>whnf
 refine ⟨by decide,?_⟩
 conv=>whnf
 refine ⟨he15a,he15b,Zh he15x ?_⟩
 conv=>whnf
 refine ⟨trivial,?_⟩
 conv=>whnf
 cases h
 exact ⟨⟨rfl,rfl⟩,hI13 _ rfl⟩
 conv=>whnf
 cases h
 obtain rfl:=hR13 _ rfl
 obtain rfl:=hR3 _ rfl
 exact hK
theorem w15:Sq 219 c15:=by
 refine Zm ZL Zu mixed {} (fn:=Tryz.f219) Tryz.func219 (by kernel_rfl) (by kernel_rfl) ?_
 rintro ⟨sinks0,load0,⟨⟩⟩ K ⟨r,h,hK⟩
 change Qi sinks0 load0=some r at h
 unfold Qi at h
 conv=>whnf
 refine Yk h (fun hp0 h=>?_)
 conv=>whnf
 refine Yk h (fun hp1 h=>?_)
 conv=>whnf
 refine Yk h (fun hp2 h=>?_)
 conv=>whnf
 refine Yk h (fun hp3 h=>?_)
 conv=>whnf
 cases h
 exact hK
theorem w60 (q0:Sq 228 c59):Sq 186 c60:=by
 refine Zm ZL (Zg q0 Zu) mixed {draws:=[(1,[0,0,0,6,0,30,0,64,254,0,512,2046,0,4096,16382,32767,65535],.op 0 (.op 1 (.op 2 (.op 4 (.op 6 (.op 7 (.op 9 (.op 10 (.op 12 (.op 13 (.alt 3 (.op 5 (.op 8 (.op 11 (.op 14 (.op 15 (.op 16 (.done))))))) (.done))))))))))))]} (fn:=Tryz.f186) Tryz.func186 (by kernel_rfl) (by kernel_rfl) ?_
 rintro ⟨w0,edge0,time0,⟨⟩⟩ K ⟨r,h,hK⟩
 change X6 w0 edge0 time0=some r at h
 unfold X6 at h
 conv=>whnf
 refine ⟨by kernel_rfl,?_⟩
 conv=>whnf
 refine Ze h (fun l14Edge0 hb0 h=>?_)
 conv=>whnf
 refine Yk h (fun hp1 h=>?_)
 conv=>whnf
 refine ⟨hp1,?_⟩
 conv=>whnf
 refine ⟨trivial,?_⟩
 conv=>whnf
 cases h
 exact hK
theorem ZfK (rec0:(List Zb)→Int→Option Zx) (hrec:Sq 106 (V3 rec0)):Sq 106 (V3 (QC rec0)):=by
 refine Zm ZL (Zg hrec Zu) mixed {} (fn:=Tryz.f106) Tryz.func106 (by kernel_rfl) (by kernel_rfl) ?_
 rintro ⟨list0,k0,⟨⟩⟩ K ⟨r,h,hK⟩
 change QC rec0 list0 k0=some r at h
 unfold QC at h
 conv=>whnf
 refine vAt h (fun x0 he0a he0b he0x h=>?_)
 conv=>whnf
 refine ZG h (fun h=>?_) (fun h=>?_)
 conv=>whnf
 cases h
 exact hK
 conv=>whnf
 refine Ze h (fun r0 hb1 h=>?_)
 conv=>whnf
 refine ZG h (fun h=>?_) (fun h=>?_)
 conv=>whnf
 refine ⟨by decide,?_⟩
 conv=>whnf
 refine Qn h (fun h=>?_) (fun h=>?_)
 conv=>whnf
 cases h
 exact hK
 conv=>whnf
 cases h
 exact hK
 conv=>whnf
 refine Qn h (fun h=>?_) (fun h=>?_)
 conv=>whnf
 cases h
 exact hK
 conv=>whnf
 cases h
 exact hK
theorem w24:Sq 106 c24:=by
 have hn:∀ n,Sq 106 (V3 (QD n)):=by
  intro n
  induction n with
  | zero =>
  refine Zm ZL Zu mixed {} (fn:=Tryz.f106) Tryz.func106 (by kernel_rfl) (by kernel_rfl) ?_
  rintro ⟨list0,k0,⟨⟩⟩ K ⟨r,h,hK⟩
  cases h
  | succ n ih=>exact ZfK _ ih
 refine ⟨(hn 0).1,?_⟩
 rintro w S vs ⟨list0,k0,⟨⟩⟩ fp K h1 h2 h3 h4 ⟨r,h,hK⟩
 obtain ⟨n,hr⟩:=ZdB h
 exact (hn n).2 w S vs _ fp K h1 h2 h3 h4 ⟨r,hr,hK⟩
theorem w23 (q0:Sq 114 c21):Sq 225 c23:=by
 refine Zm ZL (Zg q0 Zu) mixed {} (fn:=Tryz.f225) Tryz.func225 (by kernel_rfl) (by kernel_rfl) ?_
 rintro ⟨c0,⟨⟩⟩ K ⟨r,h,hK⟩
 change XM c0=some r at h
 unfold XM at h
 conv=>whnf
 refine Ze h (fun l01In0 hb0 h=>?_)
 conv=>whnf
 refine Qn h (fun h=>?_) (fun h=>?_)
 conv=>whnf
 refine Ze h (fun l01In1 hb1 h=>?_)
 conv=>whnf
 refine Qn h (fun h=>?_) (fun h=>?_)
 conv=>whnf
 refine Ze h (fun l01In2 hb2 h=>?_)
 conv=>whnf
 refine Qn h (fun h=>?_) (fun h=>?_)
 conv=>whnf
 refine Yc ?_
 refine ZG h (fun h=>?_) (fun h=>?_)
 conv=>whnf
 cases h
 exact hK
 conv=>whnf
 refine ZG h (fun h=>?_) (fun h=>?_)
 conv=>whnf
 cases h
 exact hK
 conv=>whnf
 cases h
 exact hK
 conv=>whnf
 cases h
 exact hK
 conv=>whnf
 cases h
 exact hK
 conv=>whnf
 cases h
 exact hK
theorem w61 (q0:Sq 185 c57) (q2:Sq 106 c24) (q1:Sq 186 c60):Sq 105 c61:=by
 refine Zm VX (Zg q0 (Zg q2 (Zg q1 Zu))) mixed {loops:=[(0,[.reg 11 (.own (.ol 51 (.ol 2 (.flat Iq)))),.reg 15 (.dat Iq)])]} (fn:=Tryz.f105) Tryz.func105 (by kernel_rfl) (by kernel_rfl) ?_
 rintro ⟨list0,a0,ea0,b0,eb0,⟨⟩⟩ K ⟨r,h,hK⟩
 change X8 list0 a0 ea0 b0 eb0=some r at h
 unfold X8 at h
 conv=>whnf
 intro fp0
 conv=>whnf
 refine Ze h (fun l14Hyper0 hb1 h=>?_)
 conv=>whnf
 refine Ze h (fun l14Of0 hb2 h=>?_)
 conv=>whnf
 refine Ze h (fun l14Of1 hb3 h=>?_)
 conv=>whnf
 refine Ze h (fun l14After0 hb4 h=>?_)
 conv=>whnf
 refine YH h ?_
 rintro I5 μ5 ⟨out0,at0,⟨⟩⟩ zs5 h hI5 hR5
 change X9 eb0 l14Hyper0 l14Of0 l14Of1 out0 at0=some zs5 at h
 unfold X9 at h
 conv=>whnf
 intro fp6
 conv=>whnf
 refine ZG h (fun h=>?_) (fun h=>?_)
 conv=>whnf
 refine Ze h (fun l14After1 hb7 h=>?_)
 conv=>whnf
 intro fp8
 conv=>whnf
 refine Yk h (fun hp9 h=>?_)
 conv=>whnf
 intro fp10
 conv=>whnf
 cases h
 exact ⟨⟨rfl,rfl⟩,hI5 _ rfl⟩
 conv=>whnf
 cases h
 obtain rfl:=hR5 _ rfl
 exact hK
theorem w27 (q0:Sq 99 c26) (q1:Sq 44 c2):Sq 43 c27:=by
 refine Zm VX (Zg q0 (Zg q1 Zu)) mixed {draws:=[(4,[0,1,0,0,8,28,60,127,255,511],.op 0 (.op 3 (.ld 1 (.alt 2 (.alt 4 (.op 5 (.op 6 (.op 7 (.op 8 (.alt 9 (.done) (.done)))))) (.done)) (.alt 4 (.alt 2 (.op 5 (.op 6 (.op 7 (.op 8 (.alt 9 (.done) (.done)))))) (.done)) (.done)))))),(7,[0,1,0,0,8,28,60,127,255,511],.op 0 (.op 3 (.ld 1 (.alt 2 (.alt 4 (.op 5 (.op 6 (.op 7 (.op 8 (.alt 9 (.done) (.done)))))) (.done)) (.alt 4 (.alt 2 (.op 5 (.op 6 (.op 7 (.op 8 (.alt 9 (.done) (.done)))))) (.done)) (.done)))))),(10,[0,1,0,4,12,28,60,124,252,511,1023,2047,4095],.op 0 (.op 1 (.op 2 (.op 3 (.op 4 (.op 5 (.op 6 (.op 7 (.op 8 (.op 9 (.op 10 (.op 11 (.alt 12 (.done) (.done)))))))))))))),(15,[0,1,0,4,12,28,60,127,255,511],.op 0 (.op 1 (.op 2 (.op 3 (.op 4 (.op 5 (.alt 6 (.alt 7 (.op 8 (.alt 9 (.done) (.done))) (.done)) (.done)))))))),(20,[0,1,0,4,12,28,60,127,255,511],.op 0 (.op 1 (.op 2 (.op 3 (.op 4 (.op 5 (.alt 6 (.alt 7 (.op 8 (.alt 9 (.done) (.done))) (.done)) (.done)))))))),(23,[0,0,1,7],.op 0 (.alt 1 (.alt 2 (.alt 3 (.done) (.done)) (.done)) (.alt 2 (.alt 1 (.alt 3 (.done) (.done)) (.done)) (.done))))]} (fn:=Tryz.f43) Tryz.func43 (by kernel_rfl) (by kernel_rfl) ?_
 rintro ⟨a0,⟨⟩⟩ K ⟨r,h,hK⟩
 change XO a0=some r at h
 unfold XO at h
 conv=>whnf
 refine Ze h (fun l31Draw0 hb0 h=>?_)
 conv=>whnf
 intro fp1
 conv=>whnf
 intro fp2
 conv=>whnf
 intro fp3
 conv=>whnf
 intro fp4
 conv=>whnf
 refine Ze h (fun l01Next0 hb5 h=>?_)
 conv=>whnf
 refine ZG h (fun h=>?_) (fun h=>?_)
 focus
  conv=>whnf
  refine ⟨by kernel_rfl,?_⟩
  conv=>whnf
  refine ⟨by kernel_rfl,?_⟩
  conv=>whnf
  obtain ⟨l01Next1,hb6,h⟩:=Option.bind_eq_some_iff.1 h
  obtain ⟨x0,he7a,he7b,he7x,h⟩:=atE h
  obtain ⟨x1,he8a,he8b,he8x,h⟩:=atE h
  refine ⟨?_,?_⟩
  rotate_left
  focus
   conv=>whnf
   refine ⟨by kernel_rfl,?_⟩
   conv=>whnf
   refine ⟨_,hb6,?_⟩
   conv=>whnf
   refine ⟨he7a,he7b,Zh he7x ?_⟩
   conv=>whnf
   refine ⟨by kernel_rfl,?_⟩
   conv=>whnf
   refine ⟨he7a,he7b,Zh he7x ?_⟩
   conv=>whnf
   refine ⟨he8a,he8b,Zh he8x ?_⟩
   conv=>whnf
   refine ⟨by kernel_rfl,?_⟩
   conv=>whnf
   refine ⟨by decide,?_⟩
   conv=>whnf
   refine ⟨he8a,he8b,Zh he8x ?_⟩
   conv=>whnf
   refine ⟨trivial,?_⟩
  rotate_right
  focus
   conv=>whnf
   refine ⟨by kernel_rfl,?_⟩
   conv=>whnf
   refine ⟨_,hb6,?_⟩
   conv=>whnf
   refine ⟨he7a,he7b,Zh he7x ?_⟩
   conv=>whnf
   refine ⟨by kernel_rfl,?_⟩
   conv=>whnf
   refine ⟨he7a,he7b,Zh he7x ?_⟩
   conv=>whnf
   refine ⟨he8a,he8b,Zh he8x ?_⟩
   conv=>whnf
   refine ⟨by kernel_rfl,?_⟩
   conv=>whnf
   refine ⟨by decide,?_⟩
   conv=>whnf
   refine ⟨he8a,he8b,Zh he8x ?_⟩
   conv=>whnf
   refine ⟨trivial,?_⟩
  all_goals
   focus
    conv=>whnf
    refine ⟨by kernel_rfl,?_⟩
    conv=>whnf
    refine ⟨?_,?_⟩
    rotate_left
    focus
     conv=>whnf
     refine ⟨trivial,?_⟩
    rotate_right
    focus
     conv=>whnf
     refine ⟨trivial,?_⟩
    all_goals
     conv=>whnf
     cases h
     exact hK
 conv=>whnf
 refine ZG h (fun h=>?_) (fun h=>?_)
 conv=>whnf
 refine ZG h (fun h=>?_) (fun h=>?_)
 focus
  conv=>whnf
  refine ⟨by kernel_rfl,?_⟩
  conv=>whnf
  refine ⟨by kernel_rfl,?_⟩
  conv=>whnf
  obtain ⟨l01Next1,hb9,h⟩:=Option.bind_eq_some_iff.1 h
  obtain ⟨x0,he10a,he10b,he10x,h⟩:=atE h
  obtain ⟨x1,he11a,he11b,he11x,h⟩:=atE h
  refine ⟨?_,?_⟩
  rotate_left
  focus
   conv=>whnf
   refine ⟨by kernel_rfl,?_⟩
   conv=>whnf
   refine ⟨_,hb9,?_⟩
   conv=>whnf
   refine ⟨he10a,he10b,Zh he10x ?_⟩
   conv=>whnf
   refine ⟨by kernel_rfl,?_⟩
   conv=>whnf
   refine ⟨he10a,he10b,Zh he10x ?_⟩
   conv=>whnf
   refine ⟨he11a,he11b,Zh he11x ?_⟩
   conv=>whnf
   refine ⟨by kernel_rfl,?_⟩
   conv=>whnf
   refine ⟨by decide,?_⟩
   conv=>whnf
   refine ⟨he11a,he11b,Zh he11x ?_⟩
   conv=>whnf
   refine ⟨trivial,?_⟩
  rotate_right
  focus
   conv=>whnf
   refine ⟨by kernel_rfl,?_⟩
   conv=>whnf
   refine ⟨_,hb9,?_⟩
   conv=>whnf
   refine ⟨he10a,he10b,Zh he10x ?_⟩
   conv=>whnf
   refine ⟨by kernel_rfl,?_⟩
   conv=>whnf
   refine ⟨he10a,he10b,Zh he10x ?_⟩
   conv=>whnf
   refine ⟨he11a,he11b,Zh he11x ?_⟩
   conv=>whnf
   refine ⟨by kernel_rfl,?_⟩
   conv=>whnf
   refine ⟨by decide,?_⟩
   conv=>whnf
   refine ⟨he11a,he11b,Zh he11x ?_⟩
   conv=>whnf
   refine ⟨trivial,?_⟩
  all_goals
   focus
    conv=>whnf
    refine ⟨by kernel_rfl,?_⟩
    conv=>whnf
    refine ⟨?_,?_⟩
    rotate_left
    focus
     conv=>whnf
     refine ⟨trivial,?_⟩
    rotate_right
    focus
     conv=>whnf
     refine ⟨trivial,?_⟩
    all_goals
     conv=>whnf
     cases h
     exact hK
 focus
  conv=>whnf
  refine ⟨by kernel_rfl,?_⟩
  conv=>whnf
  refine ⟨?_,?_⟩
  rotate_left
  focus
   conv=>whnf
   refine ⟨trivial,?_⟩
  rotate_right
  focus
   conv=>whnf
   refine ⟨trivial,?_⟩
  all_goals
   conv=>whnf
   cases h
   exact hK
 conv=>whnf
 refine ZG h (fun h=>?_) (fun h=>?_)
 conv=>whnf
 refine ZG h (fun h=>?_) (fun h=>?_)
 focus
  conv=>whnf
  refine ⟨by kernel_rfl,?_⟩
  conv=>whnf
  refine vAt h (fun x0 he12a he12b he12x h=>?_)
  conv=>whnf
  refine ⟨by kernel_rfl,?_⟩
  conv=>whnf
  refine ⟨he12a,he12b,Zh he12x ?_⟩
  conv=>whnf
  refine ⟨he12a,he12b,Zh he12x ?_⟩
  conv=>whnf
  refine ⟨by kernel_rfl,?_⟩
  conv=>whnf
  refine ⟨by decide,?_⟩
  conv=>whnf
  refine ⟨he12a,he12b,Zh he12x ?_⟩
  conv=>whnf
  refine ⟨trivial,?_⟩
  conv=>whnf
  refine ⟨by kernel_rfl,?_⟩
  conv=>whnf
  refine ⟨?_,?_⟩
  rotate_left
  focus
   conv=>whnf
   refine ⟨trivial,?_⟩
  rotate_right
  focus
   conv=>whnf
   refine ⟨trivial,?_⟩
  all_goals
   conv=>whnf
   cases h
   exact hK
 focus
  conv=>whnf
  refine ⟨by kernel_rfl,?_⟩
  conv=>whnf
  refine ⟨?_,?_⟩
  rotate_left
  focus
   conv=>whnf
   refine ⟨trivial,?_⟩
  rotate_right
  focus
   conv=>whnf
   refine ⟨trivial,?_⟩
  all_goals
   conv=>whnf
   cases h
   exact hK
 conv=>whnf
 refine ZG h (fun h=>?_) (fun h=>?_)
 conv=>whnf
 refine ZG h (fun h=>?_) (fun h=>?_)
 focus
  conv=>whnf
  refine vAt h (fun x0 he13a he13b he13x h=>?_)
  conv=>whnf
  refine ⟨by kernel_rfl,?_⟩
  conv=>whnf
  refine ⟨by decide,?_⟩
  conv=>whnf
  refine ⟨he13a,he13b,Zh he13x ?_⟩
  conv=>whnf
  refine ⟨by kernel_rfl,?_⟩
  conv=>whnf
  refine ⟨?_,?_⟩
  rotate_left
  focus
   conv=>whnf
   refine ⟨trivial,?_⟩
  rotate_right
  focus
   conv=>whnf
   refine ⟨trivial,?_⟩
  all_goals
   conv=>whnf
   cases h
   exact hK
 focus
  conv=>whnf
  refine ⟨by kernel_rfl,?_⟩
  conv=>whnf
  refine ⟨?_,?_⟩
  rotate_left
  focus
   conv=>whnf
   refine ⟨trivial,?_⟩
  rotate_right
  focus
   conv=>whnf
   refine ⟨trivial,?_⟩
  all_goals
   conv=>whnf
   cases h
   exact hK
 conv=>whnf
 refine ZG h (fun h=>?_) (fun h=>?_)
 focus
  conv=>whnf
  refine ⟨by kernel_rfl,?_⟩
  conv=>whnf
  refine vAt h (fun x0 he14a he14b he14x h=>?_)
  conv=>whnf
  refine ⟨by kernel_rfl,?_⟩
  conv=>whnf
  refine ⟨he14a,he14b,Zh he14x ?_⟩
  conv=>whnf
  refine Yk h (fun hp15 h=>?_)
  conv=>whnf
  refine ⟨trivial,?_⟩
  conv=>whnf
  refine ⟨by kernel_rfl,?_⟩
  conv=>whnf
  refine ⟨?_,?_⟩
  rotate_left
  focus
   conv=>whnf
   refine ⟨trivial,?_⟩
  rotate_right
  focus
   conv=>whnf
   refine ⟨trivial,?_⟩
  all_goals
   conv=>whnf
   cases h
   exact hK
 conv=>whnf
 refine ZG h (fun h=>?_) (fun h=>?_)
 focus
  conv=>whnf
  intro fp16
  conv=>whnf
  refine Yk h (fun hp17 h=>?_)
  conv=>whnf
  intro fp18
  conv=>whnf
  refine ⟨by kernel_rfl,?_⟩
  conv=>whnf
  refine ⟨?_,?_⟩
  rotate_left
  focus
   conv=>whnf
   refine ⟨trivial,?_⟩
  rotate_right
  focus
   conv=>whnf
   refine ⟨trivial,?_⟩
  all_goals
   conv=>whnf
   cases h
   exact hK
 conv=>whnf
 refine ZG h (fun h=>?_) (fun h=>?_)
 conv=>whnf
 refine ZG h (fun h=>?_) (fun h=>?_)
 focus
  conv=>whnf
  refine ⟨by kernel_rfl,?_⟩
  conv=>whnf
  refine vAt h (fun x0 he19a he19b he19x h=>?_)
  conv=>whnf
  refine ⟨by kernel_rfl,?_⟩
  conv=>whnf
  refine ⟨he19a,he19b,Zh he19x ?_⟩
  conv=>whnf
  refine Yk h (fun hp20 h=>?_)
  conv=>whnf
  refine ⟨trivial,?_⟩
  conv=>whnf
  refine ⟨by kernel_rfl,?_⟩
  conv=>whnf
  refine ⟨?_,?_⟩
  rotate_left
  focus
   conv=>whnf
   refine ⟨trivial,?_⟩
  rotate_right
  focus
   conv=>whnf
   refine ⟨trivial,?_⟩
  all_goals
   conv=>whnf
   cases h
   exact hK
 focus
  conv=>whnf
  refine ⟨by kernel_rfl,?_⟩
  conv=>whnf
  refine ⟨?_,?_⟩
  rotate_left
  focus
   conv=>whnf
   refine ⟨trivial,?_⟩
  rotate_right
  focus
   conv=>whnf
   refine ⟨trivial,?_⟩
  all_goals
   conv=>whnf
   cases h
   exact hK
 conv=>whnf
 refine ZG h (fun h=>?_) (fun h=>?_)
 conv=>whnf
 cases h
 exact hK
 focus
  conv=>whnf
  refine ⟨by kernel_rfl,?_⟩
  conv=>whnf
  refine ⟨?_,?_⟩
  rotate_left
  focus
   conv=>whnf
   refine ⟨trivial,?_⟩
  rotate_right
  focus
   conv=>whnf
   refine ⟨trivial,?_⟩
  all_goals
   conv=>whnf
   cases h
   exact hK
end Go.Proofs.YtnnbgbgapogckaaGreatDoor
