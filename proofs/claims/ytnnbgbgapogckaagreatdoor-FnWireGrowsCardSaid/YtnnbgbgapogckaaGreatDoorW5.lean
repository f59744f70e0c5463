/-
  The functions keep their contracts, if what they call does. Printed by program.
-/
import Derived.Test.YtnnbgbgapogckaaGreatDoorM
import Derived.KernelRfl
namespace Go.Proofs.YtnnbgbgapogckaaGreatDoor
open Go Go.Sx
set_option maxRecDepth 100000
set_option maxHeartbeats 6400000
set_option linter.unusedVariables false
set_option linter.unusedSimpArgs false
theorem ZGf (q0:Sq 119 ZBe) (q1:Sq 83 c73) (q2:Sq 191 c63) (q4:Sq 192 c79) (q5:Sq 120 ZBg) (q3:Sq 121 c138):Sq 118 ZBh:=by
 refine Zm Zn3 (Zg q0 (Zg q1 (Zg q2 (Zg q4 (Zg q5 (Zg q3 Zu)))))) mixed {draws:=[(4,[0,0,2,6,14,0,32,96,224,480,992,2016,4094,8190,16382,32767,65535,0,262143],.op 0 (.op 1 (.op 2 (.op 3 (.op 4 (.op 5 (.op 6 (.op 7 (.op 8 (.op 9 (.alt 10 (.op 11 (.alt 12 (.op 13 (.op 14 (.op 15 (.op 16 (.alt 17 (.alt 18 (.done) (.done)) (.done)))))) (.alt 17 (.alt 12 (.op 13 (.op 14 (.op 15 (.op 16 (.alt 18 (.done) (.done)))))) (.done)) (.done)))) (.alt 17 (.alt 10 (.op 11 (.alt 12 (.op 13 (.op 14 (.op 15 (.op 16 (.alt 18 (.done) (.done)))))) (.done))) (.done)) (.done))))))))))))),(6,[0,0,0,0,8,28,63],.op 0 (.op 2 (.op 3 (.op 4 (.alt 1 (.alt 5 (.alt 6 (.done) (.done)) (.done)) (.alt 5 (.alt 1 (.alt 6 (.done) (.done)) (.done)) (.done))))))),(7,[0,0,0,4,12,28,60,0,252,508,1020,2044,4092,8191],.op 0 (.op 1 (.op 2 (.op 3 (.op 4 (.op 5 (.op 6 (.op 7 (.op 8 (.op 9 (.op 10 (.op 11 (.op 12 (.alt 13 (.done) (.done))))))))))))))),(9,[0,0,2,6,14,30,0,64,192,448,960,1984,4032,8190,16383,32767,65535,131071],.op 0 (.op 1 (.op 2 (.op 3 (.op 4 (.op 5 (.op 6 (.op 7 (.op 8 (.op 9 (.op 10 (.op 11 (.op 12 (.alt 13 (.op 14 (.op 15 (.op 16 (.alt 17 (.done) (.done))))) (.done))))))))))))))),(10,[0,0,2,6,14,0,32,96,224,480,992,2046,4095,8191,16383],.op 0 (.op 1 (.op 2 (.op 3 (.op 4 (.op 5 (.op 6 (.op 7 (.op 8 (.op 9 (.op 10 (.alt 11 (.op 12 (.op 13 (.alt 14 (.done) (.done)))) (.done)))))))))))))]} (fn:=Tryz.f118) Tryz.func118 (by kernel_rfl) (by kernel_rfl) ?_
 rintro ⟨a0,⟨⟩⟩ K ⟨r,h,hK⟩
 change ZqO a0=some r at h
 unfold ZqO at h
 focus
  conv=>whnf
  intro fp0
  conv=>whnf
  intro fp1
  conv=>whnf
  intro fp2
  conv=>whnf
  refine Ze h (fun nodesOf0 hb3 h=>?_)
  conv=>whnf
  refine Ze h (fun places0 hb4 h=>?_)
  conv=>whnf
  refine ⟨by kernel_rfl,?_⟩
  conv=>whnf
  obtain ⟨string0,hb5,h⟩:=Option.bind_eq_some_iff.1 h
  obtain ⟨sinks0,hb6,h⟩:=Option.bind_eq_some_iff.1 h
  obtain ⟨x0,he7a,he7b,he7x,h⟩:=atE h
  obtain ⟨x1,he8a,he8b,he8x,h⟩:=atE h
  refine ⟨?_,?_⟩
  rotate_left
  focus
   conv=>whnf
   refine ⟨_,hb5,?_⟩
   conv=>whnf
   refine ⟨_,hb6,?_⟩
   conv=>whnf
   refine ⟨he7a,he7b,Zh he7x ?_⟩
   conv=>whnf
   refine ⟨by kernel_rfl,?_⟩
   conv=>whnf
   refine ⟨he7a,he7b,Zh he7x ?_⟩
   conv=>whnf
   refine ⟨he8a,he8b,Zh he8x ?_⟩
   conv=>whnf
   refine ⟨by kernel_rfl,?_⟩
   conv=>whnf
   refine ⟨he8a,he8b,Zh he8x ?_⟩
   conv=>whnf
   refine ⟨trivial,?_⟩
  rotate_right
  focus
   conv=>whnf
   refine ⟨_,hb5,?_⟩
   conv=>whnf
   refine ⟨?_,?_⟩
   rotate_left
   focus
    conv=>whnf
    refine ⟨_,hb6,?_⟩
    conv=>whnf
    refine ⟨he7a,he7b,Zh he7x ?_⟩
    conv=>whnf
    refine ⟨by kernel_rfl,?_⟩
    conv=>whnf
    refine ⟨he7a,he7b,Zh he7x ?_⟩
    conv=>whnf
    refine ⟨he8a,he8b,Zh he8x ?_⟩
    conv=>whnf
    refine ⟨by kernel_rfl,?_⟩
    conv=>whnf
    refine ⟨he8a,he8b,Zh he8x ?_⟩
    conv=>whnf
    refine ⟨trivial,?_⟩
   rotate_right
   focus
    conv=>whnf
    refine ⟨_,hb6,?_⟩
    conv=>whnf
    refine ⟨he7a,he7b,Zh he7x ?_⟩
    conv=>whnf
    refine ⟨by kernel_rfl,?_⟩
    conv=>whnf
    refine ⟨he7a,he7b,Zh he7x ?_⟩
    conv=>whnf
    refine ⟨he8a,he8b,Zh he8x ?_⟩
    conv=>whnf
    refine ⟨by kernel_rfl,?_⟩
    conv=>whnf
    refine ⟨he8a,he8b,Zh he8x ?_⟩
    conv=>whnf
    refine ⟨trivial,?_⟩
  all_goals
   focus
    conv=>whnf
    refine ⟨by kernel_rfl,?_⟩
    conv=>whnf
    refine ⟨?_,?_⟩
    rotate_left
    focus
     conv=>whnf
     refine ⟨trivial,?_⟩
    rotate_right
    focus
     conv=>whnf
     refine ⟨trivial,?_⟩
    all_goals
     conv=>whnf
     refine ⟨by kernel_rfl,?_⟩
     conv=>whnf
     refine vAt h (fun x2 he9a he9b he9x h=>?_)
     conv=>whnf
     refine ⟨he9a,he9b,Zh he9x ?_⟩
     conv=>whnf
     intro fp10
     conv=>whnf
     refine vAt h (fun x3 he11a he11b he11x h=>?_)
     conv=>whnf
     refine ⟨by kernel_rfl,?_⟩
     conv=>whnf
     refine ⟨he11a,he11b,Zh he11x ?_⟩
     conv=>whnf
     refine Ze h (fun setNet0 hb12 h=>?_)
     conv=>whnf
     intro fp13
     conv=>whnf
     intro fp14
     conv=>whnf
     intro fp15
     conv=>whnf
     refine ⟨trivial,?_⟩
     conv=>whnf
     refine ⟨by decide,?_⟩
     conv=>whnf
     refine Yk h (fun hp16 h=>?_)
     conv=>whnf
     refine Yk h (fun hp17 h=>?_)
     conv=>whnf
     intro fp18
     conv=>whnf
     refine ⟨by kernel_rfl,?_⟩
     conv=>whnf
     refine ⟨by decide,?_⟩
     conv=>whnf
     refine Yk h (fun hp19 h=>?_)
     conv=>whnf
     refine Yk h (fun hp20 h=>?_)
     conv=>whnf
     refine ⟨trivial,?_⟩
     conv=>whnf
     refine ⟨by kernel_rfl,?_⟩
     conv=>whnf
     refine ⟨by decide,?_⟩
     conv=>whnf
     refine Yk h (fun hp21 h=>?_)
     conv=>whnf
     refine Yk h (fun hp22 h=>?_)
     conv=>whnf
     intro fp23
     conv=>whnf
     refine ⟨trivial,?_⟩
     conv=>whnf
     refine Ze h (fun connect0 hb24 h=>?_)
     conv=>whnf
     intro fp25
     conv=>whnf
     intro fp26
     conv=>whnf
     intro fp27
     conv=>whnf
     cases h
     exact hK
theorem w61 (q0:Sq 188 c28):Sq 154 c61:=by
 refine Zm ZL (Zg q0 Zu) mixed {loops:=[(0,[.reg 3 (.own (.ol 9 (.flat (.str)))),.reg 12 (.dat Iq)]),(2,[.reg 4 (.own (.ol 9 (.flat (.str)))),.reg 25 (.dat Iq)])]} (fn:=Tryz.f154) Tryz.func154 (by kernel_rfl) (by kernel_rfl) ?_
 rintro ⟨d0,⟨⟩⟩ K ⟨r,h,hK⟩
 change Zrf d0=some r at h
 unfold Zrf at h
 conv=>whnf
 refine YH h ?_
 rintro I0 μ0 ⟨instances0,v0,⟨⟩⟩ zs0 h hI0 hR0
 change Zq3 d0 instances0 v0=some zs0 at h
 unfold Zq3 at h
 conv=>whnf
 refine ZG h (fun h=>?_) (fun h=>?_)
 conv=>whnf
 refine vAt h (fun x0 he1a he1b he1x h=>?_)
 conv=>whnf
 refine Yk h (fun hp2 h=>?_)
 conv=>whnf
 cases h
 exact ⟨⟨rfl,rfl⟩,hI0 _ rfl⟩
 conv=>whnf
 refine YH h ?_
 rintro I3 μ3 ⟨ports0,v1,⟨⟩⟩ zs3 h hI3 hR3
 change Zq2 d0 instances0 ports0 v1=some zs3 at h
 unfold Zq2 at h
 conv=>whnf
 refine ZG h (fun h=>?_) (fun h=>?_)
 conv=>whnf
 refine vAt h (fun x0 he4a he4b he4x h=>?_)
 conv=>whnf
 refine Yk h (fun hp5 h=>?_)
 conv=>whnf
 cases h
 exact ⟨⟨rfl,rfl⟩,hI3 _ rfl⟩
 conv=>whnf
 refine ZG h (fun h=>?_) (fun h=>?_)
 conv=>whnf
 refine ZG h (fun h=>?_) (fun h=>?_)
 conv=>whnf
 refine ZG h (fun h=>?_) (fun h=>?_)
 conv=>whnf
 refine Ze h (fun areNames0 hb6 h=>?_)
 conv=>whnf
 refine Qn h (fun h=>?_) (fun h=>?_)
 conv=>whnf
 refine Ze h (fun areNames1 hb7 h=>?_)
 conv=>whnf
 refine Qn h (fun h=>?_) (fun h=>?_)
 conv=>whnf
 refine Ze h (fun areNames2 hb8 h=>?_)
 conv=>whnf
 cases h
 obtain rfl:=hR3 _ rfl
 obtain rfl:=hR0 _ rfl
 exact hK
 conv=>whnf
 cases h
 obtain rfl:=hR3 _ rfl
 obtain rfl:=hR0 _ rfl
 exact hK
 conv=>whnf
 cases h
 obtain rfl:=hR3 _ rfl
 obtain rfl:=hR0 _ rfl
 exact hK
 conv=>whnf
 cases h
 obtain rfl:=hR3 _ rfl
 obtain rfl:=hR0 _ rfl
 exact hK
 conv=>whnf
 cases h
 obtain rfl:=hR3 _ rfl
 obtain rfl:=hR0 _ rfl
 exact hK
 conv=>whnf
 cases h
 obtain rfl:=hR3 _ rfl
 obtain rfl:=hR0 _ rfl
 exact hK
theorem w64 (q0:Sq 191 c63) (q1:Sq 159 c23):Sq 112 c64:=by
 refine Zm ZL (Zg q0 (Zg q1 Zu)) mixed {} (fn:=Tryz.f112) Tryz.func112 (by kernel_rfl) (by kernel_rfl) ?_
 rintro ⟨d0,net0,⟨⟩⟩ K ⟨r,h,hK⟩
 change ZpJ d0 net0=some r at h
 unfold ZpJ at h
 conv=>whnf
 refine Ze h (fun string0 hb0 h=>?_)
 conv=>whnf
 refine Ze h (fun within0 hb1 h=>?_)
 conv=>whnf
 cases h
 exact hK
theorem ZFQ (q7:Sq 159 c23) (q5:Sq 208 c107) (q6:Sq 207 ZAZ) (q2:Sq 83 c73) (q0:Sq 179 ZA0) (q1:Sq 209 c62) (q3:Sq 112 c64) (q4:Sq 158 c31):Sq 151 ZA1:=by
 refine Zm ZL (Zg q7 (Zg q5 (Zg q6 (Zg q2 (Zg q0 (Zg q1 (Zg q3 (Zg q4 Zu)))))))) mixed {draws:=[(1,[0,1,3,7,15,31,31,95,255,511,1023],.op 0 (.op 1 (.alt 2 (.op 3 (.op 4 (.op 5 (.op 6 (.alt 7 (.alt 8 (.op 9 (.op 10 (.done))) (.done)) (.done)))))) (.done)))),(3,[0,1,0,4,12,28,60,127,255],.op 0 (.op 1 (.op 2 (.op 3 (.alt 4 (.alt 5 (.op 6 (.alt 7 (.op 8 (.done)) (.done))) (.done)) (.done)))))),(7,[0,1,3,7,3,19,51,115,243,511,1023,2047],.op 0 (.op 1 (.op 2 (.op 3 (.op 4 (.op 5 (.op 6 (.alt 7 (.op 8 (.alt 9 (.op 10 (.op 11 (.done))) (.done))) (.done))))))))),(9,[0,1,3,7,3,19,63,127,255,511,1023,511,2559,511,8703,31231,63999,129535,260607,522751,1048575,2097151,4194303],.op 0 (.op 1 (.op 2 (.op 3 (.op 4 (.op 5 (.alt 6 (.op 7 (.op 8 (.op 9 (.op 10 (.op 11 (.op 12 (.op 13 (.op 14 (.op 15 (.op 16 (.op 17 (.alt 18 (.op 19 (.alt 20 (.op 21 (.op 22 (.done))) (.done))) (.done))))))))))))) (.done))))))))]} (fn:=Tryz.f151) Tryz.func151 (by kernel_rfl) (by kernel_rfl) ?_
 rintro ⟨a0,a1,⟨⟩⟩ K ⟨r,h,hK⟩
 change ZrH a0 a1=some r at h
 unfold ZrH at h
 conv=>whnf
 refine ⟨by kernel_rfl,?_⟩
 conv=>whnf
 refine Ze h (fun within0 hb0 h=>?_)
 conv=>whnf
 refine Zj4 ?_
 refine Qn h (fun h=>?_) (fun h=>?_)
 conv=>whnf
 refine Ze h (fun own0 hb1 h=>?_)
 conv=>whnf
 refine Ze h (fun sameEdit0 hb2 h=>?_)
 conv=>whnf
 refine ⟨trivial,?_⟩
 conv=>whnf
 refine Yc ?_
 refine Qn h (fun h=>?_) (fun h=>?_)
 conv=>whnf
 refine ⟨by kernel_rfl,?_⟩
 conv=>whnf
 refine Ze h (fun places0 hb3 h=>?_)
 conv=>whnf
 refine Ze h (fun place0 hb4 h=>?_)
 conv=>whnf
 refine Ze h (fun within1 hb5 h=>?_)
 conv=>whnf
 refine ⟨trivial,?_⟩
 conv=>whnf
 refine ZG h (fun h=>?_) (fun h=>?_)
 conv=>whnf
 refine ZG h (fun h=>?_) (fun h=>?_)
 conv=>whnf
 refine ⟨by kernel_rfl,?_⟩
 conv=>whnf
 refine Qn h (fun h=>?_) (fun h=>?_)
 conv=>whnf
 refine Ze h (fun Cell0 hb6 h=>?_)
 conv=>whnf
 refine Ze h (fun within2 hb7 h=>?_)
 conv=>whnf
 refine ⟨trivial,?_⟩
 conv=>whnf
 cases h
 exact hK
 conv=>whnf
 refine ⟨trivial,?_⟩
 conv=>whnf
 cases h
 exact hK
 conv=>whnf
 refine ZG h (fun h=>?_) (fun h=>?_)
 conv=>whnf
 refine ⟨by kernel_rfl,?_⟩
 conv=>whnf
 refine Qn h (fun h=>?_) (fun h=>?_)
 conv=>whnf
 refine Ze h (fun isNet0 hb8 h=>?_)
 conv=>whnf
 refine Qn h (fun h=>?_) (fun h=>?_)
 conv=>whnf
 refine vAt h (fun x0 he9a he9b he9x h=>?_)
 conv=>whnf
 refine Ze h (fun int64_0 hb10 h=>?_)
 conv=>whnf
 refine Ze h (fun within2 hb11 h=>?_)
 conv=>whnf
 refine ⟨trivial,?_⟩
 conv=>whnf
 cases h
 exact hK
 conv=>whnf
 refine ⟨trivial,?_⟩
 conv=>whnf
 cases h
 exact hK
 conv=>whnf
 refine ⟨trivial,?_⟩
 conv=>whnf
 cases h
 exact hK
 conv=>whnf
 refine ZG h (fun h=>?_) (fun h=>?_)
 conv=>whnf
 refine Ze h (fun isNet0 hb12 h=>?_)
 conv=>whnf
 cases h
 exact hK
 conv=>whnf
 cases h
 exact hK
 conv=>whnf
 refine ZG h (fun h=>?_) (fun h=>?_)
 conv=>whnf
 refine ⟨by kernel_rfl,?_⟩
 conv=>whnf
 refine Qn h (fun h=>?_) (fun h=>?_)
 conv=>whnf
 refine Ze h (fun Cell0 hb13 h=>?_)
 conv=>whnf
 refine Ze h (fun within2 hb14 h=>?_)
 conv=>whnf
 refine ⟨trivial,?_⟩
 conv=>whnf
 cases h
 exact hK
 conv=>whnf
 refine ⟨trivial,?_⟩
 conv=>whnf
 cases h
 exact hK
 conv=>whnf
 refine ZG h (fun h=>?_) (fun h=>?_)
 conv=>whnf
 refine ⟨by kernel_rfl,?_⟩
 conv=>whnf
 refine Qn h (fun h=>?_) (fun h=>?_)
 conv=>whnf
 refine Ze h (fun isNet0 hb15 h=>?_)
 conv=>whnf
 refine Qn h (fun h=>?_) (fun h=>?_)
 conv=>whnf
 refine vAt h (fun x0 he16a he16b he16x h=>?_)
 conv=>whnf
 refine Ze h (fun int64_0 hb17 h=>?_)
 conv=>whnf
 refine Ze h (fun within2 hb18 h=>?_)
 conv=>whnf
 refine ⟨trivial,?_⟩
 conv=>whnf
 cases h
 exact hK
 conv=>whnf
 refine ⟨trivial,?_⟩
 conv=>whnf
 cases h
 exact hK
 conv=>whnf
 refine ⟨trivial,?_⟩
 conv=>whnf
 cases h
 exact hK
 conv=>whnf
 refine ZG h (fun h=>?_) (fun h=>?_)
 conv=>whnf
 refine Ze h (fun isNet0 hb19 h=>?_)
 conv=>whnf
 cases h
 exact hK
 conv=>whnf
 cases h
 exact hK
 conv=>whnf
 cases h
 exact hK
 conv=>whnf
 refine ⟨trivial,?_⟩
 conv=>whnf
 cases h
 exact hK
theorem w76 (q1:Sq 82 c72) (q0:Sq 83 c73) (q2:Sq 84 c75):Sq 31 c76:=by
 refine Zm ZL (Zg q1 (Zg q0 (Zg q2 Zu))) mixed {loops:=[(0,[.reg 32 (.dat Iq),.ent 1 (nat_lit 2) (.flat Znz.ety)]),(2,[.reg 50 (.dat Iq)])],draws:=[(13,[0,0,0,6,14,31,63],.op 0 (.op 1 (.op 2 (.op 3 (.op 4 (.alt 5 (.op 6 (.done)) (.done)))))))]} (fn:=Tryz.f31) Tryz.func31 (by kernel_rfl) (by kernel_rfl) ?_
 rintro ⟨b0,⟨⟩⟩ K ⟨r,h,hK⟩
 change ZtD b0=some r at h
 unfold ZtD at h
 conv=>whnf
 refine Ze h (fun IsDesign0 hb0 h=>?_)
 conv=>whnf
 refine Zj4 ?_
 refine Qn h (fun h=>?_) (fun h=>?_)
 conv=>whnf
 refine Yc ?_
 refine ZG h (fun h=>?_) (fun h=>?_)
 conv=>whnf
 refine Yk h (fun hp1 h=>?_)
 conv=>whnf
 refine Yk h (fun hp2 h=>?_)
 conv=>whnf
 refine Yk h (fun hp3 h=>?_)
 conv=>whnf
 refine Yk h (fun hp4 h=>?_)
 conv=>whnf
 refine Ze h (fun places0 hb5 h=>?_)
 conv=>whnf
 refine YH h ?_
 rintro I6 μ6 ⟨v0,l0,⟨⟩⟩ zs6 h hI6 hR6
 change Zr1 b0 places0 v0 l0=some zs6 at h
 unfold Zr1 at h
 conv=>whnf
 refine ZG h (fun h=>?_) (fun h=>?_)
 conv=>whnf
 refine vAt h (fun x0 he7a he7b he7x h=>?_)
 conv=>whnf
 refine ⟨by kernel_rfl,?_⟩
 conv=>whnf
 refine ⟨he7a,he7b,Zh he7x ?_⟩
 conv=>whnf
 refine Yc ?_
 refine Qn h (fun h=>?_) (fun h=>?_)
 conv=>whnf
 cases h
 exact ⟨⟨rfl,rfl⟩,hI6 _ rfl⟩
 conv=>whnf
 refine vAt h (fun x1 he8a he8b he8x h=>?_)
 conv=>whnf
 refine ⟨by kernel_rfl,?_⟩
 conv=>whnf
 refine ⟨he8a,he8b,Zh he8x ?_⟩
 conv=>whnf
 refine ⟨he8a,he8b,Zh he8x ?_⟩
 conv=>whnf
 refine ⟨by kernel_rfl,?_⟩
 conv=>whnf
 refine ⟨by decide,?_⟩
 conv=>whnf
 refine ⟨he8a,he8b,Zh he8x ?_⟩
 conv=>whnf
 cases h
 exact ⟨⟨rfl,rfl⟩,hI6 _ rfl⟩
 conv=>whnf
 refine YH h ?_
 rintro I9 μ9 ⟨v1,⟨⟩⟩ zs9 h hI9 hR9
 change Zta b0 l0 v1=some zs9 at h
 unfold Zta at h
 conv=>whnf
 refine ZG h (fun h=>?_) (fun h=>?_)
 conv=>whnf
 refine vAt h (fun x0 he10a he10b he10x h=>?_)
 conv=>whnf
 refine ⟨by kernel_rfl,?_⟩
 conv=>whnf
 refine vAt h (fun x1 he11a he11b he11x h=>?_)
 conv=>whnf
 refine ⟨by kernel_rfl,?_⟩
 conv=>whnf
 refine ⟨he11a,he11b,Zh he11x ?_⟩
 conv=>whnf
 refine Ze h (fun IsWire0 hb12 h=>?_)
 conv=>whnf
 refine ⟨trivial,?_⟩
 conv=>whnf
 refine Yc ?_
 refine Qn h (fun h=>?_) (fun h=>?_)
 conv=>whnf
 cases h
 exact ⟨⟨rfl,rfl⟩,hI9 _ rfl⟩
 conv=>whnf
 cases h
 obtain rfl:=hR9 _ rfl
 obtain rfl:=hR6 _ rfl
 exact hK
 conv=>whnf
 cases h
 obtain rfl:=hR9 _ rfl
 obtain rfl:=hR6 _ rfl
 exact hK
 conv=>whnf
 cases h
 exact hK
 conv=>whnf
 cases h
 exact hK
theorem ZF8 (q0:Sq 134 c78):Sq 122 ZBc:=by
 refine Zm ZL (Zg q0 Zu) mixed {draws:=[(1,[0,1,3,0,8,31,0,64,255,0,512,2047,4095,8191],.op 0 (.op 1 (.op 3 (.op 4 (.op 6 (.op 7 (.op 9 (.op 10 (.alt 2 (.alt 5 (.alt 8 (.alt 11 (.op 12 (.alt 13 (.done) (.done))) (.done)) (.done)) (.done)) (.done))))))))))]} (fn:=Tryz.f122) Tryz.func122 (by kernel_rfl) (by kernel_rfl) ?_
 rintro ⟨w0,⟨⟩⟩ K ⟨r,h,hK⟩
 change Zrt w0=some r at h
 unfold Zrt at h
 conv=>whnf
 refine ⟨by kernel_rfl,?_⟩
 conv=>whnf
 refine Ze h (fun int64_0 hb0 h=>?_)
 conv=>whnf
 refine Ze h (fun int64_1 hb1 h=>?_)
 conv=>whnf
 refine Ze h (fun int64_2 hb2 h=>?_)
 conv=>whnf
 refine Ze h (fun int64_3 hb3 h=>?_)
 conv=>whnf
 refine ⟨trivial,?_⟩
 conv=>whnf
 cases h
 exact hK
theorem w74 (q0:Sq 159 c23):Sq 160 c74:=by
 refine Zm ZL (Zg q0 Zu) mixed {loops:=[(0,[.reg 8 (.dat Iq)])]} (fn:=Tryz.f160) Tryz.func160 (by kernel_rfl) (by kernel_rfl) ?_
 rintro ⟨w0,⟨⟩⟩ K ⟨r,h,hK⟩
 change ZsE w0=some r at h
 unfold ZsE at h
 conv=>whnf
 refine YH h ?_
 rintro I0 μ0 ⟨v0,⟨⟩⟩ zs0 h hI0 hR0
 change ZrU w0 v0=some zs0 at h
 unfold ZrU at h
 conv=>whnf
 refine ZG h (fun h=>?_) (fun h=>?_)
 conv=>whnf
 refine vAt h (fun x0 he1a he1b he1x h=>?_)
 conv=>whnf
 refine ZG h (fun h=>?_) (fun h=>?_)
 conv=>whnf
 refine Zj4 ?_
 refine ZG h (fun h=>?_) (fun h=>?_)
 conv=>whnf
 refine vAt h (fun x1 he2a he2b he2x h=>?_)
 conv=>whnf
 refine Zj4 ?_
 refine ZG h (fun h=>?_) (fun h=>?_)
 conv=>whnf
 refine ZG h (fun h=>?_) (fun h=>?_)
 conv=>whnf
 refine Ze h (fun within0 hb3 h=>?_)
 conv=>whnf
 refine Yc ?_
 refine Qn h (fun h=>?_) (fun h=>?_)
 conv=>whnf
 cases h
 exact ⟨⟨rfl,rfl⟩,hI0 _ rfl⟩
 conv=>whnf
 cases h
 obtain rfl:=hR0 _ rfl
 exact hK
 conv=>whnf
 cases h
 exact ⟨⟨rfl,rfl⟩,hI0 _ rfl⟩
 conv=>whnf
 cases h
 obtain rfl:=hR0 _ rfl
 exact hK
 conv=>whnf
 cases h
 obtain rfl:=hR0 _ rfl
 exact hK
 conv=>whnf
 refine ZG h (fun h=>?_) (fun h=>?_)
 conv=>whnf
 refine Ze h (fun within0 hb4 h=>?_)
 conv=>whnf
 refine Yc ?_
 refine Qn h (fun h=>?_) (fun h=>?_)
 conv=>whnf
 cases h
 exact ⟨⟨rfl,rfl⟩,hI0 _ rfl⟩
 conv=>whnf
 cases h
 obtain rfl:=hR0 _ rfl
 exact hK
 conv=>whnf
 cases h
 exact ⟨⟨rfl,rfl⟩,hI0 _ rfl⟩
 conv=>whnf
 cases h
 obtain rfl:=hR0 _ rfl
 exact hK
theorem ZDV (q0:Sq 232 ZA7) (q2:Sq 134 c78) (q1:Sq 233 ZA8) (q3:Sq 234 c127):Sq 195 ZA9:=by
 refine Zm VX (Zg q0 (Zg q2 (Zg q1 (Zg q3 Zu)))) mixed {loops:=[(0,[.reg 11 (.dat Iq),.cello 1003 0 (.ol 216 (ZiT))]),(2,[.reg 30 (.dat Iq),.splt 7 219 ZmF])],draws:=[(5,[0,1,3,0,8,31,31,127,255,511],.op 0 (.op 1 (.op 3 (.op 4 (.alt 2 (.op 6 (.alt 5 (.alt 7 (.op 8 (.alt 9 (.done) (.done))) (.done)) (.done))) (.done)))))),(10,[0,1,0,0,8,0,0,64,192,0,512,1984,4039,8135,16327,32767,65535,131071],.op 0 (.op 1 (.op 2 (.op 3 (.op 5 (.op 6 (.op 7 (.op 9 (.op 10 (.alt 4 (.alt 8 (.alt 11 (.op 12 (.op 13 (.alt 14 (.op 15 (.op 16 (.alt 17 (.done) (.done)))) (.done)))) (.done)) (.done)) (.alt 8 (.alt 4 (.alt 11 (.op 12 (.op 13 (.alt 14 (.op 15 (.op 16 (.alt 17 (.done) (.done)))) (.done)))) (.done)) (.alt 11 (.op 12 (.op 13 (.alt 4 (.alt 14 (.op 15 (.op 16 (.alt 17 (.done) (.done)))) (.done)) (.alt 14 (.alt 4 (.op 15 (.op 16 (.alt 17 (.done) (.done)))) (.done)) (.done))))) (.done))) (.done))))))))))))]} (fn:=Tryz.f195) Tryz.func195 (by kernel_rfl) (by kernel_rfl) ?_
 rintro ⟨l0,⟨⟩⟩ K ⟨r,h,hK⟩
 change ZqN l0=some r at h
 unfold ZqN at h
 conv=>whnf
 refine YH h ?_
 rintro I0 μ0 ⟨v0,c0,⟨⟩⟩ zs0 h hI0 hR0
 change ZpU l0 v0 c0=some zs0 at h
 unfold ZpU at h
 conv=>whnf
 intro fp1
 conv=>whnf
 refine ZG h (fun h=>?_) (fun h=>?_)
 conv=>whnf
 refine vAt h (fun x0 he2a he2b he2x h=>?_)
 conv=>whnf
 refine ⟨by kernel_rfl,?_⟩
 conv=>whnf
 refine Ze h (fun Pin0 hb3 h=>?_)
 conv=>whnf
 refine Ze h (fun int64_0 hb4 h=>?_)
 conv=>whnf
 refine ⟨trivial,?_⟩
 conv=>whnf
 refine Ze h (fun Arc0 hb5 h=>?_)
 conv=>whnf
 refine YH h ?_
 rintro I6 μ6 ⟨v1,l1,⟨⟩⟩ zs6 h hI6 hR6
 change Zqe v0 c0 x0 Pin0 int64_0 Arc0 v1 l1=some zs6 at h
 unfold Zqe at h
 conv=>whnf
 intro fp7
 conv=>whnf
 refine ZG h (fun h=>?_) (fun h=>?_)
 focus
  conv=>whnf
  refine vAt h (fun x1 he8a he8b he8x h=>?_)
  conv=>whnf
  refine Yk h (fun hp9 h=>?_)
  conv=>whnf
  refine ⟨he8a,he8b,Zh he8x ?_⟩
  conv=>whnf
  refine ⟨by kernel_rfl,?_⟩
  conv=>whnf
  obtain ⟨cloneTables0,hb10,h⟩:=Option.bind_eq_some_iff.1 h
  obtain ⟨cloneTables1,hb12,h⟩:=Option.bind_eq_some_iff.1 h
  obtain ⟨hp14,h⟩:=guardE h
  obtain ⟨x2,he15a,he15b,he15x,h⟩:=atE h
  refine ⟨?_,?_⟩
  rotate_left
  focus
   conv=>whnf
   refine ⟨_,hb10,?_⟩
   conv=>whnf
   intro fp16
   conv=>whnf
   refine ⟨?_,?_⟩
   rotate_left
   focus
    conv=>whnf
    refine ⟨_,hb12,?_⟩
    conv=>whnf
    intro fp17
    conv=>whnf
    refine ⟨he8a,he8b,Zh he8x ?_⟩
    conv=>whnf
    refine ⟨?_,?_⟩
    rotate_left
    focus
     conv=>whnf
     refine ⟨hp14,?_⟩
     conv=>whnf
     refine ⟨he15a,he15b,Zh he15x ?_⟩
     conv=>whnf
     refine ⟨he8a,he8b,Zh he8x ?_⟩
     conv=>whnf
     refine ⟨hp14,?_⟩
     conv=>whnf
     refine ⟨trivial,?_⟩
    rotate_right
    focus
     conv=>whnf
     refine ⟨hp14,?_⟩
     conv=>whnf
     refine ⟨he15a,he15b,Zh he15x ?_⟩
     conv=>whnf
     refine ⟨he8a,he8b,Zh he8x ?_⟩
     conv=>whnf
     refine ⟨hp14,?_⟩
     conv=>whnf
     refine ⟨trivial,?_⟩
   rotate_right
   focus
    conv=>whnf
    refine ⟨_,hb12,?_⟩
    conv=>whnf
    intro fp17
    conv=>whnf
    refine ⟨he8a,he8b,Zh he8x ?_⟩
    conv=>whnf
    refine ⟨hp14,?_⟩
    conv=>whnf
    refine ⟨he15a,he15b,Zh he15x ?_⟩
    conv=>whnf
    refine ⟨he8a,he8b,Zh he8x ?_⟩
    conv=>whnf
    refine ⟨hp14,?_⟩
    conv=>whnf
    refine ⟨trivial,?_⟩
  rotate_right
  focus
   conv=>whnf
   refine ⟨_,hb10,?_⟩
   conv=>whnf
   intro fp16
   conv=>whnf
   refine ⟨_,hb12,?_⟩
   conv=>whnf
   intro fp17
   conv=>whnf
   refine ⟨he8a,he8b,Zh he8x ?_⟩
   conv=>whnf
   refine ⟨hp14,?_⟩
   conv=>whnf
   refine ⟨he15a,he15b,Zh he15x ?_⟩
   conv=>whnf
   refine ⟨he8a,he8b,Zh he8x ?_⟩
   conv=>whnf
   refine ⟨hp14,?_⟩
   conv=>whnf
   refine ⟨trivial,?_⟩
  all_goals
   conv=>whnf
   cases h
   exact ⟨⟨rfl,rfl⟩,hI6 _ rfl⟩
 conv=>whnf
 refine Yk h (fun hp18 h=>?_)
 conv=>whnf
 intro fp19
 conv=>whnf
 refine Yk h (fun hp20 h=>?_)
 conv=>whnf
 intro fp21
 conv=>whnf
 cases h
 obtain rfl:=hR6 _ rfl
 exact ⟨⟨rfl,rfl⟩,hI0 _ rfl⟩
 conv=>whnf
 cases h
 obtain rfl:=hR0 _ rfl
 exact hK
theorem w63:Sq 191 c63:=by
 refine Zm ZL Zu mixed {} (fn:=Tryz.f191) Tryz.func191 (by kernel_rfl) (by kernel_rfl) ?_
 rintro ⟨list0,⟨⟩⟩ K ⟨r,h,hK⟩
 change ZpQ list0=some r at h
 unfold ZpQ at h
 conv=>whnf
 cases h
 exact hK
theorem w23:Sq 159 c23:=by
 refine Zm ZL Zu mixed {} (fn:=Tryz.f159) Tryz.func159 (by kernel_rfl) (by kernel_rfl) ?_
 rintro ⟨x0,low0,high0,⟨⟩⟩ K ⟨r,h,hK⟩
 change YA x0 low0 high0=some r at h
 unfold YA at h
 conv=>whnf
 refine ZG h (fun h=>?_) (fun h=>?_)
 conv=>whnf
 cases h
 exact hK
 conv=>whnf
 cases h
 exact hK
theorem ZFJ:Sq 17 c105:=by
 refine Zm ZL Zu mixed {loops:=[(0,[.reg 6 (.dat Iq),.cell 1015 2 (.int .u64)])],draws:=[(5,[0,0,2,6,14,30,0,0,192,448,960,2046,4094,8191,16383,32767],.op 0 (.op 1 (.op 2 (.op 3 (.op 4 (.op 5 (.op 6 (.op 7 (.op 8 (.op 9 (.alt 10 (.op 11 (.op 12 (.op 13 (.op 14 (.alt 15 (.done) (.done)))))) (.done))))))))))))]} (fn:=Tryz.f17) Tryz.func17 (by kernel_rfl) (by kernel_rfl) ?_
 rintro ⟨code0,seed0,⟨⟩⟩ K ⟨r,h,hK⟩
 change ZCN code0 seed0=some r at h
 unfold ZCN at h
 conv=>whnf
 refine YH h ?_
 rintro I0 μ0 ⟨i0,c0,⟨⟩⟩ zs0 h hI0 hR0
 change ZCG code0 i0 c0=some zs0 at h
 unfold ZCG at h
 conv=>whnf
 refine ZG h (fun h=>?_) (fun h=>?_)
 conv=>whnf
 refine ⟨by kernel_rfl,?_⟩
 conv=>whnf
 refine vAt h (fun x0 he1a he1b he1x h=>?_)
 conv=>whnf
 refine ⟨trivial,?_⟩
 conv=>whnf
 cases h
 exact ⟨⟨rfl,rfl⟩,hI0 _ rfl⟩
 conv=>whnf
 cases h
 obtain rfl:=hR0 _ rfl
 exact hK
theorem ZF6:Sq 236 c130:=by
 refine Zm ZL Zu mixed {} (fn:=Tryz.f236) Tryz.func236 (by kernel_rfl) (by kernel_rfl) ?_
 rintro ⟨s0,⟨⟩⟩ K ⟨r,h,hK⟩
 change ZqR s0=some r at h
 unfold ZqR at h
 conv=>whnf
 refine ⟨fun hd=>?_,?_⟩
 have h:=ZoV (T:=(some ([]:List (List UInt8)))) h (by simp [hd,Zj])
 conv=>whnf
 cases h
 exact hK
 conv=>whnf
 refine Yk h (fun hp0 h=>?_)
 conv=>whnf
 cases h
 exact hK
theorem w52 (q0:Sq 296 c51):Sq 276 c52:=by
 refine Zm ZL (Zg q0 Zu) mixed {} (fn:=Tryz.f276) Tryz.func276 (by kernel_rfl) (by kernel_rfl) ?_
 rintro ⟨s0,f0,⟨⟩⟩ K ⟨r,h,hK⟩
 change Zpf s0 f0=some r at h
 unfold Zpf at h
 conv=>whnf
 refine Ze h (fun c1_0 hb0 h=>?_)
 conv=>whnf
 cases h
 exact hK
theorem w42 (q0:Sq 323 c41):Sq 305 c42:=by
 refine Zm ZL (Zg q0 Zu) mixed {} (fn:=Tryz.f305) Tryz.func305 (by kernel_rfl) (by kernel_rfl) ?_
 rintro ⟨s0,f0,⟨⟩⟩ K ⟨r,h,hK⟩
 change Zpe s0 f0=some r at h
 unfold Zpe at h
 conv=>whnf
 refine Ze h (fun c1_0 hb0 h=>?_)
 conv=>whnf
 cases h
 exact hK
theorem w45 (q0:Sq 310 c44):Sq 309 c45:=by
 refine Zm ZL (Zg q0 Zu) mixed {loops:=[(0,[.reg 8 (.dat Iq)])]} (fn:=Tryz.f309) Tryz.func309 (by kernel_rfl) (by kernel_rfl) ?_
 rintro ⟨s0,f0,⟨⟩⟩ K ⟨r,h,hK⟩
 change Zpr s0 f0=some r at h
 unfold Zpr at h
 conv=>whnf
 refine YH h ?_
 rintro I0 μ0 ⟨v0,⟨⟩⟩ zs0 h hI0 hR0
 change ZpA s0 v0=some zs0 at h
 unfold ZpA at h
 conv=>whnf
 refine ZG h (fun h=>?_) (fun h=>?_)
 conv=>whnf
 refine vAt h (fun x0 he1a he1b he1x h=>?_)
 conv=>whnf
 refine Ze h (fun c1_0 hb2 h=>?_)
 conv=>whnf
 refine Qn h (fun h=>?_) (fun h=>?_)
 conv=>whnf
 cases h
 obtain rfl:=hR0 _ rfl
 exact hK
 conv=>whnf
 cases h
 exact ⟨⟨rfl,rfl⟩,hI0 _ rfl⟩
 conv=>whnf
 cases h
 obtain rfl:=hR0 _ rfl
 exact hK
theorem w41 (q0:Sq 306 c40):Sq 323 c41:=by
 refine Zm ZL (Zg q0 Zu) mixed {loops:=[(0,[.reg 8 (.dat Iq)])]} (fn:=Tryz.f323) Tryz.func323 (by kernel_rfl) (by kernel_rfl) ?_
 rintro ⟨s0,f0,⟨⟩⟩ K ⟨r,h,hK⟩
 change Zpl s0 f0=some r at h
 unfold Zpl at h
 conv=>whnf
 refine YH h ?_
 rintro I0 μ0 ⟨v0,⟨⟩⟩ zs0 h hI0 hR0
 change Zpu s0 f0 v0=some zs0 at h
 unfold Zpu at h
 conv=>whnf
 refine ZG h (fun h=>?_) (fun h=>?_)
 conv=>whnf
 refine vAt h (fun x0 he1a he1b he1x h=>?_)
 conv=>whnf
 refine Ze h (fun c1_0 hb2 h=>?_)
 conv=>whnf
 refine Qn h (fun h=>?_) (fun h=>?_)
 conv=>whnf
 cases h
 obtain rfl:=hR0 _ rfl
 exact hK
 conv=>whnf
 cases h
 exact ⟨⟨rfl,rfl⟩,hI0 _ rfl⟩
 conv=>whnf
 cases h
 obtain rfl:=hR0 _ rfl
 exact hK
theorem w88 (q0:Sq 327 c87) (q1:Sq 114 c85):Sq 318 c88:=by
 refine Zm ZL (Zg q0 (Zg q1 Zu)) mixed {loops:=[(0,[.reg 3 (.dat Iq)])]} (fn:=Tryz.f318) Tryz.func318 (by kernel_rfl) (by kernel_rfl) ?_
 rintro ⟨t0,⟨⟩⟩ K ⟨r,h,hK⟩
 change Zus t0=some r at h
 unfold Zus at h
 conv=>whnf
 refine Ze h (fun l02Axis0 hb0 h=>?_)
 conv=>whnf
 refine Zj4 ?_
 refine Qn h (fun h=>?_) (fun h=>?_)
 conv=>whnf
 refine Ze h (fun l02Axis1 hb1 h=>?_)
 conv=>whnf
 refine Zj4 ?_
 refine Qn h (fun h=>?_) (fun h=>?_)
 conv=>whnf
 refine Yc ?_
 refine ZG h (fun h=>?_) (fun h=>?_)
 conv=>whnf
 refine YH h ?_
 rintro I2 μ2 ⟨i0,⟨⟩⟩ zs2 h hI2 hR2
 change Zth t0 i0=some zs2 at h
 unfold Zth at h
 conv=>whnf
 refine ZG h (fun h=>?_) (fun h=>?_)
 conv=>whnf
 refine vAt h (fun x0 he3a he3b he3x h=>?_)
 conv=>whnf
 refine Ze h (fun l01In0 hb4 h=>?_)
 conv=>whnf
 refine Yc ?_
 refine Qn h (fun h=>?_) (fun h=>?_)
 conv=>whnf
 cases h
 exact ⟨⟨rfl,rfl⟩,hI2 _ rfl⟩
 conv=>whnf
 cases h
 obtain rfl:=hR2 _ rfl
 exact hK
 conv=>whnf
 cases h
 obtain rfl:=hR2 _ rfl
 exact hK
 conv=>whnf
 cases h
 exact hK
 conv=>whnf
 cases h
 exact hK
 conv=>whnf
 cases h
 exact hK
theorem ZFI (q1:Sq 56 ZAT) (q0:Sq 57 ZAW):Sq 16 ZAX:=by
 refine Zm ZL (Zg q1 (Zg q0 Zu)) mixed {} (fn:=Tryz.f16) Tryz.func16 (by kernel_rfl) (by kernel_rfl) ?_
 rintro ⟨b0,net0,⟨⟩⟩ K ⟨r,h,hK⟩
 change ZD7 b0 net0=some r at h
 unfold ZD7 at h
 conv=>whnf
 refine Ze h (fun l07Code0 hb0 h=>?_)
 conv=>whnf
 refine Yc ?_
 refine ZG h (fun h=>?_) (fun h=>?_)
 conv=>whnf
 refine Ze h (fun l07Delays0 hb1 h=>?_)
 conv=>whnf
 cases h
 exact hK
 conv=>whnf
 cases h
 exact hK
theorem w4 (q0:Sq 44 c2):Sq 319 c4:=by
 refine Zm ZL (Zg q0 Zu) mixed {loops:=[(0,[.reg 5 (.own (.ol 2 (.flat Iq))),.reg 6 (.dat Iq),.reg 7 (.dat Iq),.cell 0 0 (.sl (.int .u8)),.cell 0 1 Iq,.cell 0 2 Iq])]} (fn:=Tryz.f319) Tryz.func319 (by kernel_rfl) (by kernel_rfl) ?_
 rintro ⟨s0,step0,⟨⟩⟩ K ⟨r,h,hK⟩
 change YU s0 step0=some r at h
 unfold YU at h
 conv=>whnf
 refine Ze h (fun l01Next0 hb0 h=>?_)
 conv=>whnf
 refine Ze h (fun l01Next1 hb1 h=>?_)
 conv=>whnf
 refine YH h ?_
 rintro I2 μ2 ⟨out0,at0,n0,c0,c1,c2,⟨⟩⟩ zs2 h hI2 hR2
 change Yv step0 out0 at0 n0 c0 c1 c2=some zs2 at h
 unfold Yv at h
 conv=>whnf
 refine ZG h (fun h=>?_) (fun h=>?_)
 conv=>whnf
 refine Yk h (fun hp3 h=>?_)
 conv=>whnf
 refine Ze h (fun l01Next2 hb4 h=>?_)
 conv=>whnf
 cases h
 exact ⟨⟨rfl,rfl⟩,hI2 _ rfl⟩
 conv=>whnf
 cases h
 obtain rfl:=hR2 _ rfl
 exact hK
theorem w16:Sq 161 c16:=by
 refine Zm ZL Zu mixed {} (fn:=Tryz.f161) Tryz.func161 (by kernel_rfl) (by kernel_rfl) ?_
 rintro ⟨list0,⟨⟩⟩ K ⟨r,h,hK⟩
 change XT list0=some r at h
 unfold XT at h
 conv=>whnf
 refine Yk h (fun hp0 h=>?_)
 conv=>whnf
 cases h
 exact hK
theorem w9 (q1:Sq 44 c2) (q0:Sq 264 c7):Sq 239 c9:=by
 refine Zm VX (Zg q1 (Zg q0 Zu)) mixed {} (fn:=Tryz.f239) Tryz.func239 (by kernel_rfl) (by kernel_rfl) ?_
 rintro ⟨s0,name0,kind0,edge0,⟨⟩⟩ K ⟨r,h,hK⟩
 change Yq s0 name0 kind0 edge0=some r at h
 unfold Yq at h
 conv=>whnf
 refine Ze h (fun l01Next0 hb0 h=>?_)
 conv=>whnf
 refine Ze h (fun l01Next1 hb1 h=>?_)
 conv=>whnf
 refine Ze h (fun l01Next2 hb2 h=>?_)
 conv=>whnf
 refine Ze h (fun l01Next3 hb3 h=>?_)
 conv=>whnf
 refine Ze h (fun l03DrawArc0 hb4 h=>?_)
 conv=>whnf
 intro fp5
 conv=>whnf
 intro fp6
 conv=>whnf
 refine Ze h (fun l03DrawArc1 hb7 h=>?_)
 conv=>whnf
 intro fp8
 conv=>whnf
 intro fp9
 conv=>whnf
 refine Ze h (fun l03DrawArc2 hb10 h=>?_)
 conv=>whnf
 intro fp11
 conv=>whnf
 intro fp12
 conv=>whnf
 intro fp13
 conv=>whnf
 refine ZG h (fun h=>?_) (fun h=>?_)
 conv=>whnf
 refine Ze h (fun l03DrawArc3 hb14 h=>?_)
 conv=>whnf
 intro fp15
 conv=>whnf
 intro fp16
 conv=>whnf
 intro fp17
 conv=>whnf
 refine Yk h (fun hp18 h=>?_)
 conv=>whnf
 intro fp19
 conv=>whnf
 cases h
 exact hK
 conv=>whnf
 cases h
 exact hK
theorem w96 (q0:Sq 147 c84):Sq 178 c96:=by
 refine Zm ZL (Zg q0 Zu) mixed {loops:=[(0,[.reg 3 (.dat Iq)]),(2,[.reg 4 (.dat Iq)])],draws:=[(9,[0,0,3,7,0,0,48,112,255],.op 0 (.op 1 (.op 2 (.op 3 (.op 4 (.op 5 (.op 6 (.op 7 (.op 8 (.done))))))))))]} (fn:=Tryz.f178) Tryz.func178 (by kernel_rfl) (by kernel_rfl) ?_
 rintro ⟨list0,⟨⟩⟩ K ⟨r,h,hK⟩
 change Zso list0=some r at h
 unfold Zso at h
 conv=>whnf
 refine YH h ?_
 rintro I0 μ0 ⟨i0,⟨⟩⟩ zs0 h hI0 hR0
 change ZsS list0 i0=some zs0 at h
 unfold ZsS at h
 conv=>whnf
 refine ZG h (fun h=>?_) (fun h=>?_)
 conv=>whnf
 refine vAt h (fun x0 he1a he1b he1x h=>?_)
 conv=>whnf
 refine Ze h (fun l03Name0 hb2 h=>?_)
 conv=>whnf
 refine Yc ?_
 refine Qn h (fun h=>?_) (fun h=>?_)
 conv=>whnf
 refine YH h ?_
 rintro I3 μ3 ⟨k0,⟨⟩⟩ zs3 h hI3 hR3
 change ZsR list0 i0 x0 k0=some zs3 at h
 unfold ZsR at h
 conv=>whnf
 refine ZG h (fun h=>?_) (fun h=>?_)
 conv=>whnf
 refine ⟨by kernel_rfl,?_⟩
 conv=>whnf
 refine vAt h (fun x1 he4a he4b he4x h=>?_)
 conv=>whnf
 refine ⟨he1a,he1b,Zh he1x ?_⟩
 conv=>whnf
 refine ⟨trivial,?_⟩
 conv=>whnf
 refine ZG h (fun h=>?_) (fun h=>?_)
 conv=>whnf
 cases h
 obtain rfl:=hR3 _ rfl
 obtain rfl:=hR0 _ rfl
 exact hK
 conv=>whnf
 cases h
 exact ⟨⟨rfl,rfl⟩,hI3 _ rfl⟩
 conv=>whnf
 cases h
 obtain rfl:=hR3 _ rfl
 exact ⟨⟨rfl,rfl⟩,hI0 _ rfl⟩
 conv=>whnf
 cases h
 obtain rfl:=hR0 _ rfl
 exact hK
 conv=>whnf
 cases h
 obtain rfl:=hR0 _ rfl
 exact hK
theorem w14 (q0:Sq 96 c13):Sq 139 c14:=by
 refine Zm ZL (Zg q0 Zu) mixed {loops:=[(0,[.reg 5 (.own (.ol 2 (.flat Iq))),.reg 7 (.dat Iq)])]} (fn:=Tryz.f139) Tryz.func139 (by kernel_rfl) (by kernel_rfl) ?_
 rintro ⟨d0,net0,⟨⟩⟩ K ⟨r,h,hK⟩
 change QT d0 net0=some r at h
 unfold QT at h
 conv=>whnf
 refine Ze h (fun l05Places0 hb0 h=>?_)
 conv=>whnf
 refine YH h ?_
 rintro I1 μ1 ⟨out0,i0,⟨⟩⟩ zs1 h hI1 hR1
 change Xc net0 l05Places0 out0 i0=some zs1 at h
 unfold Xc at h
 conv=>whnf
 refine ZG h (fun h=>?_) (fun h=>?_)
 conv=>whnf
 refine vAt h (fun x0 he2a he2b he2x h=>?_)
 conv=>whnf
 refine ⟨by kernel_rfl,?_⟩
 conv=>whnf
 refine ⟨he2a,he2b,Zh he2x ?_⟩
 conv=>whnf
 refine ZG h (fun h=>?_) (fun h=>?_)
 conv=>whnf
 refine ⟨he2a,he2b,Zh he2x ?_⟩
 conv=>whnf
 refine ⟨by kernel_rfl,?_⟩
 conv=>whnf
 refine ⟨he2a,he2b,Zh he2x ?_⟩
 conv=>whnf
 refine Yc ?_
 refine Qn h (fun h=>?_) (fun h=>?_)
 conv=>whnf
 cases h
 exact ⟨⟨rfl,rfl⟩,hI1 _ rfl⟩
 conv=>whnf
 refine Yk h (fun hp3 h=>?_)
 conv=>whnf
 cases h
 exact ⟨⟨rfl,rfl⟩,hI1 _ rfl⟩
 conv=>whnf
 cases h
 exact ⟨⟨rfl,rfl⟩,hI1 _ rfl⟩
 conv=>whnf
 cases h
 obtain rfl:=hR1 _ rfl
 exact hK
theorem w17 (q1:Sq 44 c2) (q0:Sq 219 c15) (q2:Sq 161 c16):Sq 164 c17:=by
 refine Zm ZL (Zg q1 (Zg q0 (Zg q2 Zu))) mixed {loops:=[(0,[.reg 6 (.dat Iq),.cell 1000 0 (.sl (.int .u8)),.cell 1000 1 Iq,.cell 1000 2 Iq,.cello 1005 0 (.ol (nat_lit 2) (.flat (Ty.int IntKind.i64))),.cello 1005 1 (.ol (nat_lit 2) (.flat (Ty.int IntKind.i64))),.cello 1005 2 (.ol (nat_lit 2) (.flat (Ty.int IntKind.i64))),.cello 1005 3 (.ol (nat_lit 2) (.flat (Ty.int IntKind.i64)))]),(2,[.reg 8 (.dat Iq),.cell 1000 0 (.sl (.int .u8)),.cell 1000 1 Iq,.cell 1000 2 Iq,.ent 10 (nat_lit 2) (.flat (Ty.int IntKind.i64))])],draws:=[(6,[0,1,3,0,0,31,63,127,0,256,1023,0,4095,8191,16383,0,32768,131071,0,524287,1048575,2097151,0,4194304,16777215,33554431],.op 0 (.op 1 (.op 3 (.op 4 (.op 8 (.op 11 (.op 15 (.op 18 (.op 22 (.ld 9 (.ld 16 (.ld 23 (.alt 2 (.alt 5 (.alt 6 (.alt 7 (.alt 10 (.alt 12 (.alt 13 (.alt 14 (.alt 17 (.alt 19 (.alt 20 (.alt 21 (.op 24 (.alt 25 (.done) (.done))) (.done)) (.done)) (.done)) (.done)) (.done)) (.done)) (.done)) (.done)) (.done)) (.done)) (.done)) (.done)))))))))))))),(10,[0,1,0,0,0,16,48,120,255,511],.op 0 (.op 2 (.op 3 (.op 4 (.op 5 (.op 6 (.ld 1 (.alt 7 (.op 8 (.alt 9 (.done) (.done))) (.done)))))))))]} (fn:=Tryz.f164) Tryz.func164 (by kernel_rfl) (by kernel_rfl) ?_
 rintro ⟨s0,sinks0,⟨⟩⟩ K ⟨r,h,hK⟩
 change Xi s0 sinks0=some r at h
 unfold Xi at h
 conv=>whnf
 refine Ze h (fun l01Next0 hb0 h=>?_)
 conv=>whnf
 refine Ze h (fun l07Lumped0 hb1 h=>?_)
 conv=>whnf
 refine Ze h (fun l01Next1 hb2 h=>?_)
 conv=>whnf
 refine YH h ?_
 rintro I3 μ3 ⟨n0,c0,c1,c2,c3,c4,c5,c6,⟨⟩⟩ zs3 h hI3 hR3
 change Yx n0 c0 c1 c2 c3 c4 c5 c6=some zs3 at h
 unfold Yx at h
 conv=>whnf
 refine ZG h (fun h=>?_) (fun h=>?_)
 conv=>whnf
 refine ⟨by kernel_rfl,?_⟩
 conv=>whnf
 refine ⟨by kernel_rfl,?_⟩
 conv=>whnf
 refine ⟨by kernel_rfl,?_⟩
 conv=>whnf
 refine ⟨by kernel_rfl,?_⟩
 conv=>whnf
 refine Ze h (fun l02Ints0 hb4 h=>?_)
 conv=>whnf
 refine ⟨by kernel_rfl,?_⟩
 conv=>whnf
 refine Ze h (fun l01Next2 hb5 h=>?_)
 conv=>whnf
 refine ⟨by kernel_rfl,?_⟩
 conv=>whnf
 refine Yk h (fun hp6 h=>?_)
 conv=>whnf
 refine Ze h (fun l02Ints1 hb7 h=>?_)
 conv=>whnf
 refine ⟨by kernel_rfl,?_⟩
 conv=>whnf
 refine Ze h (fun l01Next3 hb8 h=>?_)
 conv=>whnf
 refine ⟨by kernel_rfl,?_⟩
 conv=>whnf
 refine Yk h (fun hp9 h=>?_)
 conv=>whnf
 refine Ze h (fun l02Ints2 hb10 h=>?_)
 conv=>whnf
 refine ⟨by kernel_rfl,?_⟩
 conv=>whnf
 refine Ze h (fun l01Next4 hb11 h=>?_)
 conv=>whnf
 refine ⟨by kernel_rfl,?_⟩
 conv=>whnf
 refine Yk h (fun hp12 h=>?_)
 conv=>whnf
 refine ⟨trivial,?_⟩
 conv=>whnf
 cases h
 exact ⟨⟨rfl,rfl⟩,hI3 _ rfl⟩
 conv=>whnf
 refine YH h ?_
 rintro I13 μ13 ⟨i0,c7,c8,c9,l0,⟨⟩⟩ zs13 h hI13 hR13
 change Yw c3 c4 c5 i0 c7 c8 c9 l0=some zs13 at h
 unfold Yw at h
 conv=>whnf
 refine ZG h (fun h=>?_) (fun h=>?_)
 conv=>whnf
 refine ⟨by kernel_rfl,?_⟩
 conv=>whnf
 refine ⟨by kernel_rfl,?_⟩
 conv=>whnf
 refine ⟨by kernel_rfl,?_⟩
 conv=>whnf
 refine Ze h (fun l01Next2 hb14 h=>?_)
 conv=>whnf
 refine vAt h (fun x0 he15a he15b he15x h=>?_)
 conv=>whnf
 refine ⟨by kernel_rfl,?_⟩
 conv=>whnf
 refine ⟨by kernel_rfl,?_⟩
 conv=>whnf
 refine ⟨by decide,?_⟩
 conv=>whnf
 refine ⟨he15a,he15b,Zh he15x ?_⟩
 conv=>whnf
 refine ⟨trivial,?_⟩
 conv=>whnf
 cases h
 exact ⟨⟨rfl,rfl⟩,hI13 _ rfl⟩
 conv=>whnf
 cases h
 obtain rfl:=hR13 _ rfl
 obtain rfl:=hR3 _ rfl
 exact hK
theorem w15:Sq 219 c15:=by
 refine Zm ZL Zu mixed {} (fn:=Tryz.f219) Tryz.func219 (by kernel_rfl) (by kernel_rfl) ?_
 rintro ⟨sinks0,load0,⟨⟩⟩ K ⟨r,h,hK⟩
 change Qi sinks0 load0=some r at h
 unfold Qi at h
 conv=>whnf
 refine Yk h (fun hp0 h=>?_)
 conv=>whnf
 refine Yk h (fun hp1 h=>?_)
 conv=>whnf
 refine Yk h (fun hp2 h=>?_)
 conv=>whnf
 refine Yk h (fun hp3 h=>?_)
 conv=>whnf
 cases h
 exact hK
end Go.Proofs.YtnnbgbgapogckaaGreatDoor
