/-
  The functions keep their contracts, if what they call does. Printed by program.
-/
import Derived.Test.YtnnbgbgapogckaaGreatDoorM
import Derived.KernelRfl
namespace Go.Proofs.YtnnbgbgapogckaaGreatDoor
open Go Go.Sx
set_option maxRecDepth 100000
set_option maxHeartbeats 6400000
set_option linter.unusedVariables false
set_option linter.unusedSimpArgs false
theorem ZGe (q1:Sq 119 ZBe) (q2:Sq 83 c73) (q3:Sq 191 c63) (q0:Sq 170 ZBf) (q5:Sq 120 ZBg) (q4:Sq 121 c138):Sq 117 c139:=by
 refine Zm VX (Zg q1 (Zg q2 (Zg q3 (Zg q0 (Zg q5 (Zg q4 Zu)))))) mixed {draws:=[(2,[0,1,3,7,15,0,32,127,255,0,1023],.op 0 (.op 1 (.op 2 (.op 3 (.op 5 (.op 6 (.alt 4 (.op 7 (.op 8 (.alt 9 (.alt 10 (.done) (.done)) (.done)))) (.alt 9 (.alt 4 (.op 7 (.op 8 (.alt 10 (.done) (.done)))) (.done)) (.done))))))))),(4,[0,1,3,7,15,31,0,64,192,448,960,2047,4095,8191],.op 0 (.op 1 (.op 2 (.op 3 (.op 4 (.op 6 (.op 7 (.op 8 (.op 9 (.op 10 (.alt 5 (.alt 11 (.op 12 (.op 13 (.done))) (.done)) (.done)))))))))))),(5,[0,0,2,6,14,30,0,64,0,256,0,1024,0,7168,16320,32704,65534,131071,262143,524287,1048575],.op 0 (.op 1 (.op 2 (.op 3 (.op 4 (.op 5 (.op 6 (.op 7 (.op 8 (.op 9 (.op 10 (.op 11 (.op 12 (.alt 13 (.op 14 (.alt 15 (.alt 16 (.op 17 (.op 18 (.op 19 (.alt 20 (.done) (.done))))) (.done)) (.done))) (.done))))))))))))))),(6,[0,0,2,6,14,30,0,64,192,510,1023,2047,4095,8191],.op 0 (.op 1 (.op 2 (.op 3 (.op 4 (.op 5 (.op 6 (.op 7 (.alt 8 (.alt 9 (.op 10 (.op 11 (.op 12 (.alt 13 (.done) (.done))))) (.done)) (.done))))))))))]} (fn:=Tryz.f117) Tryz.func117 (by kernel_rfl) (by kernel_rfl) ?_
 rintro ⟨a0,a1,⟨⟩⟩ K ⟨r,h,hK⟩
 change Zsf a0 a1=some r at h
 unfold Zsf at h
 focus
  conv=>whnf
  intro fp0
  conv=>whnf
  intro fp1
  conv=>whnf
  intro fp2
  conv=>whnf
  refine Ze h (fun nodesOf0 hb3 h=>?_)
  conv=>whnf
  refine ⟨by kernel_rfl,?_⟩
  conv=>whnf
  obtain ⟨places0,hb4,h⟩:=Option.bind_eq_some_iff.1 h
  obtain ⟨x0,he5a,he5b,he5x,h⟩:=atE h
  refine ⟨?_,?_⟩
  rotate_left
  focus
   conv=>whnf
   refine ⟨_,hb4,?_⟩
   conv=>whnf
   refine ⟨he5a,he5b,Zh he5x ?_⟩
   conv=>whnf
   refine ⟨by kernel_rfl,?_⟩
   conv=>whnf
   refine ⟨he5a,he5b,Zh he5x ?_⟩
   conv=>whnf
   refine ⟨trivial,?_⟩
  rotate_right
  focus
   conv=>whnf
   refine ⟨_,hb4,?_⟩
   conv=>whnf
   refine ⟨he5a,he5b,Zh he5x ?_⟩
   conv=>whnf
   refine ⟨by kernel_rfl,?_⟩
   conv=>whnf
   refine ⟨he5a,he5b,Zh he5x ?_⟩
   conv=>whnf
   refine ⟨trivial,?_⟩
  all_goals
   conv=>whnf
   refine ⟨by kernel_rfl,?_⟩
   conv=>whnf
   refine Ze h (fun string0 hb6 h=>?_)
   conv=>whnf
   refine Ze h (fun Instance0 hb7 h=>?_)
   conv=>whnf
   refine ⟨trivial,?_⟩
   conv=>whnf
   refine ⟨by kernel_rfl,?_⟩
   conv=>whnf
   intro fp8
   conv=>whnf
   refine Yk h (fun hp9 h=>?_)
   conv=>whnf
   intro fp10
   conv=>whnf
   refine ⟨trivial,?_⟩
   conv=>whnf
   refine ⟨by kernel_rfl,?_⟩
   conv=>whnf
   refine Yk h (fun hp11 h=>?_)
   conv=>whnf
   refine ⟨trivial,?_⟩
   conv=>whnf
   intro fp12
   conv=>whnf
   refine Yk h (fun hp13 h=>?_)
   conv=>whnf
   intro fp14
   conv=>whnf
   refine Ze h (fun setNet0 hb15 h=>?_)
   conv=>whnf
   intro fp16
   conv=>whnf
   intro fp17
   conv=>whnf
   intro fp18
   conv=>whnf
   refine Ze h (fun connect0 hb19 h=>?_)
   conv=>whnf
   intro fp20
   conv=>whnf
   intro fp21
   conv=>whnf
   intro fp22
   conv=>whnf
   cases h
   exact hK
theorem w82 (q0:Sq 113 c81):Sq 55 c82:=by
 refine Zm ZL (Zg q0 Zu) mixed {loops:=[(0,[.reg 8 (.dat Iq),.ent 3 (nat_lit 2) (.flat Znz.ety)])],draws:=[(1,[0,1,0,7,15,0,0,96,0,511,1023],.op 0 (.op 1 (.op 2 (.op 3 (.op 4 (.op 5 (.op 6 (.alt 7 (.alt 8 (.alt 9 (.op 10 (.done)) (.done)) (.done)) (.alt 8 (.alt 7 (.alt 9 (.op 10 (.done)) (.done)) (.done)) (.done)))))))))),(6,[0,0,0,0,8,0,56,120,252,508,0,1024,0,7168,15360,0,0,98304,229376,523264,1048572,2097151,4194303],.op 0 (.op 1 (.op 2 (.op 3 (.op 4 (.op 5 (.op 6 (.op 7 (.op 8 (.op 9 (.op 10 (.op 11 (.op 12 (.op 13 (.op 14 (.op 15 (.op 16 (.op 17 (.op 18 (.op 19 (.op 20 (.op 21 (.alt 22 (.done) (.done))))))))))))))))))))))))]} (fn:=Tryz.f55) Tryz.func55 (by kernel_rfl) (by kernel_rfl) ?_
 rintro ⟨b0,net0,⟨⟩⟩ K ⟨r,h,hK⟩
 change ZD5 b0 net0=some r at h
 unfold ZD5 at h
 focus
  conv=>whnf
  refine ⟨by kernel_rfl,?_⟩
  conv=>whnf
  refine vAt h (fun x0 he0a he0b he0x h=>?_)
  conv=>whnf
  obtain ⟨nodeLoads0,hb1,h⟩:=Option.bind_eq_some_iff.1 h
  refine ⟨?_,?_⟩
  rotate_left
  focus
   conv=>whnf
   refine ⟨_,hb1,?_⟩
   conv=>whnf
   refine ⟨trivial,?_⟩
  rotate_right
  focus
   conv=>whnf
   refine ⟨_,hb1,?_⟩
   conv=>whnf
   refine ⟨trivial,?_⟩
  all_goals
   conv=>whnf
   refine Yk h (fun hp2 h=>?_)
   conv=>whnf
   refine Yk h (fun hp3 h=>?_)
   conv=>whnf
   refine Yk h (fun hp4 h=>?_)
   conv=>whnf
   refine Yk h (fun hp5 h=>?_)
   conv=>whnf
   refine YH h ?_
   rintro I6 μ6 ⟨i0,l0,⟨⟩⟩ zs6 h hI6 hR6
   change ZD4 x0 nodeLoads0 i0 l0=some zs6 at h
   unfold ZD4 at h
   conv=>whnf
   refine ZG h (fun h=>?_) (fun h=>?_)
   conv=>whnf
   refine ⟨by kernel_rfl,?_⟩
   conv=>whnf
   refine vAt h (fun x1 he7a he7b he7x h=>?_)
   conv=>whnf
   refine vAt h (fun x2 he8a he8b he8x h=>?_)
   conv=>whnf
   refine ⟨by kernel_rfl,?_⟩
   conv=>whnf
   refine ⟨he8a,he8b,Zh he8x ?_⟩
   conv=>whnf
   refine vAt h (fun x3 he9a he9b he9x h=>?_)
   conv=>whnf
   refine vAt h (fun x4 he10a he10b he10x h=>?_)
   conv=>whnf
   refine ⟨by kernel_rfl,?_⟩
   conv=>whnf
   refine ⟨he10a,he10b,Zh he10x ?_⟩
   conv=>whnf
   refine vAt h (fun x5 he11a he11b he11x h=>?_)
   conv=>whnf
   refine ⟨by kernel_rfl,?_⟩
   conv=>whnf
   refine ⟨by decide,?_⟩
   conv=>whnf
   refine ⟨he11a,he11b,Zh he11x ?_⟩
   conv=>whnf
   refine ⟨trivial,?_⟩
   conv=>whnf
   cases h
   exact ⟨⟨rfl,rfl⟩,hI6 _ rfl⟩
   conv=>whnf
   cases h
   obtain rfl:=hR6 _ rfl
   exact hK
theorem ZGa (q0:Sq 83 c73):Sq 119 ZBe:=by
 refine Zm ZL (Zg q0 Zu) mixed {loops:=[(0,[.reg 16 (.dat Iq),.entm 1 (Zys.ty) (Zys.ety),.ent 2 (nat_lit 3) (.flat ZyJ.ety)])],draws:=[(7,[0,0,2,0,8,30,0,64,0,256,960,1984,4032,0,0,16384,57344,122880,262080,524224,1048575],.op 0 (.op 1 (.op 2 (.op 3 (.op 4 (.op 5 (.op 6 (.op 7 (.op 8 (.op 9 (.op 10 (.op 11 (.op 12 (.op 13 (.op 14 (.op 15 (.op 16 (.op 17 (.op 18 (.op 19 (.alt 20 (.done) (.done))))))))))))))))))))))]} (fn:=Tryz.f119) Tryz.func119 (by kernel_rfl) (by kernel_rfl) ?_
 rintro ⟨b0,⟨⟩⟩ K ⟨r,h,hK⟩
 change Zqc b0=some r at h
 unfold Zqc at h
 conv=>whnf
 refine Yk h (fun hp0 h=>?_)
 conv=>whnf
 refine Yk h (fun hp1 h=>?_)
 conv=>whnf
 refine Yk h (fun hp2 h=>?_)
 conv=>whnf
 refine Yk h (fun hp3 h=>?_)
 conv=>whnf
 refine Ze h (fun places0 hb4 h=>?_)
 conv=>whnf
 refine YH h ?_
 rintro I5 μ5 ⟨v0,m0,l0,⟨⟩⟩ zs5 h hI5 hR5
 change Zro b0 places0 v0 m0 l0=some zs5 at h
 unfold Zro at h
 conv=>whnf
 refine ZG h (fun h=>?_) (fun h=>?_)
 conv=>whnf
 refine vAt h (fun x0 he6a he6b he6x h=>?_)
 conv=>whnf
 refine ⟨by kernel_rfl,?_⟩
 conv=>whnf
 refine ⟨he6a,he6b,Zh he6x ?_⟩
 conv=>whnf
 refine Yc ?_
 refine Qn h (fun h=>?_) (fun h=>?_)
 conv=>whnf
 cases h
 exact ⟨⟨rfl,rfl⟩,hI5 _ rfl⟩
 conv=>whnf
 refine ⟨by kernel_rfl,?_⟩
 conv=>whnf
 refine vAt h (fun x1 he7a he7b he7x h=>?_)
 conv=>whnf
 refine vAt h (fun x2 he8a he8b he8x h=>?_)
 conv=>whnf
 refine ⟨by kernel_rfl,?_⟩
 conv=>whnf
 refine ⟨he8a,he8b,Zh he8x ?_⟩
 conv=>whnf
 refine vAt h (fun x3 he9a he9b he9x h=>?_)
 conv=>whnf
 refine ⟨trivial,?_⟩
 conv=>whnf
 refine ⟨he8a,he8b,Zh he8x ?_⟩
 conv=>whnf
 refine ⟨by kernel_rfl,?_⟩
 conv=>whnf
 refine ⟨he8a,he8b,Zh he8x ?_⟩
 conv=>whnf
 refine ⟨he8a,he8b,Zh he8x ?_⟩
 conv=>whnf
 refine ⟨by kernel_rfl,?_⟩
 conv=>whnf
 refine ⟨by decide,?_⟩
 conv=>whnf
 refine ⟨he8a,he8b,Zh he8x ?_⟩
 conv=>whnf
 cases h
 exact ⟨⟨rfl,rfl⟩,hI5 _ rfl⟩
 conv=>whnf
 cases h
 obtain rfl:=hR5 _ rfl
 exact hK
theorem w44:Sq 310 c44:=by
 refine Zm ZL Zu mixed {} (fn:=Tryz.f310) Tryz.func310 (by kernel_rfl) (by kernel_rfl) ?_
 rintro ⟨p0,⟨⟩⟩ K ⟨r,h,hK⟩
 change Zs8 p0=some r at h
 unfold Zs8 at h
 conv=>whnf
 cases h
 exact hK
theorem w58 (q0:Sq 278 c47) (q1:Sq 109 c35) (q2:Sq 279 c57):Sq 252 c58:=by
 refine Zm ZL (Zg q0 (Zg q1 (Zg q2 Zu))) mixed {loops:=[(0,[.reg 3 (.dat Iq),.reg 9 (.dat Iq)])],draws:=[(10,[0,1,3,7,15,31,7,71,199,511,1023,2047,4095,8191,16383,32767,65535],.op 0 (.op 1 (.op 2 (.op 3 (.op 4 (.op 5 (.op 6 (.alt 7 (.op 8 (.op 9 (.op 10 (.op 11 (.op 12 (.op 13 (.alt 14 (.op 15 (.op 16 (.done))) (.done)))))))) (.done))))))))),(12,[0,1,3,7,15,31,63,127,255,511,1023,2047,4095,8191,16383,32767,16383,131071,262143,524287,1048575],.op 0 (.op 1 (.op 2 (.op 3 (.op 4 (.op 5 (.op 6 (.op 7 (.op 8 (.op 9 (.alt 10 (.op 11 (.op 12 (.op 13 (.op 14 (.op 16 (.alt 15 (.alt 17 (.op 18 (.op 19 (.op 20 (.done)))) (.done)) (.done))))))) (.done))))))))))))]} (fn:=Tryz.f252) Tryz.func252 (by kernel_rfl) (by kernel_rfl) ?_
 rintro ⟨a0,⟨⟩⟩ K ⟨r,h,hK⟩
 change ZrZ a0=some r at h
 unfold ZrZ at h
 conv=>whnf
 refine YH h ?_
 rintro I0 μ0 ⟨v0,v1,⟨⟩⟩ zs0 h hI0 hR0
 change Zp6 a0 v0 v1=some zs0 at h
 unfold Zp6 at h
 conv=>whnf
 refine ZG h (fun h=>?_) (fun h=>?_)
 conv=>whnf
 refine vAt h (fun x0 he1a he1b he1x h=>?_)
 conv=>whnf
 refine Qn h (fun h=>?_) (fun h=>?_)
 conv=>whnf
 cases h
 exact ⟨⟨rfl,rfl⟩,hI0 _ rfl⟩
 conv=>whnf
 cases h
 exact ⟨⟨rfl,rfl⟩,hI0 _ rfl⟩
 conv=>whnf
 refine ZG h (fun h=>?_) (fun h=>?_)
 conv=>whnf
 refine ⟨by kernel_rfl,?_⟩
 conv=>whnf
 refine ZG h (fun h=>?_) (fun h=>?_)
 conv=>whnf
 refine Ze h (fun output0 hb2 h=>?_)
 conv=>whnf
 refine Yk h (fun hp3 h=>?_)
 conv=>whnf
 refine ZG h (fun h=>?_) (fun h=>?_)
 conv=>whnf
 refine Ze h (fun areWithin0 hb4 h=>?_)
 conv=>whnf
 refine ⟨trivial,?_⟩
 conv=>whnf
 cases h
 obtain rfl:=hR0 _ rfl
 exact hK
 conv=>whnf
 refine ⟨trivial,?_⟩
 conv=>whnf
 cases h
 obtain rfl:=hR0 _ rfl
 exact hK
 conv=>whnf
 refine ⟨trivial,?_⟩
 conv=>whnf
 cases h
 obtain rfl:=hR0 _ rfl
 exact hK
 conv=>whnf
 refine ZG h (fun h=>?_) (fun h=>?_)
 conv=>whnf
 refine ⟨by kernel_rfl,?_⟩
 conv=>whnf
 refine ZG h (fun h=>?_) (fun h=>?_)
 conv=>whnf
 refine ZG h (fun h=>?_) (fun h=>?_)
 conv=>whnf
 refine Ze h (fun has0 hb5 h=>?_)
 conv=>whnf
 refine Yc ?_
 refine Qn h (fun h=>?_) (fun h=>?_)
 conv=>whnf
 refine ⟨trivial,?_⟩
 conv=>whnf
 cases h
 obtain rfl:=hR0 _ rfl
 exact hK
 conv=>whnf
 refine Ze h (fun has1 hb6 h=>?_)
 conv=>whnf
 refine Ze h (fun has2 hb7 h=>?_)
 conv=>whnf
 refine ⟨trivial,?_⟩
 conv=>whnf
 cases h
 obtain rfl:=hR0 _ rfl
 exact hK
 conv=>whnf
 refine ⟨trivial,?_⟩
 conv=>whnf
 cases h
 obtain rfl:=hR0 _ rfl
 exact hK
 conv=>whnf
 refine ⟨trivial,?_⟩
 conv=>whnf
 cases h
 obtain rfl:=hR0 _ rfl
 exact hK
 conv=>whnf
 refine ZG h (fun h=>?_) (fun h=>?_)
 conv=>whnf
 refine ZG h (fun h=>?_) (fun h=>?_)
 conv=>whnf
 refine ZG h (fun h=>?_) (fun h=>?_)
 conv=>whnf
 refine Ze h (fun has0 hb8 h=>?_)
 conv=>whnf
 refine Qn h (fun h=>?_) (fun h=>?_)
 conv=>whnf
 refine Ze h (fun has1 hb9 h=>?_)
 conv=>whnf
 refine Qn h (fun h=>?_) (fun h=>?_)
 conv=>whnf
 refine Ze h (fun has2 hb10 h=>?_)
 conv=>whnf
 cases h
 obtain rfl:=hR0 _ rfl
 exact hK
 conv=>whnf
 cases h
 obtain rfl:=hR0 _ rfl
 exact hK
 conv=>whnf
 cases h
 obtain rfl:=hR0 _ rfl
 exact hK
 conv=>whnf
 cases h
 obtain rfl:=hR0 _ rfl
 exact hK
 conv=>whnf
 cases h
 obtain rfl:=hR0 _ rfl
 exact hK
 conv=>whnf
 cases h
 obtain rfl:=hR0 _ rfl
 exact hK
theorem ZDU (q1:Sq 31 c76) (q0:Sq 81 ZA6):Sq 30 c124:=by
 refine Zm ZL (Zg q1 (Zg q0 Zu)) mixed {} (fn:=Tryz.f30) Tryz.func30 (by kernel_rfl) (by kernel_rfl) ?_
 rintro ⟨b0,e0,⟨⟩⟩ K ⟨r,h,hK⟩
 change ZqE b0 e0=some r at h
 unfold ZqE at h
 conv=>whnf
 refine Ze h (fun IsBlock0 hb0 h=>?_)
 conv=>whnf
 refine Yc ?_
 refine Qn h (fun h=>?_) (fun h=>?_)
 conv=>whnf
 refine Ze h (fun code0 hb1 h=>?_)
 conv=>whnf
 cases h
 exact hK
 conv=>whnf
 cases h
 exact hK
theorem ZF1 (q1:Sq 151 ZA1) (q0:Sq 152 ZA5):Sq 81 ZA6:=by
 refine Zm ZL (Zg q1 (Zg q0 Zu)) mixed {} (fn:=Tryz.f81) Tryz.func81 (by kernel_rfl) (by kernel_rfl) ?_
 rintro ⟨e0,b0,⟨⟩⟩ K ⟨r,h,hK⟩
 change ZsA e0 b0=some r at h
 unfold ZsA at h
 conv=>whnf
 refine Ze h (fun isInRange0 hb0 h=>?_)
 conv=>whnf
 refine Yc ?_
 refine Qn h (fun h=>?_) (fun h=>?_)
 conv=>whnf
 refine Ze h (fun isPossible0 hb1 h=>?_)
 conv=>whnf
 refine Yc ?_
 refine Qn h (fun h=>?_) (fun h=>?_)
 conv=>whnf
 refine ZG h (fun h=>?_) (fun h=>?_)
 conv=>whnf
 refine ZcV h (fun h=>?_) (fun h=>?_)
 conv=>whnf
 cases h
 exact hK
 conv=>whnf
 refine ZG h (fun h=>?_) (fun h=>?_)
 conv=>whnf
 cases h
 exact hK
 conv=>whnf
 cases h
 exact hK
 conv=>whnf
 cases h
 exact hK
 conv=>whnf
 cases h
 exact hK
 conv=>whnf
 cases h
 exact hK
theorem ZF0 (q2:Sq 83 c73) (q5:Sq 210 ZA4) (q6:Sq 211 c116) (q7:Sq 212 c24) (q3:Sq 213 c119) (q1:Sq 214 ZAK) (q0:Sq 215 ZAL) (q4:Sq 158 c31) (q8:Sq 84 c75):Sq 152 ZA5:=by
 refine Zm ZL (Zg q2 (Zg q5 (Zg q6 (Zg q7 (Zg q3 (Zg q1 (Zg q0 (Zg q4 (Zg q8 Zu))))))))) mixed {draws:=[(6,[0,1,3,7,15,31,63,127,255,511,1023,255,2303,255,8447,30975,63743,129279,262143,524287,255,1048831,3145983,255,8388863,32506111,66060543,134217727,268435455,536870911],.op 0 (.op 1 (.op 2 (.op 3 (.op 4 (.op 5 (.op 6 (.op 7 (.op 8 (.op 9 (.op 10 (.op 11 (.op 12 (.op 13 (.op 14 (.op 15 (.op 16 (.op 17 (.op 18 (.op 19 (.op 20 (.op 21 (.op 22 (.op 23 (.op 24 (.op 25 (.op 26 (.alt 27 (.op 28 (.op 29 (.done))) (.done))))))))))))))))))))))))))))),(12,[0,0,2,7,15,31,63,127,255,255,767,2047,4095,8191,255,16639,65535,131071,262143],.op 0 (.op 1 (.op 2 (.op 3 (.op 4 (.op 5 (.op 6 (.op 7 (.op 8 (.op 9 (.op 10 (.op 11 (.op 12 (.op 13 (.op 14 (.op 15 (.op 16 (.op 17 (.op 18 (.done)))))))))))))))))))),(13,[0,1,0,4,0,16,60,124,252,508,1023,2047],.op 0 (.op 1 (.op 2 (.op 3 (.op 4 (.op 5 (.op 6 (.op 7 (.op 8 (.alt 9 (.alt 10 (.op 11 (.done)) (.done)) (.done)))))))))))]} (fn:=Tryz.f152) Tryz.func152 (by kernel_rfl) (by kernel_rfl) ?_
 rintro ⟨a0,a1,⟨⟩⟩ K ⟨r,h,hK⟩
 change Zrh a0 a1=some r at h
 unfold Zrh at h
 conv=>whnf
 refine Ze h (fun places0 hb0 h=>?_)
 conv=>whnf
 refine ZG h (fun h=>?_) (fun h=>?_)
 conv=>whnf
 refine vAt h (fun x0 he1a he1b he1x h=>?_)
 conv=>whnf
 refine ⟨by kernel_rfl,?_⟩
 conv=>whnf
 refine ⟨he1a,he1b,Zh he1x ?_⟩
 conv=>whnf
 refine ⟨by kernel_rfl,?_⟩
 conv=>whnf
 refine ZG h (fun h=>?_) (fun h=>?_)
 conv=>whnf
 refine Qn h (fun h=>?_) (fun h=>?_)
 conv=>whnf
 refine vAt h (fun x1 he2a he2b he2x h=>?_)
 conv=>whnf
 refine vAt h (fun x2 he3a he3b he3x h=>?_)
 conv=>whnf
 refine vAt h (fun x3 he4a he4b he4x h=>?_)
 conv=>whnf
 refine Ze h (fun fitsSwap0 hb5 h=>?_)
 conv=>whnf
 refine ⟨trivial,?_⟩
 conv=>whnf
 cases h
 exact hK
 conv=>whnf
 refine ⟨trivial,?_⟩
 conv=>whnf
 cases h
 exact hK
 conv=>whnf
 refine ⟨trivial,?_⟩
 conv=>whnf
 cases h
 exact hK
 conv=>whnf
 refine ZG h (fun h=>?_) (fun h=>?_)
 conv=>whnf
 refine vAt h (fun x0 he6a he6b he6x h=>?_)
 conv=>whnf
 refine ⟨by kernel_rfl,?_⟩
 conv=>whnf
 refine ⟨he6a,he6b,Zh he6x ?_⟩
 conv=>whnf
 refine Yc ?_
 refine Qn h (fun h=>?_) (fun h=>?_)
 conv=>whnf
 cases h
 exact hK
 conv=>whnf
 refine vAt h (fun x1 he7a he7b he7x h=>?_)
 conv=>whnf
 refine Ze h (fun isBuffer0 hb8 h=>?_)
 conv=>whnf
 refine Qn h (fun h=>?_) (fun h=>?_)
 conv=>whnf
 refine Ze h (fun isName0 hb9 h=>?_)
 conv=>whnf
 refine Qn h (fun h=>?_) (fun h=>?_)
 conv=>whnf
 refine Ze h (fun InstanceNamed0 hb10 h=>?_)
 conv=>whnf
 refine ZG h (fun h=>?_) (fun h=>?_)
 conv=>whnf
 refine Ze h (fun netNamed0 hb11 h=>?_)
 conv=>whnf
 cases h
 exact hK
 conv=>whnf
 cases h
 exact hK
 conv=>whnf
 cases h
 exact hK
 conv=>whnf
 cases h
 exact hK
 conv=>whnf
 refine ZG h (fun h=>?_) (fun h=>?_)
 conv=>whnf
 refine Ze h (fun canUnbuffer0 hb12 h=>?_)
 conv=>whnf
 cases h
 exact hK
 conv=>whnf
 refine ZG h (fun h=>?_) (fun h=>?_)
 conv=>whnf
 refine ⟨by kernel_rfl,?_⟩
 conv=>whnf
 refine vAt h (fun x0 he13a he13b he13x h=>?_)
 conv=>whnf
 refine ⟨by kernel_rfl,?_⟩
 conv=>whnf
 refine ⟨he13a,he13b,Zh he13x ?_⟩
 conv=>whnf
 refine Yc ?_
 refine Qn h (fun h=>?_) (fun h=>?_)
 conv=>whnf
 refine ⟨trivial,?_⟩
 conv=>whnf
 cases h
 exact hK
 conv=>whnf
 refine ⟨he13a,he13b,Zh he13x ?_⟩
 conv=>whnf
 refine ⟨by kernel_rfl,?_⟩
 conv=>whnf
 refine ⟨he13a,he13b,Zh he13x ?_⟩
 conv=>whnf
 refine ⟨trivial,?_⟩
 conv=>whnf
 cases h
 exact hK
 conv=>whnf
 refine ⟨by kernel_rfl,?_⟩
 conv=>whnf
 refine vAt h (fun x0 he14a he14b he14x h=>?_)
 conv=>whnf
 refine Ze h (fun int64_0 hb15 h=>?_)
 conv=>whnf
 refine Ze h (fun IsWire0 hb16 h=>?_)
 conv=>whnf
 refine ⟨trivial,?_⟩
 conv=>whnf
 cases h
 exact hK
theorem ZFV:Sq 248 c117:=by
 refine Zm ZL Zu mixed {} (fn:=Tryz.f248) Tryz.func248 (by kernel_rfl) (by kernel_rfl) ?_
 rintro ⟨x0,a0,⟨⟩⟩ K ⟨r,h,hK⟩
 change Zr8 x0 a0=some r at h
 unfold Zr8 at h
 conv=>whnf
 cases h
 exact hK
theorem ZGi (q1:Sq 54 c77) (q0:Sq 113 c81):Sq 59 c143:=by
 refine Zm ZL (Zg q1 (Zg q0 Zu)) mixed {} (fn:=Tryz.f59) Tryz.func59 (by kernel_rfl) (by kernel_rfl) ?_
 rintro ⟨b0,net0,⟨⟩⟩ K ⟨r,h,hK⟩
 change ZEk b0 net0=some r at h
 unfold ZEk at h
 conv=>whnf
 refine Ze h (fun netCode0 hb0 h=>?_)
 conv=>whnf
 refine Yc ?_
 refine ZG h (fun h=>?_) (fun h=>?_)
 conv=>whnf
 refine Ze h (fun nodeLoads0 hb1 h=>?_)
 conv=>whnf
 cases h
 exact hK
 conv=>whnf
 cases h
 exact hK
theorem w35 (q0:Sq 189 c34):Sq 109 c35:=by
 refine Zm ZL (Zg q0 Zu) mixed {} (fn:=Tryz.f109) Tryz.func109 (by kernel_rfl) (by kernel_rfl) ?_
 rintro ⟨list0,low0,high0,⟨⟩⟩ K ⟨r,h,hK⟩
 change Qf list0 low0 high0=some r at h
 unfold Qf at h
 conv=>whnf
 refine Ze h (fun c1_0 hb0 h=>?_)
 conv=>whnf
 cases h
 exact hK
theorem w30:Sq 292 c30:=by
 refine Zm ZL Zu mixed {} (fn:=Tryz.f292) Tryz.func292 (by kernel_rfl) (by kernel_rfl) ?_
 rintro ⟨kind0,⟨⟩⟩ K ⟨r,h,hK⟩
 change Zuq kind0=some r at h
 unfold Zuq at h
 conv=>whnf
 refine ZcV h (fun h=>?_) (fun h=>?_)
 conv=>whnf
 cases h
 exact hK
 conv=>whnf
 cases h
 exact hK
theorem w36:Sq 133 c36:=by
 refine Zm ZL Zu mixed {loops:=[(0,[.reg 3 (.dat Iq)])],draws:=[(4,[0,0,2,7,15,0,0,96,224,511],.op 0 (.op 1 (.op 2 (.op 3 (.op 4 (.op 5 (.op 6 (.op 7 (.op 8 (.op 9 (.done)))))))))))]} (fn:=Tryz.f133) Tryz.func133 (by kernel_rfl) (by kernel_rfl) ?_
 rintro ⟨list0,⟨⟩⟩ K ⟨r,h,hK⟩
 change Zsi list0=some r at h
 unfold Zsi at h
 conv=>whnf
 refine YH h ?_
 rintro I0 μ0 ⟨i0,⟨⟩⟩ zs0 h hI0 hR0
 change Zqf list0 i0=some zs0 at h
 unfold Zqf at h
 conv=>whnf
 refine ZG h (fun h=>?_) (fun h=>?_)
 conv=>whnf
 refine ⟨by kernel_rfl,?_⟩
 conv=>whnf
 refine vAt h (fun x0 he1a he1b he1x h=>?_)
 conv=>whnf
 refine vAt h (fun x1 he2a he2b he2x h=>?_)
 conv=>whnf
 refine ⟨trivial,?_⟩
 conv=>whnf
 refine ZG h (fun h=>?_) (fun h=>?_)
 conv=>whnf
 cases h
 obtain rfl:=hR0 _ rfl
 exact hK
 conv=>whnf
 cases h
 exact ⟨⟨rfl,rfl⟩,hI0 _ rfl⟩
 conv=>whnf
 cases h
 obtain rfl:=hR0 _ rfl
 exact hK
theorem w24 (q2:Sq 159 c23) (q1:Sq 245 ZaX) (q0:Sq 246 V9):Sq 212 c24:=by
 refine Zm ZL (Zg q2 (Zg q1 (Zg q0 Zu))) mixed {} (fn:=Tryz.f212) Tryz.func212 (by kernel_rfl) (by kernel_rfl) ?_
 rintro ⟨s0,⟨⟩⟩ K ⟨r,h,hK⟩
 change VD s0=some r at h
 unfold VD at h
 conv=>whnf
 refine Ze h (fun within0 hb0 h=>?_)
 conv=>whnf
 refine Qn h (fun h=>?_) (fun h=>?_)
 conv=>whnf
 refine Yk h (fun hp1 h=>?_)
 conv=>whnf
 refine ⟨by decide,?_⟩
 conv=>whnf
 refine ⟨by kernel_rfl,?_⟩
 conv=>whnf
 refine ZG h (fun h=>?_) (fun h=>?_)
 conv=>whnf
 refine vAt h (fun x0 he2a he2b he2x h=>?_)
 conv=>whnf
 cases h
 exact hK
 conv=>whnf
 cases h
 exact hK
 conv=>whnf
 cases h
 exact hK
theorem w77 (q1:Sq 31 c76) (q0:Sq 112 c64):Sq 54 c77:=by
 refine Zm ZL (Zg q1 (Zg q0 Zu)) mixed {} (fn:=Tryz.f54) Tryz.func54 (by kernel_rfl) (by kernel_rfl) ?_
 rintro ⟨b0,net0,⟨⟩⟩ K ⟨r,h,hK⟩
 change ZEa b0 net0=some r at h
 unfold ZEa at h
 conv=>whnf
 refine Ze h (fun IsBlock0 hb0 h=>?_)
 conv=>whnf
 refine Yc ?_
 refine Qn h (fun h=>?_) (fun h=>?_)
 conv=>whnf
 refine Ze h (fun isNet0 hb1 h=>?_)
 conv=>whnf
 refine Yc ?_
 refine Qn h (fun h=>?_) (fun h=>?_)
 conv=>whnf
 cases h
 exact hK
 conv=>whnf
 cases h
 exact hK
 conv=>whnf
 cases h
 exact hK
theorem ZF2:Sq 232 ZA7:=by
 refine Zm ZL Zu mixed {} (fn:=Tryz.f232) Tryz.func232 (by kernel_rfl) (by kernel_rfl) ?_
 rintro ⟨s0,⟨⟩⟩ K ⟨r,h,hK⟩
 change Zqq s0=some r at h
 unfold Zqq at h
 conv=>whnf
 refine ⟨fun hd=>?_,?_⟩
 have h:=ZoV (T:=(some ([]:List ZhU))) h (by simp [hd,Zj])
 conv=>whnf
 cases h
 exact hK
 conv=>whnf
 refine Yk h (fun hp0 h=>?_)
 conv=>whnf
 cases h
 exact hK
theorem w27 (q0:Sq 249 c26):Sq 230 c27:=by
 refine Zm ZL (Zg q0 Zu) mixed {} (fn:=Tryz.f230) Tryz.func230 (by kernel_rfl) (by kernel_rfl) ?_
 rintro ⟨s0,v0,⟨⟩⟩ K ⟨r,h,hK⟩
 change ZJ s0 v0=some r at h
 unfold ZJ at h
 conv=>whnf
 refine Ze h (fun string0 hb0 h=>?_)
 conv=>whnf
 cases h
 exact hK
theorem w55 (q0:Sq 297 c54):Sq 296 c55:=by
 refine Zm ZL (Zg q0 Zu) mixed {loops:=[(0,[.reg 8 (.dat Iq)])]} (fn:=Tryz.f296) Tryz.func296 (by kernel_rfl) (by kernel_rfl) ?_
 rintro ⟨s0,f0,⟨⟩⟩ K ⟨r,h,hK⟩
 change Zps s0 f0=some r at h
 unfold Zps at h
 conv=>whnf
 refine YH h ?_
 rintro I0 μ0 ⟨v0,⟨⟩⟩ zs0 h hI0 hR0
 change ZpB s0 f0 v0=some zs0 at h
 unfold ZpB at h
 conv=>whnf
 refine ZG h (fun h=>?_) (fun h=>?_)
 conv=>whnf
 refine vAt h (fun x0 he1a he1b he1x h=>?_)
 conv=>whnf
 refine Ze h (fun c1_0 hb2 h=>?_)
 conv=>whnf
 refine Qn h (fun h=>?_) (fun h=>?_)
 conv=>whnf
 cases h
 obtain rfl:=hR0 _ rfl
 exact hK
 conv=>whnf
 cases h
 exact ⟨⟨rfl,rfl⟩,hI0 _ rfl⟩
 conv=>whnf
 cases h
 obtain rfl:=hR0 _ rfl
 exact hK
theorem w39:Sq 308 c39:=by
 refine Zm ZL Zu mixed {loops:=[(0,[.reg 3 (.dat Iq),.reg 4 (.dat Iq)])]} (fn:=Tryz.f308) Tryz.func308 (by kernel_rfl) (by kernel_rfl) ?_
 rintro ⟨x0,⟨⟩⟩ K ⟨r,h,hK⟩
 change ZqG x0=some r at h
 unfold ZqG at h
 conv=>whnf
 refine ZG h (fun h=>?_) (fun h=>?_)
 conv=>whnf
 cases h
 conv=>whnf
 refine vAt h (fun x1 he0a he0b he0x h=>?_)
 conv=>whnf
 refine YH h ?_
 rintro I1 μ1 ⟨m0,i0,⟨⟩⟩ zs1 h hI1 hR1
 change ZqA x0 m0 i0=some zs1 at h
 unfold ZqA at h
 conv=>whnf
 refine ZG h (fun h=>?_) (fun h=>?_)
 conv=>whnf
 refine vAt h (fun x2 he2a he2b he2x h=>?_)
 conv=>whnf
 cases h
 exact ⟨⟨rfl,rfl⟩,hI1 _ rfl⟩
 conv=>whnf
 cases h
 obtain rfl:=hR1 _ rfl
 exact hK
theorem w2:Sq 44 c2:=by
 refine Zm ZL Zu mixed {draws:=[(3,[0,1,3,7,0,16,48,112,240,511],.op 0 (.op 1 (.op 2 (.op 3 (.op 4 (.op 5 (.op 6 (.op 7 (.op 8 (.op 9 (.done))))))))))),(4,[0,1,3,7,0,16,48,112,255,511,1023,2047],.op 0 (.op 1 (.op 2 (.op 3 (.op 4 (.op 5 (.op 6 (.op 7 (.op 8 (.op 9 (.alt 10 (.op 11 (.done)) (.done))))))))))))]} (fn:=Tryz.f44) Tryz.func44 (by kernel_rfl) (by kernel_rfl) ?_
 rintro ⟨a0,a1,⟨⟩⟩ K ⟨r,h,hK⟩
 change Zc a0 a1=some r at h
 unfold Zc at h
 conv=>whnf
 refine ZG h (fun h=>?_) (fun h=>?_)
 conv=>whnf
 cases h
 exact hK
 conv=>whnf
 refine ⟨by kernel_rfl,?_⟩
 conv=>whnf
 refine ⟨trivial,?_⟩
 conv=>whnf
 refine ZG h (fun h=>?_) (fun h=>?_)
 conv=>whnf
 refine ⟨by kernel_rfl,?_⟩
 conv=>whnf
 refine vAt h (fun x0 he0a he0b he0x h=>?_)
 conv=>whnf
 refine ⟨trivial,?_⟩
 conv=>whnf
 refine ZG h (fun h=>?_) (fun h=>?_)
 conv=>whnf
 refine Yk h (fun hp1 h=>?_)
 conv=>whnf
 cases h
 exact hK
 conv=>whnf
 refine ⟨by decide,?_⟩
 conv=>whnf
 refine Yk h (fun hp2 h=>?_)
 conv=>whnf
 cases h
 exact hK
 conv=>whnf
 refine ⟨by decide,?_⟩
 conv=>whnf
 refine ⟨by decide,?_⟩
 conv=>whnf
 refine Yk h (fun hp3 h=>?_)
 conv=>whnf
 cases h
 exact hK
theorem w87 (q0:Sq 114 c85):Sq 327 c87:=by
 refine Zm ZL (Zg q0 Zu) mixed {loops:=[(0,[.reg 3 (.dat Iq)])],draws:=[(4,[0,0,3,7,15,31,63,127,255,511,1023,1023,3071,8191,16383,1023,1023,99327,230399,524287,1048575,2097151],.op 0 (.op 1 (.op 2 (.op 3 (.alt 4 (.op 5 (.op 6 (.op 7 (.op 8 (.op 9 (.op 10 (.op 11 (.op 12 (.op 13 (.op 14 (.op 15 (.op 16 (.op 17 (.op 18 (.op 19 (.op 20 (.op 21 (.done)))))))))))))))))) (.done))))))]} (fn:=Tryz.f327) Tryz.func327 (by kernel_rfl) (by kernel_rfl) ?_
 rintro ⟨list0,⟨⟩⟩ K ⟨r,h,hK⟩
 change ZtG list0=some r at h
 unfold ZtG at h
 conv=>whnf
 refine YH h ?_
 rintro I0 μ0 ⟨i0,⟨⟩⟩ zs0 h hI0 hR0
 change Zti list0 i0=some zs0 at h
 unfold Zti at h
 conv=>whnf
 refine ZG h (fun h=>?_) (fun h=>?_)
 conv=>whnf
 refine ⟨by kernel_rfl,?_⟩
 conv=>whnf
 refine vAt h (fun x0 he1a he1b he1x h=>?_)
 conv=>whnf
 refine Ze h (fun l01In0 hb2 h=>?_)
 conv=>whnf
 refine Zj4 ?_
 refine Qn h (fun h=>?_) (fun h=>?_)
 conv=>whnf
 refine ZG h (fun h=>?_) (fun h=>?_)
 conv=>whnf
 refine vAt h (fun x1 he3a he3b he3x h=>?_)
 conv=>whnf
 refine ⟨he1a,he1b,Zh he1x ?_⟩
 conv=>whnf
 refine ⟨trivial,?_⟩
 conv=>whnf
 refine ZG h (fun h=>?_) (fun h=>?_)
 conv=>whnf
 cases h
 obtain rfl:=hR0 _ rfl
 exact hK
 conv=>whnf
 cases h
 exact ⟨⟨rfl,rfl⟩,hI0 _ rfl⟩
 conv=>whnf
 refine ⟨trivial,?_⟩
 conv=>whnf
 cases h
 exact ⟨⟨rfl,rfl⟩,hI0 _ rfl⟩
 conv=>whnf
 refine ⟨trivial,?_⟩
 conv=>whnf
 cases h
 obtain rfl:=hR0 _ rfl
 exact hK
 conv=>whnf
 refine ZG h (fun h=>?_) (fun h=>?_)
 conv=>whnf
 cases h
 obtain rfl:=hR0 _ rfl
 exact hK
 conv=>whnf
 cases h
 obtain rfl:=hR0 _ rfl
 exact hK
theorem w90 (q0:Sq 300 c89):Sq 285 c90:=by
 refine Zm ZL (Zg q0 Zu) mixed {loops:=[(0,[.reg 5 (.dat Iq)])]} (fn:=Tryz.f285) Tryz.func285 (by kernel_rfl) (by kernel_rfl) ?_
 rintro ⟨list0,positive0,⟨⟩⟩ K ⟨r,h,hK⟩
 change ZpG list0 positive0=some r at h
 unfold ZpG at h
 conv=>whnf
 refine Yc ?_
 refine ZG h (fun h=>?_) (fun h=>?_)
 conv=>whnf
 refine YH h ?_
 rintro I0 μ0 ⟨i0,⟨⟩⟩ zs0 h hI0 hR0
 change Zsy list0 positive0 i0=some zs0 at h
 unfold Zsy at h
 conv=>whnf
 refine ZG h (fun h=>?_) (fun h=>?_)
 conv=>whnf
 refine vAt h (fun x0 he1a he1b he1x h=>?_)
 conv=>whnf
 refine Ze h (fun TableBounds0 hb2 h=>?_)
 conv=>whnf
 refine Zj4 ?_
 refine ZG h (fun h=>?_) (fun h=>?_)
 conv=>whnf
 refine Qn h (fun h=>?_) (fun h=>?_)
 conv=>whnf
 refine ZG h (fun h=>?_) (fun h=>?_)
 conv=>whnf
 cases h
 obtain rfl:=hR0 _ rfl
 exact hK
 conv=>whnf
 cases h
 exact ⟨⟨rfl,rfl⟩,hI0 _ rfl⟩
 conv=>whnf
 cases h
 exact ⟨⟨rfl,rfl⟩,hI0 _ rfl⟩
 conv=>whnf
 cases h
 obtain rfl:=hR0 _ rfl
 exact hK
 conv=>whnf
 cases h
 obtain rfl:=hR0 _ rfl
 exact hK
 conv=>whnf
 cases h
 exact hK
theorem w12 (q1:Sq 44 c2) (q0:Sq 163 c11):Sq 198 c12:=by
 refine Zm VX (Zg q1 (Zg q0 Zu)) mixed {loops:=[(0,[.reg 9 (.own (.ol 193 (Zbr))),.reg 10 (.own (.ol 9 (.flat (.str)))),.reg 11 (.dat Iq),.cell 1000 0 (.sl (.int .u8)),.cell 1000 1 Iq,.cell 1000 2 Iq]),(2,[.reg 14 (.dat Iq),.cell 1000 0 (.sl (.int .u8)),.cell 1000 1 Iq,.cell 1000 2 Iq,.cello 1013 2 (.ol 2 (.flat Iq))]),(4,[.reg 16 (.dat Iq),.cell 1000 0 (.sl (.int .u8)),.cell 1000 1 Iq,.cell 1000 2 Iq,.ent 9 (nat_lit 193) (Dp.pair (Dp.flat Ty.str) (Dp.pair (Dp.flat (Ty.int IntKind.i64)) (Dp.pair (Dp.ol (2:Go.TypeId) (Dp.flat (Ty.int IntKind.i64))) (Dp.flat Ty.unit))))])],draws:=[(27,[0,0,3,7,15,0,0,64,192,480,992,2047,4095],.op 0 (.op 1 (.op 2 (.op 3 (.op 5 (.op 6 (.op 7 (.op 8 (.alt 4 (.alt 9 (.op 10 (.op 11 (.alt 12 (.done) (.done)))) (.done)) (.alt 9 (.op 10 (.alt 4 (.op 11 (.alt 12 (.done) (.done))) (.done))) (.done)))))))))))]} (fn:=Tryz.f198) Tryz.func198 (by kernel_rfl) (by kernel_rfl) ?_
 rintro ⟨a0,a1,a2,⟨⟩⟩ K ⟨r,h,hK⟩
 change Vh a0 a1 a2=some r at h
 unfold Vh at h
 conv=>whnf
 intro fp0
 conv=>whnf
 refine ⟨by decide,?_⟩
 conv=>whnf
 refine Ze h (fun l01Next0 hb1 h=>?_)
 conv=>whnf
 refine YH h ?_
 rintro I2 μ2 ⟨v0,v1,v2,c0,c1,c2,⟨⟩⟩ zs2 h hI2 hR2
 change Xx a2 v0 v1 v2 c0 c1 c2=some zs2 at h
 unfold Xx at h
 conv=>whnf
 intro fp3
 conv=>whnf
 refine ZG h (fun h=>?_) (fun h=>?_)
 conv=>whnf
 refine Ze h (fun l01Next1 hb4 h=>?_)
 conv=>whnf
 refine vAt h (fun x0 he5a he5b he5x h=>?_)
 conv=>whnf
 refine ⟨by kernel_rfl,?_⟩
 conv=>whnf
 refine ⟨he5a,he5b,Zh he5x ?_⟩
 conv=>whnf
 refine Ze h (fun l01Number0 hb6 h=>?_)
 conv=>whnf
 refine Yk h (fun hp7 h=>?_)
 conv=>whnf
 refine YH h ?_
 rintro I8 μ8 ⟨v3,c3,c4,c5,c6,⟨⟩⟩ zs8 h hI8 hR8
 change Xv v0 v1 v2 x0 l01Number0 v3 c3 c4 c5 c6=some zs8 at h
 unfold Xv at h
 conv=>whnf
 refine vAt h (fun x1 he9a he9b he9x h=>?_)
 conv=>whnf
 refine ⟨by kernel_rfl,?_⟩
 conv=>whnf
 refine ⟨he9a,he9b,Zh he9x ?_⟩
 conv=>whnf
 refine ZG h (fun h=>?_) (fun h=>?_)
 conv=>whnf
 refine Ze h (fun l01Next2 hb10 h=>?_)
 conv=>whnf
 refine Ze h (fun l01Next3 hb11 h=>?_)
 conv=>whnf
 refine ZG h (fun h=>?_) (fun h=>?_)
 conv=>whnf
 refine ZG h (fun h=>?_) (fun h=>?_)
 conv=>whnf
 refine ZG h (fun h=>?_) (fun h=>?_)
 conv=>whnf
 refine Yk h (fun hp12 h=>?_)
 conv=>whnf
 refine Yk h (fun hp13 h=>?_)
 conv=>whnf
 cases h
 exact ⟨⟨rfl,rfl⟩,hI8 _ rfl⟩
 conv=>whnf
 refine Yk h (fun hp14 h=>?_)
 conv=>whnf
 refine Yk h (fun hp15 h=>?_)
 conv=>whnf
 cases h
 exact ⟨⟨rfl,rfl⟩,hI8 _ rfl⟩
 conv=>whnf
 refine Yk h (fun hp16 h=>?_)
 conv=>whnf
 refine Yk h (fun hp17 h=>?_)
 conv=>whnf
 cases h
 exact ⟨⟨rfl,rfl⟩,hI8 _ rfl⟩
 conv=>whnf
 refine ZG h (fun h=>?_) (fun h=>?_)
 conv=>whnf
 refine ZG h (fun h=>?_) (fun h=>?_)
 conv=>whnf
 refine Yk h (fun hp18 h=>?_)
 conv=>whnf
 refine Yk h (fun hp19 h=>?_)
 conv=>whnf
 cases h
 exact ⟨⟨rfl,rfl⟩,hI8 _ rfl⟩
 conv=>whnf
 refine Yk h (fun hp20 h=>?_)
 conv=>whnf
 refine Yk h (fun hp21 h=>?_)
 conv=>whnf
 cases h
 exact ⟨⟨rfl,rfl⟩,hI8 _ rfl⟩
 conv=>whnf
 refine Yk h (fun hp22 h=>?_)
 conv=>whnf
 refine Yk h (fun hp23 h=>?_)
 conv=>whnf
 cases h
 exact ⟨⟨rfl,rfl⟩,hI8 _ rfl⟩
 conv=>whnf
 refine Yk h (fun hp24 h=>?_)
 conv=>whnf
 refine Yk h (fun hp25 h=>?_)
 conv=>whnf
 refine Ze h (fun l01Number1 hb26 h=>?_)
 conv=>whnf
 refine Yk h (fun hp27 h=>?_)
 conv=>whnf
 refine Yk h (fun hp28 h=>?_)
 conv=>whnf
 intro fp29
 conv=>whnf
 refine Yk h (fun hp30 h=>?_)
 conv=>whnf
 intro fp31
 conv=>whnf
 cases h
 obtain rfl:=hR8 _ rfl
 exact ⟨⟨rfl,rfl⟩,hI2 _ rfl⟩
 conv=>whnf
 refine YH h ?_
 rintro I32 μ32 ⟨v3,c3,c4,c5,l0,⟨⟩⟩ zs32 h hI32 hR32
 change Xw a2 v1 v3 c3 c4 c5 l0=some zs32 at h
 unfold Xw at h
 conv=>whnf
 intro fp33
 conv=>whnf
 refine ZG h (fun h=>?_) (fun h=>?_)
 conv=>whnf
 refine Ze h (fun l01Next1 hb34 h=>?_)
 conv=>whnf
 refine ZG h (fun h=>?_) (fun h=>?_)
 conv=>whnf
 refine vAt h (fun x0 he35a he35b he35x h=>?_)
 conv=>whnf
 refine ⟨he35a,he35b,Zh he35x ?_⟩
 conv=>whnf
 intro fp36
 conv=>whnf
 refine ZcV h (fun h=>?_) (fun h=>?_)
 focus
  conv=>whnf
  refine ⟨by kernel_rfl,?_⟩
  conv=>whnf
  refine ⟨he35a,he35b,Zh he35x ?_⟩
  conv=>whnf
  obtain ⟨l01Next2,hb37,h⟩:=Option.bind_eq_some_iff.1 h
  obtain ⟨x1,he38a,he38b,he38x,h⟩:=atE h
  refine ⟨?_,?_⟩
  rotate_left
  focus
   conv=>whnf
   refine ⟨_,hb37,?_⟩
   conv=>whnf
   refine .inl ⟨rfl,?_⟩
   conv=>whnf
   refine ⟨he38a,he38b,Zh he38x ?_⟩
   conv=>whnf
   refine ⟨by kernel_rfl,?_⟩
   conv=>whnf
   refine ⟨by decide,?_⟩
   conv=>whnf
   refine ⟨he38a,he38b,Zh he38x ?_⟩
   conv=>whnf
   refine ⟨trivial,?_⟩
  rotate_right
  focus
   conv=>whnf
   refine .inl ⟨rfl,?_⟩
   conv=>whnf
   refine ⟨_,hb37,?_⟩
   conv=>whnf
   refine ⟨he38a,he38b,Zh he38x ?_⟩
   conv=>whnf
   refine ⟨by kernel_rfl,?_⟩
   conv=>whnf
   refine ⟨by decide,?_⟩
   conv=>whnf
   refine ⟨he38a,he38b,Zh he38x ?_⟩
   conv=>whnf
   refine ⟨trivial,?_⟩
  all_goals
   conv=>whnf
   cases h
   exact ⟨⟨rfl,rfl⟩,hI32 _ rfl⟩
 conv=>whnf
 refine ⟨he35a,he35b,Zh he35x ?_⟩
 conv=>whnf
 refine .inl ⟨rfl,?_⟩
 conv=>whnf
 refine ZcV h (fun h=>?_) (fun h=>?_)
 focus
  conv=>whnf
  refine ⟨by kernel_rfl,?_⟩
  conv=>whnf
  refine ⟨he35a,he35b,Zh he35x ?_⟩
  conv=>whnf
  obtain ⟨l01Next2,hb39,h⟩:=Option.bind_eq_some_iff.1 h
  obtain ⟨x1,he40a,he40b,he40x,h⟩:=atE h
  refine ⟨?_,?_⟩
  rotate_left
  focus
   conv=>whnf
   refine ⟨_,hb39,?_⟩
   conv=>whnf
   refine .inl ⟨rfl,?_⟩
   conv=>whnf
   refine ⟨he40a,he40b,Zh he40x ?_⟩
   conv=>whnf
   refine ⟨by kernel_rfl,?_⟩
   conv=>whnf
   refine ⟨by decide,?_⟩
   conv=>whnf
   refine ⟨he40a,he40b,Zh he40x ?_⟩
   conv=>whnf
   refine ⟨trivial,?_⟩
  rotate_right
  focus
   conv=>whnf
   refine .inl ⟨rfl,?_⟩
   conv=>whnf
   refine ⟨_,hb39,?_⟩
   conv=>whnf
   refine ⟨he40a,he40b,Zh he40x ?_⟩
   conv=>whnf
   refine ⟨by kernel_rfl,?_⟩
   conv=>whnf
   refine ⟨by decide,?_⟩
   conv=>whnf
   refine ⟨he40a,he40b,Zh he40x ?_⟩
   conv=>whnf
   refine ⟨trivial,?_⟩
  all_goals
   conv=>whnf
   cases h
   exact ⟨⟨rfl,rfl⟩,hI32 _ rfl⟩
 conv=>whnf
 refine Qn h (fun h=>?_) (fun h=>?_)
 focus
  conv=>whnf
  refine ⟨by kernel_rfl,?_⟩
  conv=>whnf
  refine ⟨he35a,he35b,Zh he35x ?_⟩
  conv=>whnf
  obtain ⟨l01Next2,hb41,h⟩:=Option.bind_eq_some_iff.1 h
  obtain ⟨x1,he42a,he42b,he42x,h⟩:=atE h
  refine ⟨?_,?_⟩
  rotate_left
  focus
   conv=>whnf
   refine ⟨_,hb41,?_⟩
   conv=>whnf
   refine .inl ⟨rfl,?_⟩
   conv=>whnf
   refine ⟨he42a,he42b,Zh he42x ?_⟩
   conv=>whnf
   refine ⟨by kernel_rfl,?_⟩
   conv=>whnf
   refine ⟨by decide,?_⟩
   conv=>whnf
   refine ⟨he42a,he42b,Zh he42x ?_⟩
   conv=>whnf
   refine ⟨trivial,?_⟩
  rotate_right
  focus
   conv=>whnf
   refine .inl ⟨rfl,?_⟩
   conv=>whnf
   refine ⟨_,hb41,?_⟩
   conv=>whnf
   refine ⟨he42a,he42b,Zh he42x ?_⟩
   conv=>whnf
   refine ⟨by kernel_rfl,?_⟩
   conv=>whnf
   refine ⟨by decide,?_⟩
   conv=>whnf
   refine ⟨he42a,he42b,Zh he42x ?_⟩
   conv=>whnf
   refine ⟨trivial,?_⟩
  all_goals
   conv=>whnf
   cases h
   exact ⟨⟨rfl,rfl⟩,hI32 _ rfl⟩
 conv=>whnf
 cases h
 exact ⟨⟨rfl,rfl⟩,hI32 _ rfl⟩
 conv=>whnf
 cases h
 exact ⟨⟨rfl,rfl⟩,hI32 _ rfl⟩
 conv=>whnf
 refine ⟨by decide,?_⟩
 conv=>whnf
 refine Yk h (fun hp43 h=>?_)
 conv=>whnf
 refine Ze h (fun l01Next1 hb44 h=>?_)
 conv=>whnf
 refine ZG h (fun h=>?_) (fun h=>?_)
 conv=>whnf
 refine Ze h (fun l01Next2 hb45 h=>?_)
 conv=>whnf
 refine Yk h (fun hp46 h=>?_)
 conv=>whnf
 cases h
 obtain rfl:=hR32 _ rfl
 obtain rfl:=hR2 _ rfl
 exact hK
 conv=>whnf
 cases h
 obtain rfl:=hR32 _ rfl
 obtain rfl:=hR2 _ rfl
 exact hK
theorem ZFH (q0:Sq 115 ZAV):Sq 57 ZAW:=by
 refine Zm ZL (Zg q0 Zu) mixed {loops:=[(0,[.reg 7 (.own (.ol 2 (.flat Iq))),.reg 8 (.dat Iq)])],draws:=[(7,[0,0,0,4,0,28,60,126,254,0,512,0,3584,7680,0,0,49152,114688,261632,524286,1048574,2097151,4194303],.op 0 (.op 1 (.op 2 (.op 3 (.op 4 (.op 5 (.op 6 (.op 7 (.op 8 (.op 9 (.op 10 (.op 11 (.op 12 (.op 13 (.op 14 (.op 15 (.op 16 (.op 17 (.op 18 (.op 19 (.alt 20 (.alt 21 (.op 22 (.done)) (.done)) (.done))))))))))))))))))))))]} (fn:=Tryz.f57) Tryz.func57 (by kernel_rfl) (by kernel_rfl) ?_
 rintro ⟨b0,net0,⟨⟩⟩ K ⟨r,h,hK⟩
 change ZEf b0 net0=some r at h
 unfold ZEf at h
 conv=>whnf
 refine vAt h (fun x0 he0a he0b he0x h=>?_)
 conv=>whnf
 refine Ze h (fun l07Loads0 hb1 h=>?_)
 conv=>whnf
 refine YH h ?_
 rintro I2 μ2 ⟨out0,i0,⟨⟩⟩ zs2 h hI2 hR2
 change ZEc x0 l07Loads0 out0 i0=some zs2 at h
 unfold ZEc at h
 conv=>whnf
 refine ZG h (fun h=>?_) (fun h=>?_)
 conv=>whnf
 refine ⟨by kernel_rfl,?_⟩
 conv=>whnf
 refine vAt h (fun x1 he3a he3b he3x h=>?_)
 conv=>whnf
 refine vAt h (fun x2 he4a he4b he4x h=>?_)
 conv=>whnf
 refine ⟨by kernel_rfl,?_⟩
 conv=>whnf
 refine ⟨he4a,he4b,Zh he4x ?_⟩
 conv=>whnf
 refine vAt h (fun x3 he5a he5b he5x h=>?_)
 conv=>whnf
 refine vAt h (fun x4 he6a he6b he6x h=>?_)
 conv=>whnf
 refine ⟨by kernel_rfl,?_⟩
 conv=>whnf
 refine ⟨he6a,he6b,Zh he6x ?_⟩
 conv=>whnf
 refine Yk h (fun hp7 h=>?_)
 conv=>whnf
 refine ⟨trivial,?_⟩
 conv=>whnf
 cases h
 exact ⟨⟨rfl,rfl⟩,hI2 _ rfl⟩
 conv=>whnf
 cases h
 obtain rfl:=hR2 _ rfl
 exact hK
end Go.Proofs.YtnnbgbgapogckaaGreatDoor
