/-
  The functions keep their contracts, if what they call does. Printed by program.
-/
import Derived.Test.YtfndhpjedmopdaaGreatDoorM
import Derived.KernelRfl
namespace Go.Proofs.YtfndhpjedmopdaaGreatDoor
open Go Go.Sx
set_option maxRecDepth 100000
set_option maxHeartbeats 3200000
set_option linter.unusedVariables false
set_option linter.unusedSimpArgs false
theorem ZAo:Zc Tryz.prog 328 c109:=by
 refine Zg Zq Zj mixed {} (fn:=Tryz.f328) Tryz.func328 (by kernel_rfl) (by kernel_rfl) ?_
 rintro ⟨p0,⟨⟩⟩ K ⟨r,h,hK⟩
 change ZaD p0=some r at h
 unfold ZaD at h
 conv=>whnf
 cases h
 exact hK
theorem Zz0 (q0:Zc Tryz.prog 301 Zyv):Zc Tryz.prog 304 Zyg:=by
 refine Zg Zq (Ze q0 Zj) mixed {} (fn:=Tryz.f304) Tryz.func304 (by kernel_rfl) (by kernel_rfl) ?_
 rintro ⟨c0,kind0,⟨⟩⟩ K ⟨r,h,hK⟩
 change QY c0 kind0=some r at h
 unfold QY at h
 conv=>whnf
 refine Zk h (fun c1_0 hb0 h=>?_)
 conv=>whnf
 cases h
 exact hK
theorem ZCz (q0:Zc Tryz.prog 299 c90):Zc Tryz.prog 303 ZwQ:=by
 refine Zg Zq (Ze q0 Zj) mixed {} (fn:=Tryz.f303) Tryz.func303 (by kernel_rfl) (by kernel_rfl) ?_
 rintro ⟨c0,⟨⟩⟩ K ⟨r,h,hK⟩
 change Ja c0=some r at h
 unfold Ja at h
 conv=>whnf
 refine Zk h (fun Pin0 hb0 h=>?_)
 conv=>whnf
 cases h
 exact hK
theorem ZC3:Zc Tryz.prog 228 c175:=by
 refine Zg Zq Zj mixed {} (fn:=Tryz.f228) Tryz.func228 (by kernel_rfl) (by kernel_rfl) ?_
 rintro ⟨p0,a0,a1,⟨⟩⟩ K ⟨r,h,hK⟩
 change XZ p0 a0 a1=some r at h
 unfold XZ at h
 conv=>whnf
 refine Zx h (fun h=>?_) (fun h=>?_)
 conv=>whnf
 cases h
 exact hK
 conv=>whnf
 cases h
 exact hK
theorem ZBQ (q2:Zc Tryz.prog 119 c138) (q4:Zc Tryz.prog 92 c152) (q0:Zc Tryz.prog 162 Zxq) (q1:Zc Tryz.prog 163 ZyD) (q3:Zc Tryz.prog 164 Zwl) (q5:Zc Tryz.prog 159 ZwS):Zc Tryz.prog 94 Zyx:=by
 refine Zg Zq (Ze q2 (Ze q4 (Ze q0 (Ze q1 (Ze q3 (Ze q5 Zj)))))) mixed {draws:=[(4,[0,1,0,4,0,16,0,64,240,496,1008,2044,4092,8188,16383,32767],.op 0 (.op 1 (.op 2 (.op 3 (.op 4 (.op 6 (.op 7 (.alt 5 (.op 8 (.op 9 (.op 10 (.op 11 (.op 12 (.op 13 (.op 14 (.alt 15 (.done) (.done))))))))) (.done))))))))),(11,[0,1,0,4,0,16,63,0,128,0,512,2047,4095],.op 0 (.op 1 (.op 2 (.op 3 (.op 4 (.op 5 (.op 7 (.op 8 (.op 9 (.op 10 (.alt 6 (.op 11 (.alt 12 (.done) (.done))) (.done)))))))))))),(13,[0,1,0,4,15,31,0,127],.op 0 (.op 2 (.op 3 (.alt 1 (.op 4 (.op 5 (.alt 6 (.alt 7 (.done) (.done)) (.done)))) (.alt 6 (.alt 1 (.op 4 (.op 5 (.alt 7 (.done) (.done)))) (.done)) (.done)))))),(14,[0,1,0,4,0,16,0,64,0,256,960,2032,4095,8191],.op 0 (.op 2 (.op 4 (.op 6 (.op 7 (.op 8 (.op 9 (.op 10 (.alt 1 (.alt 3 (.alt 5 (.alt 11 (.op 12 (.alt 13 (.done) (.done))) (.done)) (.done)) (.alt 5 (.alt 3 (.alt 11 (.op 12 (.alt 13 (.done) (.done))) (.done)) (.alt 11 (.alt 3 (.op 12 (.alt 13 (.done) (.done))) (.done)) (.done))) (.done))) (.alt 3 (.alt 1 (.alt 5 (.alt 11 (.op 12 (.alt 13 (.done) (.done))) (.done)) (.done)) (.alt 5 (.alt 1 (.alt 11 (.op 12 (.alt 13 (.done) (.done))) (.done)) (.alt 11 (.alt 1 (.op 12 (.alt 13 (.done) (.done))) (.done)) (.done))) (.done))) (.alt 5 (.alt 1 (.alt 3 (.alt 11 (.op 12 (.alt 13 (.done) (.done))) (.done)) (.alt 11 (.alt 3 (.op 12 (.alt 13 (.done) (.done))) (.done)) (.done))) (.alt 3 (.alt 1 (.alt 11 (.op 12 (.alt 13 (.done) (.done))) (.done)) (.alt 11 (.alt 1 (.op 12 (.alt 13 (.done) (.done))) (.done)) (.done))) (.alt 11 (.alt 1 (.alt 3 (.op 12 (.alt 13 (.done) (.done))) (.done)) (.alt 3 (.alt 1 (.op 12 (.alt 13 (.done) (.done))) (.done)) (.done))) (.done)))) (.done)))))))))))),(15,[0,1,0,4,0,16,60,124,252,511,1023],.op 0 (.op 1 (.op 2 (.op 3 (.op 4 (.op 5 (.op 6 (.op 7 (.alt 8 (.op 9 (.alt 10 (.done) (.done))) (.done))))))))))]} (fn:=Tryz.f94) Tryz.func94 (by kernel_rfl) (by kernel_rfl) ?_
 rintro ⟨a0,a1,⟨⟩⟩ K ⟨r,h,hK⟩
 change Vx a0 a1=some r at h
 unfold Vx at h
 conv=>whnf
 refine Zx h (fun h=>?_) (fun h=>?_)
 conv=>whnf
 refine ⟨by kernel_rfl,?_⟩
 conv=>whnf
 refine Zk h (fun places0 hb0 h=>?_)
 conv=>whnf
 refine vAt h (fun x0 he1a he1b he1x h=>?_)
 conv=>whnf
 refine ⟨by kernel_rfl,?_⟩
 conv=>whnf
 refine ⟨he1a,he1b,Zo he1x ?_⟩
 conv=>whnf
 refine vAt h (fun x1 he2a he2b he2x h=>?_)
 conv=>whnf
 refine ⟨trivial,?_⟩
 conv=>whnf
 cases h
 exact hK
 conv=>whnf
 refine Zx h (fun h=>?_) (fun h=>?_)
 conv=>whnf
 cases h
 exact hK
 conv=>whnf
 refine Zx h (fun h=>?_) (fun h=>?_)
 conv=>whnf
 refine Zk h (fun clone0 hb3 h=>?_)
 conv=>whnf
 intro fp4
 conv=>whnf
 intro fp5
 conv=>whnf
 intro fp6
 conv=>whnf
 refine Zk h (fun unbuffer0 hb7 h=>?_)
 conv=>whnf
 intro fp8
 conv=>whnf
 intro fp9
 conv=>whnf
 intro fp10
 conv=>whnf
 refine vAt h (fun x0 he11a he11b he11x h=>?_)
 conv=>whnf
 refine ⟨by kernel_rfl,?_⟩
 conv=>whnf
 refine Zk h (fun placeOf0 hb12 h=>?_)
 conv=>whnf
 refine ⟨trivial,?_⟩
 conv=>whnf
 cases h
 exact hK
 conv=>whnf
 refine Zx h (fun h=>?_) (fun h=>?_)
 focus
  conv=>whnf
  refine ⟨by kernel_rfl,?_⟩
  conv=>whnf
  obtain ⟨places0,hb13,h⟩:=Option.bind_eq_some_iff.1 h
  obtain ⟨x0,he14a,he14b,he14x,h⟩:=atE h
  refine ⟨?_,?_⟩
  rotate_left
  focus
   conv=>whnf
   refine ⟨_,hb13,?_⟩
   conv=>whnf
   refine ⟨he14a,he14b,Zo he14x ?_⟩
   conv=>whnf
   refine ⟨by kernel_rfl,?_⟩
   conv=>whnf
   refine ⟨he14a,he14b,Zo he14x ?_⟩
   conv=>whnf
   refine ⟨trivial,?_⟩
  rotate_right
  focus
   conv=>whnf
   refine ⟨_,hb13,?_⟩
   conv=>whnf
   refine ⟨he14a,he14b,Zo he14x ?_⟩
   conv=>whnf
   refine ⟨by kernel_rfl,?_⟩
   conv=>whnf
   refine ⟨he14a,he14b,Zo he14x ?_⟩
   conv=>whnf
   refine ⟨trivial,?_⟩
  all_goals
   focus
    conv=>whnf
    refine ⟨by kernel_rfl,?_⟩
    conv=>whnf
    obtain ⟨nodesOf0,hb15,h⟩:=Option.bind_eq_some_iff.1 h
    refine ⟨?_,?_⟩
    rotate_left
    focus
     conv=>whnf
     refine ⟨?_,?_⟩
     rotate_left
     focus
      conv=>whnf
      refine ⟨_,hb15,?_⟩
      conv=>whnf
      refine ⟨?_,?_⟩
      rotate_left
      focus
       conv=>whnf
       refine ⟨?_,?_⟩
       rotate_left
       focus
        conv=>whnf
        refine ⟨?_,?_⟩
        rotate_left
        focus
         conv=>whnf
         refine ⟨trivial,?_⟩
        rotate_right
        focus
         conv=>whnf
         refine ⟨trivial,?_⟩
       rotate_right
       focus
        conv=>whnf
        refine ⟨?_,?_⟩
        rotate_left
        focus
         conv=>whnf
         refine ⟨trivial,?_⟩
        rotate_right
        focus
         conv=>whnf
         refine ⟨trivial,?_⟩
      rotate_right
      focus
       conv=>whnf
       refine ⟨?_,?_⟩
       rotate_left
       focus
        conv=>whnf
        refine ⟨trivial,?_⟩
       rotate_right
       focus
        conv=>whnf
        refine ⟨trivial,?_⟩
     rotate_right
     focus
      conv=>whnf
      refine ⟨?_,?_⟩
      rotate_left
      focus
       conv=>whnf
       refine ⟨_,hb15,?_⟩
       conv=>whnf
       refine ⟨?_,?_⟩
       rotate_left
       focus
        conv=>whnf
        refine ⟨trivial,?_⟩
       rotate_right
       focus
        conv=>whnf
        refine ⟨trivial,?_⟩
      rotate_right
      focus
       conv=>whnf
       refine ⟨_,hb15,?_⟩
       conv=>whnf
       refine ⟨trivial,?_⟩
    rotate_right
    focus
     conv=>whnf
     refine ⟨?_,?_⟩
     rotate_left
     focus
      conv=>whnf
      refine ⟨_,hb15,?_⟩
      conv=>whnf
      refine ⟨?_,?_⟩
      rotate_left
      focus
       conv=>whnf
       refine ⟨trivial,?_⟩
      rotate_right
      focus
       conv=>whnf
       refine ⟨trivial,?_⟩
     rotate_right
     focus
      conv=>whnf
      refine ⟨_,hb15,?_⟩
      conv=>whnf
      refine ⟨trivial,?_⟩
    all_goals
     conv=>whnf
     cases h
     exact hK
 conv=>whnf
 refine ⟨by kernel_rfl,?_⟩
 conv=>whnf
 refine vAt h (fun x0 he16a he16b he16x h=>?_)
 conv=>whnf
 refine Zk h (fun clone0 hb17 h=>?_)
 conv=>whnf
 refine ⟨trivial,?_⟩
 conv=>whnf
 cases h
 exact hK
theorem ZBd (q7:Zc Tryz.prog 209 c88) (q5:Zc Tryz.prog 219 Zys) (q6:Zc Tryz.prog 218 c156) (q2:Zc Tryz.prog 119 c138) (q0:Zc Tryz.prog 188 c157) (q1:Zc Tryz.prog 220 c127) (q3:Zc Tryz.prog 206 ZwC) (q4:Zc Tryz.prog 121 c96):Zc Tryz.prog 160 Zyh:=by
 refine Zg Zq (Ze q7 (Ze q5 (Ze q6 (Ze q2 (Ze q0 (Ze q1 (Ze q3 (Ze q4 Zj)))))))) mixed {draws:=[(1,[0,1,3,7,15,31,31,95,255,511,1023],.op 0 (.op 1 (.alt 2 (.op 3 (.op 4 (.op 5 (.op 6 (.alt 7 (.alt 8 (.op 9 (.op 10 (.done))) (.done)) (.done)))))) (.done)))),(3,[0,1,0,4,12,28,60,127,255],.op 0 (.op 1 (.op 2 (.op 3 (.alt 4 (.alt 5 (.op 6 (.alt 7 (.op 8 (.done)) (.done))) (.done)) (.done)))))),(7,[0,1,3,7,3,19,51,115,243,511,1023,2047],.op 0 (.op 1 (.op 2 (.op 3 (.op 4 (.op 5 (.op 6 (.alt 7 (.op 8 (.alt 9 (.op 10 (.op 11 (.done))) (.done))) (.done))))))))),(9,[0,1,3,7,3,19,63,127,255,511,1023,511,2559,511,8703,31231,63999,129535,260607,522751,1048575,2097151,4194303],.op 0 (.op 1 (.op 2 (.op 3 (.op 4 (.op 5 (.alt 6 (.op 7 (.op 8 (.op 9 (.op 10 (.op 11 (.op 12 (.op 13 (.op 14 (.op 15 (.op 16 (.op 17 (.alt 18 (.op 19 (.alt 20 (.op 21 (.op 22 (.done))) (.done))) (.done))))))))))))) (.done))))))))]} (fn:=Tryz.f160) Tryz.func160 (by kernel_rfl) (by kernel_rfl) ?_
 rintro ⟨a0,a1,⟨⟩⟩ K ⟨r,h,hK⟩
 change Vt a0 a1=some r at h
 unfold Vt at h
 conv=>whnf
 refine ⟨by kernel_rfl,?_⟩
 conv=>whnf
 refine Zk h (fun within0 hb0 h=>?_)
 conv=>whnf
 refine Ze5 ?_
 refine YJ h (fun h=>?_) (fun h=>?_)
 conv=>whnf
 refine Zk h (fun own0 hb1 h=>?_)
 conv=>whnf
 refine Zk h (fun sameEdit0 hb2 h=>?_)
 conv=>whnf
 refine ⟨trivial,?_⟩
 conv=>whnf
 refine Z5 ?_
 refine YJ h (fun h=>?_) (fun h=>?_)
 conv=>whnf
 refine ⟨by kernel_rfl,?_⟩
 conv=>whnf
 refine Zk h (fun places0 hb3 h=>?_)
 conv=>whnf
 refine Zk h (fun place0 hb4 h=>?_)
 conv=>whnf
 refine Zk h (fun within1 hb5 h=>?_)
 conv=>whnf
 refine ⟨trivial,?_⟩
 conv=>whnf
 refine Zx h (fun h=>?_) (fun h=>?_)
 conv=>whnf
 refine Zx h (fun h=>?_) (fun h=>?_)
 conv=>whnf
 refine ⟨by kernel_rfl,?_⟩
 conv=>whnf
 refine YJ h (fun h=>?_) (fun h=>?_)
 conv=>whnf
 refine Zk h (fun Cell0 hb6 h=>?_)
 conv=>whnf
 refine Zk h (fun within2 hb7 h=>?_)
 conv=>whnf
 refine ⟨trivial,?_⟩
 conv=>whnf
 cases h
 exact hK
 conv=>whnf
 refine ⟨trivial,?_⟩
 conv=>whnf
 cases h
 exact hK
 conv=>whnf
 refine Zx h (fun h=>?_) (fun h=>?_)
 conv=>whnf
 refine ⟨by kernel_rfl,?_⟩
 conv=>whnf
 refine YJ h (fun h=>?_) (fun h=>?_)
 conv=>whnf
 refine Zk h (fun isNet0 hb8 h=>?_)
 conv=>whnf
 refine YJ h (fun h=>?_) (fun h=>?_)
 conv=>whnf
 refine vAt h (fun x0 he9a he9b he9x h=>?_)
 conv=>whnf
 refine Zk h (fun int64_0 hb10 h=>?_)
 conv=>whnf
 refine Zk h (fun within2 hb11 h=>?_)
 conv=>whnf
 refine ⟨trivial,?_⟩
 conv=>whnf
 cases h
 exact hK
 conv=>whnf
 refine ⟨trivial,?_⟩
 conv=>whnf
 cases h
 exact hK
 conv=>whnf
 refine ⟨trivial,?_⟩
 conv=>whnf
 cases h
 exact hK
 conv=>whnf
 refine Zx h (fun h=>?_) (fun h=>?_)
 conv=>whnf
 refine Zk h (fun isNet0 hb12 h=>?_)
 conv=>whnf
 cases h
 exact hK
 conv=>whnf
 cases h
 exact hK
 conv=>whnf
 refine Zx h (fun h=>?_) (fun h=>?_)
 conv=>whnf
 refine ⟨by kernel_rfl,?_⟩
 conv=>whnf
 refine YJ h (fun h=>?_) (fun h=>?_)
 conv=>whnf
 refine Zk h (fun Cell0 hb13 h=>?_)
 conv=>whnf
 refine Zk h (fun within2 hb14 h=>?_)
 conv=>whnf
 refine ⟨trivial,?_⟩
 conv=>whnf
 cases h
 exact hK
 conv=>whnf
 refine ⟨trivial,?_⟩
 conv=>whnf
 cases h
 exact hK
 conv=>whnf
 refine Zx h (fun h=>?_) (fun h=>?_)
 conv=>whnf
 refine ⟨by kernel_rfl,?_⟩
 conv=>whnf
 refine YJ h (fun h=>?_) (fun h=>?_)
 conv=>whnf
 refine Zk h (fun isNet0 hb15 h=>?_)
 conv=>whnf
 refine YJ h (fun h=>?_) (fun h=>?_)
 conv=>whnf
 refine vAt h (fun x0 he16a he16b he16x h=>?_)
 conv=>whnf
 refine Zk h (fun int64_0 hb17 h=>?_)
 conv=>whnf
 refine Zk h (fun within2 hb18 h=>?_)
 conv=>whnf
 refine ⟨trivial,?_⟩
 conv=>whnf
 cases h
 exact hK
 conv=>whnf
 refine ⟨trivial,?_⟩
 conv=>whnf
 cases h
 exact hK
 conv=>whnf
 refine ⟨trivial,?_⟩
 conv=>whnf
 cases h
 exact hK
 conv=>whnf
 refine Zx h (fun h=>?_) (fun h=>?_)
 conv=>whnf
 refine Zk h (fun isNet0 hb19 h=>?_)
 conv=>whnf
 cases h
 exact hK
 conv=>whnf
 cases h
 exact hK
 conv=>whnf
 cases h
 exact hK
 conv=>whnf
 refine ⟨trivial,?_⟩
 conv=>whnf
 cases h
 exact hK
theorem ZC6 (q1:Zc Tryz.prog 245 c124) (q0:Zc Tryz.prog 246 c93):Zc Tryz.prog 203 ZyK:=by
 refine Zg Zq (Ze q1 (Ze q0 Zj)) mixed {loops:=[(0,[.reg 3 (.own (.ol 9 (.flat (.str)))),.reg 9 (.dat (.int .i64))])]} (fn:=Tryz.f203) Tryz.func203 (by kernel_rfl) (by kernel_rfl) ?_
 rintro ⟨l0,⟨⟩⟩ K ⟨r,h,hK⟩
 change ZbS l0=some r at h
 unfold ZbS at h
 conv=>whnf
 refine Yk h ?_
 rintro I0 μ0 ⟨names0,v0,⟨⟩⟩ zs0 h hI0 hR0
 change XT l0 names0 v0=some zs0 at h
 unfold XT at h
 conv=>whnf
 refine Zx h (fun h=>?_) (fun h=>?_)
 conv=>whnf
 refine vAt h (fun x0 he1a he1b he1x h=>?_)
 conv=>whnf
 refine Zk h (fun IsCell0 hb2 h=>?_)
 conv=>whnf
 refine Z5 ?_
 refine YJ h (fun h=>?_) (fun h=>?_)
 conv=>whnf
 refine QJ h (fun hp3 h=>?_)
 conv=>whnf
 cases h
 exact ⟨⟨rfl,rfl⟩,hI0 _ rfl⟩
 conv=>whnf
 cases h
 obtain rfl:=hR0 _ rfl
 exact hK
 conv=>whnf
 refine Zx h (fun h=>?_) (fun h=>?_)
 conv=>whnf
 refine Zk h (fun areNames0 hb4 h=>?_)
 conv=>whnf
 cases h
 obtain rfl:=hR0 _ rfl
 exact hK
 conv=>whnf
 cases h
 obtain rfl:=hR0 _ rfl
 exact hK
theorem ZBX (q0:Zc Tryz.prog 184 c143):Zc Tryz.prog 159 ZwS:=by
 refine Zg Zq (Ze q0 Zj) mixed {draws:=[(1,[0,1,3,0,8,31,0,64,255,0,512,2047,4095,8191],.op 0 (.op 1 (.op 3 (.op 4 (.op 6 (.op 7 (.op 9 (.op 10 (.alt 2 (.alt 5 (.alt 8 (.alt 11 (.op 12 (.alt 13 (.done) (.done))) (.done)) (.done)) (.done)) (.done))))))))))]} (fn:=Tryz.f159) Tryz.func159 (by kernel_rfl) (by kernel_rfl) ?_
 rintro ⟨w0,⟨⟩⟩ K ⟨r,h,hK⟩
 change VU w0=some r at h
 unfold VU at h
 conv=>whnf
 refine ⟨by kernel_rfl,?_⟩
 conv=>whnf
 refine Zk h (fun int64_0 hb0 h=>?_)
 conv=>whnf
 refine Zk h (fun int64_1 hb1 h=>?_)
 conv=>whnf
 refine Zk h (fun int64_2 hb2 h=>?_)
 conv=>whnf
 refine Zk h (fun int64_3 hb3 h=>?_)
 conv=>whnf
 refine ⟨trivial,?_⟩
 conv=>whnf
 cases h
 exact hK
theorem ZA5 (q0:Zc Tryz.prog 323 c107):Zc Tryz.prog 314 ZyJ:=by
 refine Zg Zq (Ze q0 Zj) mixed {} (fn:=Tryz.f314) Tryz.func314 (by kernel_rfl) (by kernel_rfl) ?_
 rintro ⟨list0,positive0,⟨⟩⟩ K ⟨r,h,hK⟩
 change Jw list0 positive0=some r at h
 unfold Jw at h
 conv=>whnf
 refine Zx h (fun h=>?_) (fun h=>?_)
 conv=>whnf
 refine Zk h (fun c1_0 hb0 h=>?_)
 conv=>whnf
 cases h
 exact hK
 conv=>whnf
 cases h
 exact hK
theorem ZDw:Zc Tryz.prog 222 c162:=by
 refine Zg Zq Zj mixed {} (fn:=Tryz.f222) Tryz.func222 (by kernel_rfl) (by kernel_rfl) ?_
 rintro ⟨c0,⟨⟩⟩ K ⟨r,h,hK⟩
 change QN c0=some r at h
 unfold QN at h
 conv=>whnf
 refine Zx h (fun h=>?_) (fun h=>?_)
 conv=>whnf
 cases h
 exact hK
 conv=>whnf
 cases h
 exact hK
theorem ZBC:Zc Tryz.prog 192 Zwf:=by
 refine Zg Zq Zj mixed {} (fn:=Tryz.f192) Tryz.func192 (by kernel_rfl) (by kernel_rfl) ?_
 rintro ⟨list0,⟨⟩⟩ K ⟨r,h,hK⟩
 change YR list0=some r at h
 unfold YR at h
 conv=>whnf
 cases h
 exact hK
theorem ZAD (q1:Zc Tryz.prog 229 ZyT) (q2:Zc Tryz.prog 230 ZyO) (q0:Zc Tryz.prog 30 Zwd):Zc Tryz.prog 168 ZxY:=by
 refine Zg Zq (Ze q1 (Ze q2 (Ze q0 Zj))) mixed {} (fn:=Tryz.f168) Tryz.func168 (by kernel_rfl) (by kernel_rfl) ?_
 rintro ⟨a0,b0,⟨⟩⟩ K ⟨r,h,hK⟩
 change Zdf a0 b0=some r at h
 unfold Zdf at h
 conv=>whnf
 refine Z5 ?_
 refine Zx h (fun h=>?_) (fun h=>?_)
 conv=>whnf
 refine Z5 ?_
 refine Zx h (fun h=>?_) (fun h=>?_)
 conv=>whnf
 refine Zk h (fun eqPinS0 hb0 h=>?_)
 conv=>whnf
 refine Z5 ?_
 refine YJ h (fun h=>?_) (fun h=>?_)
 conv=>whnf
 refine Zk h (fun eqArcS0 hb1 h=>?_)
 conv=>whnf
 refine Z5 ?_
 refine YJ h (fun h=>?_) (fun h=>?_)
 conv=>whnf
 refine Zk h (fun eqInt64S0 hb2 h=>?_)
 conv=>whnf
 refine Z5 ?_
 refine YJ h (fun h=>?_) (fun h=>?_)
 conv=>whnf
 refine Z5 ?_
 refine Zx h (fun h=>?_) (fun h=>?_)
 conv=>whnf
 refine Z5 ?_
 refine Zx h (fun h=>?_) (fun h=>?_)
 conv=>whnf
 cases h
 exact hK
 conv=>whnf
 cases h
 exact hK
 conv=>whnf
 cases h
 exact hK
 conv=>whnf
 cases h
 exact hK
 conv=>whnf
 cases h
 exact hK
 conv=>whnf
 cases h
 exact hK
 conv=>whnf
 cases h
 exact hK
 conv=>whnf
 cases h
 exact hK
theorem ZCy (q0:Zc Tryz.prog 168 ZxY):Zc Tryz.prog 97 ZxR:=by
 refine Zg Zq (Ze q0 Zj) mixed {loops:=[(0,[.reg 5 (.dat (.int .i64))])],draws:=[(6,[0,0,3,7,0,0,48,112,255,511],.op 0 (.op 1 (.op 2 (.op 3 (.op 4 (.op 5 (.op 6 (.op 7 (.alt 8 (.op 9 (.done)) (.done))))))))))]} (fn:=Tryz.f97) Tryz.func97 (by kernel_rfl) (by kernel_rfl) ?_
 rintro ⟨a0,b0,⟨⟩⟩ K ⟨r,h,hK⟩
 change Zdw a0 b0=some r at h
 unfold Zdw at h
 conv=>whnf
 refine Z5 ?_
 refine Zx h (fun h=>?_) (fun h=>?_)
 conv=>whnf
 refine Yk h ?_
 rintro I0 μ0 ⟨i0,⟨⟩⟩ zs0 h hI0 hR0
 change Zd6 a0 b0 i0=some zs0 at h
 unfold Zd6 at h
 conv=>whnf
 refine Zx h (fun h=>?_) (fun h=>?_)
 conv=>whnf
 refine ⟨by kernel_rfl,?_⟩
 conv=>whnf
 refine vAt h (fun x0 he1a he1b he1x h=>?_)
 conv=>whnf
 refine vAt h (fun x1 he2a he2b he2x h=>?_)
 conv=>whnf
 refine Zk h (fun eqCell0 hb3 h=>?_)
 conv=>whnf
 refine ⟨trivial,?_⟩
 conv=>whnf
 refine Z5 ?_
 refine YJ h (fun h=>?_) (fun h=>?_)
 conv=>whnf
 cases h
 exact ⟨⟨rfl,rfl⟩,hI0 _ rfl⟩
 conv=>whnf
 cases h
 obtain rfl:=hR0 _ rfl
 exact hK
 conv=>whnf
 cases h
 obtain rfl:=hR0 _ rfl
 exact hK
 conv=>whnf
 cases h
 exact hK
theorem ZBl (q0:Zc Tryz.prog 170 ZyX):Zc Tryz.prog 100 c198:=by
 refine Zg Zq (Ze q0 Zj) mixed {loops:=[(0,[.reg 5 (.dat (.int .i64))])],draws:=[(6,[0,0,3,7,0,0,48,112,255,511],.op 0 (.op 1 (.op 2 (.op 3 (.op 4 (.op 5 (.op 6 (.op 7 (.alt 8 (.op 9 (.done)) (.done))))))))))]} (fn:=Tryz.f100) Tryz.func100 (by kernel_rfl) (by kernel_rfl) ?_
 rintro ⟨a0,b0,⟨⟩⟩ K ⟨r,h,hK⟩
 change Zdh a0 b0=some r at h
 unfold Zdh at h
 conv=>whnf
 refine Z5 ?_
 refine Zx h (fun h=>?_) (fun h=>?_)
 conv=>whnf
 refine Yk h ?_
 rintro I0 μ0 ⟨i0,⟨⟩⟩ zs0 h hI0 hR0
 change ZdY a0 b0 i0=some zs0 at h
 unfold ZdY at h
 conv=>whnf
 refine Zx h (fun h=>?_) (fun h=>?_)
 conv=>whnf
 refine ⟨by kernel_rfl,?_⟩
 conv=>whnf
 refine vAt h (fun x0 he1a he1b he1x h=>?_)
 conv=>whnf
 refine vAt h (fun x1 he2a he2b he2x h=>?_)
 conv=>whnf
 refine Zk h (fun eqPort0 hb3 h=>?_)
 conv=>whnf
 refine ⟨trivial,?_⟩
 conv=>whnf
 refine Z5 ?_
 refine YJ h (fun h=>?_) (fun h=>?_)
 conv=>whnf
 cases h
 exact ⟨⟨rfl,rfl⟩,hI0 _ rfl⟩
 conv=>whnf
 cases h
 obtain rfl:=hR0 _ rfl
 exact hK
 conv=>whnf
 cases h
 obtain rfl:=hR0 _ rfl
 exact hK
 conv=>whnf
 cases h
 exact hK
theorem ZAb (q0:Zc Tryz.prog 30 Zwd):Zc Tryz.prog 68 ZxC:=by
 refine Zg Zq (Ze q0 Zj) mixed {} (fn:=Tryz.f68) Tryz.func68 (by kernel_rfl) (by kernel_rfl) ?_
 rintro ⟨a0,b0,⟨⟩⟩ K ⟨r,h,hK⟩
 change Zcb a0 b0=some r at h
 unfold Zcb at h
 conv=>whnf
 refine Zk h (fun eqInt64S0 hb0 h=>?_)
 conv=>whnf
 refine Z5 ?_
 refine YJ h (fun h=>?_) (fun h=>?_)
 conv=>whnf
 refine Zk h (fun eqInt64S1 hb1 h=>?_)
 conv=>whnf
 refine Z5 ?_
 refine YJ h (fun h=>?_) (fun h=>?_)
 conv=>whnf
 refine Zk h (fun eqInt64S2 hb2 h=>?_)
 conv=>whnf
 refine Z5 ?_
 refine YJ h (fun h=>?_) (fun h=>?_)
 conv=>whnf
 refine Zk h (fun eqInt64S3 hb3 h=>?_)
 conv=>whnf
 refine Z5 ?_
 refine YJ h (fun h=>?_) (fun h=>?_)
 conv=>whnf
 cases h
 exact hK
 conv=>whnf
 cases h
 exact hK
 conv=>whnf
 cases h
 exact hK
 conv=>whnf
 cases h
 exact hK
 conv=>whnf
 cases h
 exact hK
theorem ZDk (q0:Zc Tryz.prog 232 Zy0):Zc Tryz.prog 174 c222:=by
 refine Zg Zq (Ze q0 Zj) mixed {loops:=[(0,[.reg 1 (.dat (.int .i64)),.reg 5 (.dat (.int .i64))])]} (fn:=Tryz.f174) Tryz.func174 (by kernel_rfl) (by kernel_rfl) ?_
 rintro ⟨a0,a1,⟨⟩⟩ K ⟨r,h,hK⟩
 change Zcm a0 a1=some r at h
 unfold Zcm at h
 conv=>whnf
 refine Yk h ?_
 rintro I0 μ0 ⟨v0,v1,⟨⟩⟩ zs0 h hI0 hR0
 change Vu a0 v0 v1=some zs0 at h
 unfold Vu at h
 conv=>whnf
 refine Zx h (fun h=>?_) (fun h=>?_)
 conv=>whnf
 refine vAt h (fun x0 he1a he1b he1x h=>?_)
 conv=>whnf
 refine Z5 ?_
 refine Zx h (fun h=>?_) (fun h=>?_)
 conv=>whnf
 refine ⟨he1a,he1b,Zo he1x ?_⟩
 conv=>whnf
 refine Z5 ?_
 refine Zx h (fun h=>?_) (fun h=>?_)
 conv=>whnf
 refine ⟨he1a,he1b,Zo he1x ?_⟩
 conv=>whnf
 refine Z5 ?_
 refine Zx h (fun h=>?_) (fun h=>?_)
 conv=>whnf
 refine ⟨he1a,he1b,Zo he1x ?_⟩
 conv=>whnf
 refine Z5 ?_
 refine Zx h (fun h=>?_) (fun h=>?_)
 conv=>whnf
 refine ⟨he1a,he1b,Zo he1x ?_⟩
 conv=>whnf
 refine Zk h (fun heldTableS0 hb2 h=>?_)
 conv=>whnf
 refine Zx h (fun h=>?_) (fun h=>?_)
 conv=>whnf
 cases h
 obtain rfl:=hR0 _ rfl
 exact hK
 conv=>whnf
 refine ⟨he1a,he1b,Zo he1x ?_⟩
 conv=>whnf
 refine Zk h (fun heldTableS1 hb3 h=>?_)
 conv=>whnf
 refine Zx h (fun h=>?_) (fun h=>?_)
 conv=>whnf
 cases h
 obtain rfl:=hR0 _ rfl
 exact hK
 conv=>whnf
 cases h
 exact ⟨⟨rfl,rfl⟩,hI0 _ rfl⟩
 conv=>whnf
 cases h
 obtain rfl:=hR0 _ rfl
 exact hK
 conv=>whnf
 cases h
 obtain rfl:=hR0 _ rfl
 exact hK
 conv=>whnf
 cases h
 obtain rfl:=hR0 _ rfl
 exact hK
 conv=>whnf
 cases h
 obtain rfl:=hR0 _ rfl
 exact hK
 conv=>whnf
 cases h
 obtain rfl:=hR0 _ rfl
 exact hK
theorem ZCl (q0:Zc Tryz.prog 50 ZxL) (q1:Zc Tryz.prog 51 c228) (q2:Zc Tryz.prog 52 c229):Zc Tryz.prog 16 ZxZ:=by
 refine Zg Zq (Ze q0 (Ze q1 (Ze q2 Zj))) mixed {} (fn:=Tryz.f16) Tryz.func16 (by kernel_rfl) (by kernel_rfl) ?_
 rintro ⟨a0,k0,⟨⟩⟩ K ⟨r,h,hK⟩
 change ZbO a0 k0=some r at h
 unfold ZbO at h
 conv=>whnf
 refine Zk h (fun heldLibrary0 hb0 h=>?_)
 conv=>whnf
 refine Zx h (fun h=>?_) (fun h=>?_)
 conv=>whnf
 cases h
 exact hK
 conv=>whnf
 refine Zk h (fun heldDesign0 hb1 h=>?_)
 conv=>whnf
 refine Zx h (fun h=>?_) (fun h=>?_)
 conv=>whnf
 cases h
 exact hK
 conv=>whnf
 refine Zk h (fun heldWireS0 hb2 h=>?_)
 conv=>whnf
 refine Zx h (fun h=>?_) (fun h=>?_)
 conv=>whnf
 cases h
 exact hK
 conv=>whnf
 cases h
 exact hK
theorem ZDp (q0:Zc Tryz.prog 105 Zyk):Zc Tryz.prog 50 ZxL:=by
 refine Zg Zq (Ze q0 Zj) mixed {} (fn:=Tryz.f50) Tryz.func50 (by kernel_rfl) (by kernel_rfl) ?_
 rintro ⟨a0,k0,⟨⟩⟩ K ⟨r,h,hK⟩
 change Zan a0 k0=some r at h
 unfold Zan at h
 conv=>whnf
 refine Zk h (fun heldCellS0 hb0 h=>?_)
 conv=>whnf
 refine Zx h (fun h=>?_) (fun h=>?_)
 conv=>whnf
 cases h
 exact hK
 conv=>whnf
 cases h
 exact hK
theorem ZAW (q0:Zc Tryz.prog 32 Zwh):Zc Tryz.prog 232 Zy0:=by
 refine Zg Zq (Ze q0 Zj) mixed {loops:=[(0,[.reg 1 (.dat (.int .i64)),.reg 5 (.dat (.int .i64))])]} (fn:=Tryz.f232) Tryz.func232 (by kernel_rfl) (by kernel_rfl) ?_
 rintro ⟨a0,k0,⟨⟩⟩ K ⟨r,h,hK⟩
 change Zaa a0 k0=some r at h
 unfold Zaa at h
 conv=>whnf
 refine Yk h ?_
 rintro I0 μ0 ⟨k1,i0,⟨⟩⟩ zs0 h hI0 hR0
 change Qt a0 k1 i0=some zs0 at h
 unfold Qt at h
 conv=>whnf
 refine Zx h (fun h=>?_) (fun h=>?_)
 conv=>whnf
 refine vAt h (fun x0 he1a he1b he1x h=>?_)
 conv=>whnf
 refine Zk h (fun heldInt64S0 hb2 h=>?_)
 conv=>whnf
 refine Zx h (fun h=>?_) (fun h=>?_)
 conv=>whnf
 cases h
 obtain rfl:=hR0 _ rfl
 exact hK
 conv=>whnf
 refine ⟨he1a,he1b,Zo he1x ?_⟩
 conv=>whnf
 refine Zk h (fun heldInt64S1 hb3 h=>?_)
 conv=>whnf
 refine Zx h (fun h=>?_) (fun h=>?_)
 conv=>whnf
 cases h
 obtain rfl:=hR0 _ rfl
 exact hK
 conv=>whnf
 refine ⟨he1a,he1b,Zo he1x ?_⟩
 conv=>whnf
 refine Zk h (fun heldInt64S2 hb4 h=>?_)
 conv=>whnf
 refine Zx h (fun h=>?_) (fun h=>?_)
 conv=>whnf
 cases h
 obtain rfl:=hR0 _ rfl
 exact hK
 conv=>whnf
 cases h
 exact ⟨⟨rfl,rfl⟩,hI0 _ rfl⟩
 conv=>whnf
 cases h
 obtain rfl:=hR0 _ rfl
 exact hK
theorem ZCJ (q0:Zc Tryz.prog 231 c208):Zc Tryz.prog 172 Zyr:=by
 refine Zg YQ (Ze q0 Zj) mixed {loops:=[(0,[.reg 1 (.dat (.int .i64)),.reg 5 (.dat (.int .i64)),.ent 0 (nat_lit 235) (Dp.pair (Dp.flat (Ty.int IntKind.i64)) (Dp.pair (Dp.flat (Ty.int IntKind.i64)) (Dp.pair (Dp.flat (Ty.int IntKind.i64)) (Dp.pair (Dp.flat (Ty.int IntKind.i64)) (Dp.pair (Dp.ol (290:Go.TypeId) ZeY) (Dp.pair (Dp.ol (290:Go.TypeId) ZeY) (Dp.flat Ty.unit)))))))])]} (fn:=Tryz.f172) Tryz.func172 (by kernel_rfl) (by kernel_rfl) ?_
 rintro ⟨a0,k0,⟨⟩⟩ K ⟨r,h,hK⟩
 change Zat a0 k0=some r at h
 unfold Zat at h
 conv=>whnf
 intro fp0
 conv=>whnf
 refine Yk h ?_
 rintro I1 μ1 ⟨k1,i0,l0,⟨⟩⟩ zs1 h hI1 hR1
 change Qq k1 i0 l0=some zs1 at h
 unfold Qq at h
 conv=>whnf
 intro fp2
 conv=>whnf
 refine Zx h (fun h=>?_) (fun h=>?_)
 conv=>whnf
 refine vAt h (fun x0 he3a he3b he3x h=>?_)
 conv=>whnf
 refine ⟨he3a,he3b,Zo he3x ?_⟩
 conv=>whnf
 intro fp4
 conv=>whnf
 intro fp5
 conv=>whnf
 intro fp6
 conv=>whnf
 refine ⟨he3a,he3b,Zo he3x ?_⟩
 conv=>whnf
 refine .inl ⟨rfl,?_⟩
 conv=>whnf
 refine ⟨he3a,he3b,Zo he3x ?_⟩
 conv=>whnf
 refine .inl ⟨rfl,?_⟩
 conv=>whnf
 refine ⟨he3a,he3b,Zo he3x ?_⟩
 conv=>whnf
 refine .inl ⟨rfl,?_⟩
 conv=>whnf
 refine ⟨he3a,he3b,Zo he3x ?_⟩
 conv=>whnf
 refine .inl ⟨rfl,?_⟩
 conv=>whnf
 refine Zk h (fun markTableS0 hb7 h=>?_)
 conv=>whnf
 intro fp8
 conv=>whnf
 refine ⟨he3a,he3b,Zo he3x ?_⟩
 conv=>whnf
 refine .inl ⟨rfl,?_⟩
 conv=>whnf
 refine Zk h (fun markTableS1 hb9 h=>?_)
 conv=>whnf
 intro fp10
 conv=>whnf
 cases h
 exact ⟨⟨rfl,rfl⟩,hI1 _ rfl⟩
 conv=>whnf
 cases h
 obtain rfl:=hR1 _ rfl
 exact hK
theorem ZDI (q0:Zc Tryz.prog 101 c210):Zc Tryz.prog 46 ZzB:=by
 refine Zg YQ (Ze q0 Zj) mixed {} (fn:=Tryz.f46) Tryz.func46 (by kernel_rfl) (by kernel_rfl) ?_
 rintro ⟨a0,k0,⟨⟩⟩ K ⟨r,h,hK⟩
 change Vf a0 k0=some r at h
 unfold Vf at h
 conv=>whnf
 intro fp0
 conv=>whnf
 refine Zk h (fun markCellS0 hb1 h=>?_)
 conv=>whnf
 intro fp2
 conv=>whnf
 cases h
 exact hK
theorem w5 (q0:Zc Tryz.prog 272 c4):Zc Tryz.prog 238 c5:=by
 refine Zg Zq (Ze q0 Zj) mixed {} (fn:=Tryz.f238) Tryz.func238 (by kernel_rfl) (by kernel_rfl) ?_
 rintro ⟨a0,left0,⟨⟩⟩ K ⟨r,h,hK⟩
 change ZbI a0 left0=some r at h
 unfold ZbI at h
 conv=>whnf
 refine Zk h (fun szTableS0 hb0 h=>?_)
 conv=>whnf
 refine Zx h (fun h=>?_) (fun h=>?_)
 conv=>whnf
 cases h
 exact hK
 conv=>whnf
 refine Zk h (fun szTableS1 hb1 h=>?_)
 conv=>whnf
 refine Zx h (fun h=>?_) (fun h=>?_)
 conv=>whnf
 cases h
 exact hK
 conv=>whnf
 cases h
 exact hK
theorem w6 (q0:Zc Tryz.prog 238 c5):Zc Tryz.prog 197 c6:=by
 refine Zg Zq (Ze q0 Zj) mixed {loops:=[(0,[.reg 1 (.dat (.int .i64)),.reg 5 (.dat (.int .i64))])]} (fn:=Tryz.f197) Tryz.func197 (by kernel_rfl) (by kernel_rfl) ?_
 rintro ⟨a0,left0,⟨⟩⟩ K ⟨r,h,hK⟩
 change Zb7 a0 left0=some r at h
 unfold Zb7 at h
 conv=>whnf
 refine Zx h (fun h=>?_) (fun h=>?_)
 conv=>whnf
 cases h
 exact hK
 conv=>whnf
 refine Yk h ?_
 rintro I0 μ0 ⟨left1,i0,⟨⟩⟩ zs0 h hI0 hR0
 change ZeD a0 left1 i0=some zs0 at h
 unfold ZeD at h
 conv=>whnf
 refine Zx h (fun h=>?_) (fun h=>?_)
 conv=>whnf
 refine vAt h (fun x0 he1a he1b he1x h=>?_)
 conv=>whnf
 refine Zk h (fun szArc0 hb2 h=>?_)
 conv=>whnf
 refine Zx h (fun h=>?_) (fun h=>?_)
 conv=>whnf
 cases h
 obtain rfl:=hR0 _ rfl
 exact hK
 conv=>whnf
 cases h
 exact ⟨⟨rfl,rfl⟩,hI0 _ rfl⟩
 conv=>whnf
 cases h
 obtain rfl:=hR0 _ rfl
 exact hK
theorem w7 (q1:Zc Tryz.prog 196 c1) (q2:Zc Tryz.prog 197 c6) (q0:Zc Tryz.prog 109 c2):Zc Tryz.prog 138 c7:=by
 refine Zg Zq (Ze q1 (Ze q2 (Ze q0 Zj))) mixed {} (fn:=Tryz.f138) Tryz.func138 (by kernel_rfl) (by kernel_rfl) ?_
 rintro ⟨a0,left0,⟨⟩⟩ K ⟨r,h,hK⟩
 change ZaN a0 left0=some r at h
 unfold ZaN at h
 conv=>whnf
 refine Zx h (fun h=>?_) (fun h=>?_)
 conv=>whnf
 cases h
 exact hK
 conv=>whnf
 refine Zk h (fun szPinS0 hb0 h=>?_)
 conv=>whnf
 refine Zx h (fun h=>?_) (fun h=>?_)
 conv=>whnf
 cases h
 exact hK
 conv=>whnf
 refine Zk h (fun szArcS0 hb1 h=>?_)
 conv=>whnf
 refine Zx h (fun h=>?_) (fun h=>?_)
 conv=>whnf
 cases h
 exact hK
 conv=>whnf
 refine Zk h (fun szInt64S0 hb2 h=>?_)
 conv=>whnf
 refine Zx h (fun h=>?_) (fun h=>?_)
 conv=>whnf
 cases h
 exact hK
 conv=>whnf
 cases h
 exact hK
theorem w22 (q0:Zc Tryz.prog 243 c21):Zc Tryz.prog 201 c22:=by
 refine Zg Zq (Ze q0 Zj) mixed {loops:=[(0,[.reg 4 (.dat (.int .i64)),.ent 0 (nat_lit 260) (.flat Zs2.ety)])]} (fn:=Tryz.f201) Tryz.func201 (by kernel_rfl) (by kernel_rfl) ?_
 rintro ⟨a0,⟨⟩⟩ K ⟨r,h,hK⟩
 change ZeA a0=some r at h
 unfold ZeA at h
 conv=>whnf
 refine QJ h (fun hp0 h=>?_)
 conv=>whnf
 refine QJ h (fun hp1 h=>?_)
 conv=>whnf
 refine QJ h (fun hp2 h=>?_)
 conv=>whnf
 refine QJ h (fun hp3 h=>?_)
 conv=>whnf
 refine Yk h ?_
 rintro I4 μ4 ⟨i0,l0,⟨⟩⟩ zs4 h hI4 hR4
 change Zex a0 i0 l0=some zs4 at h
 unfold Zex at h
 conv=>whnf
 refine Zx h (fun h=>?_) (fun h=>?_)
 conv=>whnf
 refine vAt h (fun x0 he5a he5b he5x h=>?_)
 conv=>whnf
 refine Zk h (fun toPin0 hb6 h=>?_)
 conv=>whnf
 refine vAt h (fun x1 he7a he7b he7x h=>?_)
 conv=>whnf
 refine ⟨by kernel_rfl,?_⟩
 conv=>whnf
 refine ⟨by decide,?_⟩
 conv=>whnf
 refine ⟨he7a,he7b,Zo he7x ?_⟩
 conv=>whnf
 cases h
 exact ⟨⟨rfl,rfl⟩,hI4 _ rfl⟩
 conv=>whnf
 cases h
 obtain rfl:=hR4 _ rfl
 exact hK
theorem ZBU:Zc Tryz.prog 217 Zyl:=by
 refine Zg Zq Zj mixed {} (fn:=Tryz.f217) Tryz.func217 (by kernel_rfl) (by kernel_rfl) ?_
 rintro ⟨s0,⟨⟩⟩ K ⟨r,h,hK⟩
 change YU s0=some r at h
 unfold YU at h
 conv=>whnf
 refine ⟨fun hd=>?_,?_⟩
 have h:=ZrV (T:=(some ([]:List ZI))) h (by simp [hd,Zz])
 conv=>whnf
 cases h
 exact hK
 conv=>whnf
 refine QJ h (fun hp0 h=>?_)
 conv=>whnf
 cases h
 exact hK
theorem ZCZ (q0:Zc Tryz.prog 317 c116):Zc Tryz.prog 301 c117:=by
 refine Zg Zq (Ze q0 Zj) mixed {} (fn:=Tryz.f301) Tryz.func301 (by kernel_rfl) (by kernel_rfl) ?_
 rintro ⟨s0,f0,⟨⟩⟩ K ⟨r,h,hK⟩
 change ZG s0 f0=some r at h
 unfold ZG at h
 conv=>whnf
 refine Zk h (fun c1_0 hb0 h=>?_)
 conv=>whnf
 cases h
 exact hK
theorem ZCu (q0:Zc Tryz.prog 324 c105):Zc Tryz.prog 332 Zyt:=by
 refine Zg Zq (Ze q0 Zj) mixed {loops:=[(0,[.reg 8 (.dat (.int .i64))])]} (fn:=Tryz.f332) Tryz.func332 (by kernel_rfl) (by kernel_rfl) ?_
 rintro ⟨s0,f0,⟨⟩⟩ K ⟨r,h,hK⟩
 change ZK s0 f0=some r at h
 unfold ZK at h
 conv=>whnf
 refine Yk h ?_
 rintro I0 μ0 ⟨v0,⟨⟩⟩ zs0 h hI0 hR0
 change ZR s0 f0 v0=some zs0 at h
 unfold ZR at h
 conv=>whnf
 refine Zx h (fun h=>?_) (fun h=>?_)
 conv=>whnf
 refine vAt h (fun x0 he1a he1b he1x h=>?_)
 conv=>whnf
 refine Zk h (fun c1_0 hb2 h=>?_)
 conv=>whnf
 refine YJ h (fun h=>?_) (fun h=>?_)
 conv=>whnf
 cases h
 obtain rfl:=hR0 _ rfl
 exact hK
 conv=>whnf
 cases h
 exact ⟨⟨rfl,rfl⟩,hI0 _ rfl⟩
 conv=>whnf
 cases h
 obtain rfl:=hR0 _ rfl
 exact hK
theorem ZCE (q0:Zc Tryz.prog 248 c130):Zc Tryz.prog 279 c131:=by
 refine Zg Zq (Ze q0 Zj) mixed {loops:=[(0,[.reg 8 (.dat (.int .i64))])]} (fn:=Tryz.f279) Tryz.func279 (by kernel_rfl) (by kernel_rfl) ?_
 rintro ⟨s0,f0,⟨⟩⟩ K ⟨r,h,hK⟩
 change ZN s0 f0=some r at h
 unfold ZN at h
 conv=>whnf
 refine Yk h ?_
 rintro I0 μ0 ⟨v0,⟨⟩⟩ zs0 h hI0 hR0
 change ZV s0 f0 v0=some zs0 at h
 unfold ZV at h
 conv=>whnf
 refine Zx h (fun h=>?_) (fun h=>?_)
 conv=>whnf
 refine vAt h (fun x0 he1a he1b he1x h=>?_)
 conv=>whnf
 refine Zk h (fun c1_0 hb2 h=>?_)
 conv=>whnf
 refine YJ h (fun h=>?_) (fun h=>?_)
 conv=>whnf
 cases h
 obtain rfl:=hR0 _ rfl
 exact hK
 conv=>whnf
 cases h
 exact ⟨⟨rfl,rfl⟩,hI0 _ rfl⟩
 conv=>whnf
 cases h
 obtain rfl:=hR0 _ rfl
 exact hK
theorem w72:Zc Tryz.prog 178 c72:=by
 refine Zg Zq Zj mixed {loops:=[(0,[.reg 5 (.dat (.int .i64))])]} (fn:=Tryz.f178) Tryz.func178 (by kernel_rfl) (by kernel_rfl) ?_
 rintro ⟨d0,name0,⟨⟩⟩ K ⟨r,h,hK⟩
 change VZ d0 name0=some r at h
 unfold VZ at h
 conv=>whnf
 refine Yk h ?_
 rintro I0 μ0 ⟨i0,⟨⟩⟩ zs0 h hI0 hR0
 change QB d0 name0 i0=some zs0 at h
 unfold QB at h
 conv=>whnf
 refine Zx h (fun h=>?_) (fun h=>?_)
 conv=>whnf
 refine vAt h (fun x0 he1a he1b he1x h=>?_)
 conv=>whnf
 refine Zx h (fun h=>?_) (fun h=>?_)
 conv=>whnf
 cases h
 obtain rfl:=hR0 _ rfl
 exact hK
 conv=>whnf
 cases h
 exact ⟨⟨rfl,rfl⟩,hI0 _ rfl⟩
 conv=>whnf
 cases h
 obtain rfl:=hR0 _ rfl
 exact hK
theorem w59 (q0:Zc Tryz.prog 80 c55) (q1:Zc Tryz.prog 82 c57) (q2:Zc Tryz.prog 81 c58):Zc Tryz.prog 36 c59:=by
 refine Zg Zq (Ze q0 (Ze q1 (Ze q2 Zj))) mixed {loops:=[(0,[.reg 3 (.dat (.int .i64))])],draws:=[(6,[0,1,0,7,15,0,32,0,224,480,1023,2047],.op 0 (.op 1 (.op 2 (.op 3 (.op 4 (.op 5 (.op 6 (.op 7 (.alt 8 (.op 9 (.alt 10 (.op 11 (.done)) (.done))) (.done))))))))))]} (fn:=Tryz.f36) Tryz.func36 (by kernel_rfl) (by kernel_rfl) ?_
 rintro ⟨b0,⟨⟩⟩ K ⟨r,h,hK⟩
 change Zca b0=some r at h
 unfold Zca at h
 conv=>whnf
 refine Zk h (fun IsDesign0 hb0 h=>?_)
 conv=>whnf
 refine Ze5 ?_
 refine YJ h (fun h=>?_) (fun h=>?_)
 conv=>whnf
 refine Z5 ?_
 refine Zx h (fun h=>?_) (fun h=>?_)
 conv=>whnf
 refine Yk h ?_
 rintro I1 μ1 ⟨net0,⟨⟩⟩ zs1 h hI1 hR1
 change ZaB b0 net0=some zs1 at h
 unfold ZaB at h
 conv=>whnf
 refine Zx h (fun h=>?_) (fun h=>?_)
 conv=>whnf
 refine ⟨by kernel_rfl,?_⟩
 conv=>whnf
 refine vAt h (fun x0 he2a he2b he2x h=>?_)
 conv=>whnf
 refine Zk h (fun l05Sinks0 hb3 h=>?_)
 conv=>whnf
 refine Zk h (fun IsWire0 hb4 h=>?_)
 conv=>whnf
 refine ⟨trivial,?_⟩
 conv=>whnf
 refine Z5 ?_
 refine YJ h (fun h=>?_) (fun h=>?_)
 conv=>whnf
 cases h
 exact ⟨⟨rfl,rfl⟩,hI1 _ rfl⟩
 conv=>whnf
 cases h
 obtain rfl:=hR1 _ rfl
 exact hK
 conv=>whnf
 cases h
 obtain rfl:=hR1 _ rfl
 exact hK
 conv=>whnf
 cases h
 exact hK
 conv=>whnf
 cases h
 exact hK
theorem w42:Zc Tryz.prog 177 c42:=by
 refine Zg Zq Zj mixed {loops:=[(0,[.reg 3 (.dat (.int .i64))])]} (fn:=Tryz.f177) Tryz.func177 (by kernel_rfl) (by kernel_rfl) ?_
 rintro ⟨s0,⟨⟩⟩ K ⟨r,h,hK⟩
 change ZaI s0=some r at h
 unfold ZaI at h
 conv=>whnf
 refine Yk h ?_
 rintro I0 μ0 ⟨i0,⟨⟩⟩ zs0 h hI0 hR0
 change Zav s0 i0=some zs0 at h
 unfold Zav at h
 conv=>whnf
 refine Zx h (fun h=>?_) (fun h=>?_)
 conv=>whnf
 refine vAt h (fun x0 he1a he1b he1x h=>?_)
 conv=>whnf
 refine Zx h (fun h=>?_) (fun h=>?_)
 conv=>whnf
 refine ⟨he1a,he1b,Zo he1x ?_⟩
 conv=>whnf
 refine ⟨he1a,he1b,Zo he1x ?_⟩
 conv=>whnf
 refine Zx h (fun h=>?_) (fun h=>?_)
 conv=>whnf
 refine ⟨he1a,he1b,Zo he1x ?_⟩
 conv=>whnf
 refine Z5 ?_
 refine Zx h (fun h=>?_) (fun h=>?_)
 conv=>whnf
 cases h
 exact ⟨⟨rfl,rfl⟩,hI0 _ rfl⟩
 conv=>whnf
 refine Zx h (fun h=>?_) (fun h=>?_)
 conv=>whnf
 refine Z5 ?_
 refine Zx h (fun h=>?_) (fun h=>?_)
 conv=>whnf
 cases h
 exact ⟨⟨rfl,rfl⟩,hI0 _ rfl⟩
 conv=>whnf
 cases h
 obtain rfl:=hR0 _ rfl
 exact hK
 conv=>whnf
 cases h
 obtain rfl:=hR0 _ rfl
 exact hK
 conv=>whnf
 refine Z5 ?_
 refine Zx h (fun h=>?_) (fun h=>?_)
 conv=>whnf
 cases h
 exact ⟨⟨rfl,rfl⟩,hI0 _ rfl⟩
 conv=>whnf
 cases h
 obtain rfl:=hR0 _ rfl
 exact hK
 conv=>whnf
 refine ⟨he1a,he1b,Zo he1x ?_⟩
 conv=>whnf
 refine Zx h (fun h=>?_) (fun h=>?_)
 conv=>whnf
 refine ⟨he1a,he1b,Zo he1x ?_⟩
 conv=>whnf
 refine Zx h (fun h=>?_) (fun h=>?_)
 conv=>whnf
 refine Z5 ?_
 refine Zx h (fun h=>?_) (fun h=>?_)
 conv=>whnf
 cases h
 exact ⟨⟨rfl,rfl⟩,hI0 _ rfl⟩
 conv=>whnf
 cases h
 obtain rfl:=hR0 _ rfl
 exact hK
 conv=>whnf
 cases h
 obtain rfl:=hR0 _ rfl
 exact hK
 conv=>whnf
 cases h
 obtain rfl:=hR0 _ rfl
 exact hK
 conv=>whnf
 refine Zx h (fun h=>?_) (fun h=>?_)
 conv=>whnf
 cases h
 obtain rfl:=hR0 _ rfl
 exact hK
 conv=>whnf
 cases h
 obtain rfl:=hR0 _ rfl
 exact hK
theorem w62 (q0:Zc Tryz.prog 242 c61):Zc Tryz.prog 199 c62:=by
 refine Zg YQ (Ze q0 Zj) mixed {loops:=[(0,[.reg 3 (.own (.ol 290 (ZeY))),.reg 4 (.dat (.int .i64))])]} (fn:=Tryz.f199) Tryz.func199 (by kernel_rfl) (by kernel_rfl) ?_
 rintro ⟨list0,⟨⟩⟩ K ⟨r,h,hK⟩
 change Vz list0=some r at h
 unfold Vz at h
 conv=>whnf
 intro fp0
 conv=>whnf
 refine Yk h ?_
 rintro I1 μ1 ⟨out0,i0,⟨⟩⟩ zs1 h hI1 hR1
 change XE list0 out0 i0=some zs1 at h
 unfold XE at h
 conv=>whnf
 intro fp2
 conv=>whnf
 refine Zx h (fun h=>?_) (fun h=>?_)
 conv=>whnf
 refine vAt h (fun x0 he3a he3b he3x h=>?_)
 conv=>whnf
 refine Zk h (fun l02Own0 hb4 h=>?_)
 conv=>whnf
 intro fp5
 conv=>whnf
 refine QJ h (fun hp6 h=>?_)
 conv=>whnf
 intro fp7
 conv=>whnf
 cases h
 exact ⟨⟨rfl,rfl⟩,hI1 _ rfl⟩
 conv=>whnf
 cases h
 obtain rfl:=hR1 _ rfl
 exact hK
theorem w44 (q0:Zc Tryz.prog 177 c42) (q1:Zc Tryz.prog 144 c43):Zc Tryz.prog 239 c44:=by
 refine Zg Zq (Ze q0 (Ze q1 Zj)) mixed {loops:=[(0,[.reg 5 (.dat (.int .i64)),.reg 6 (.dat (.int .i64))]),(2,[.reg 8 (.dat (.int .i64))])],draws:=[(12,[0,1,0,7,15,31,0,64,255],.op 0 (.op 1 (.op 2 (.op 3 (.op 4 (.op 5 (.op 6 (.op 7 (.op 8 (.done))))))))))]} (fn:=Tryz.f239) Tryz.func239 (by kernel_rfl) (by kernel_rfl) ?_
 rintro ⟨a0,⟨⟩⟩ K ⟨r,h,hK⟩
 change Zdp a0=some r at h
 unfold Zdp at h
 conv=>whnf
 refine ZlH h (fun h=>?_) (fun h=>?_)
 conv=>whnf
 cases h
 exact hK
 conv=>whnf
 refine Zx h (fun h=>?_) (fun h=>?_)
 conv=>whnf
 cases h
 exact hK
 conv=>whnf
 refine Yk h ?_
 rintro I0 μ0 ⟨v0,v1,⟨⟩⟩ zs0 h hI0 hR0
 change QS a0 v0 v1=some zs0 at h
 unfold QS at h
 conv=>whnf
 refine Zx h (fun h=>?_) (fun h=>?_)
 conv=>whnf
 refine vAt h (fun x0 he1a he1b he1x h=>?_)
 conv=>whnf
 refine Yk h ?_
 rintro I2 μ2 ⟨v2,⟨⟩⟩ zs2 h hI2 hR2
 change XU a0 v0 v1 x0 v2=some zs2 at h
 unfold XU at h
 conv=>whnf
 refine Zx h (fun h=>?_) (fun h=>?_)
 conv=>whnf
 refine ⟨by kernel_rfl,?_⟩
 conv=>whnf
 refine vAt h (fun x1 he3a he3b he3x h=>?_)
 conv=>whnf
 refine ⟨trivial,?_⟩
 conv=>whnf
 refine Zx h (fun h=>?_) (fun h=>?_)
 conv=>whnf
 cases h
 obtain rfl:=hR2 _ rfl
 obtain rfl:=hR0 _ rfl
 exact hK
 conv=>whnf
 cases h
 exact ⟨⟨rfl,rfl⟩,hI2 _ rfl⟩
 conv=>whnf
 refine Zk h (fun l03Name0 hb4 h=>?_)
 conv=>whnf
 refine Ze5 ?_
 refine YJ h (fun h=>?_) (fun h=>?_)
 conv=>whnf
 refine Zk h (fun l01In0 hb5 h=>?_)
 conv=>whnf
 refine Z5 ?_
 refine YJ h (fun h=>?_) (fun h=>?_)
 conv=>whnf
 refine Zx h (fun h=>?_) (fun h=>?_)
 conv=>whnf
 refine Ze5 ?_
 refine Zx h (fun h=>?_) (fun h=>?_)
 conv=>whnf
 refine Ze5 ?_
 refine Zx h (fun h=>?_) (fun h=>?_)
 conv=>whnf
 refine Zy2 h (fun h=>?_) (fun h=>?_)
 conv=>whnf
 cases h
 obtain rfl:=hR2 _ rfl
 obtain rfl:=hR0 _ rfl
 exact hK
 conv=>whnf
 refine Zx h (fun h=>?_) (fun h=>?_)
 conv=>whnf
 refine Z5 ?_
 refine Zx h (fun h=>?_) (fun h=>?_)
 conv=>whnf
 refine YJ h (fun h=>?_) (fun h=>?_)
 conv=>whnf
 cases h
 obtain rfl:=hR2 _ rfl
 exact ⟨⟨rfl,rfl⟩,hI0 _ rfl⟩
 conv=>whnf
 cases h
 obtain rfl:=hR2 _ rfl
 exact ⟨⟨rfl,rfl⟩,hI0 _ rfl⟩
 conv=>whnf
 cases h
 obtain rfl:=hR2 _ rfl
 obtain rfl:=hR0 _ rfl
 exact hK
 conv=>whnf
 refine YJ h (fun h=>?_) (fun h=>?_)
 conv=>whnf
 cases h
 obtain rfl:=hR2 _ rfl
 exact ⟨⟨rfl,rfl⟩,hI0 _ rfl⟩
 conv=>whnf
 cases h
 obtain rfl:=hR2 _ rfl
 exact ⟨⟨rfl,rfl⟩,hI0 _ rfl⟩
 conv=>whnf
 cases h
 obtain rfl:=hR2 _ rfl
 obtain rfl:=hR0 _ rfl
 exact hK
 conv=>whnf
 cases h
 obtain rfl:=hR2 _ rfl
 obtain rfl:=hR0 _ rfl
 exact hK
 conv=>whnf
 refine Zx h (fun h=>?_) (fun h=>?_)
 conv=>whnf
 refine Z5 ?_
 refine Zx h (fun h=>?_) (fun h=>?_)
 conv=>whnf
 refine YJ h (fun h=>?_) (fun h=>?_)
 conv=>whnf
 cases h
 obtain rfl:=hR2 _ rfl
 exact ⟨⟨rfl,rfl⟩,hI0 _ rfl⟩
 conv=>whnf
 cases h
 obtain rfl:=hR2 _ rfl
 exact ⟨⟨rfl,rfl⟩,hI0 _ rfl⟩
 conv=>whnf
 cases h
 obtain rfl:=hR2 _ rfl
 obtain rfl:=hR0 _ rfl
 exact hK
 conv=>whnf
 refine YJ h (fun h=>?_) (fun h=>?_)
 conv=>whnf
 cases h
 obtain rfl:=hR2 _ rfl
 exact ⟨⟨rfl,rfl⟩,hI0 _ rfl⟩
 conv=>whnf
 cases h
 obtain rfl:=hR2 _ rfl
 exact ⟨⟨rfl,rfl⟩,hI0 _ rfl⟩
 conv=>whnf
 cases h
 obtain rfl:=hR2 _ rfl
 obtain rfl:=hR0 _ rfl
 exact hK
 conv=>whnf
 cases h
 obtain rfl:=hR2 _ rfl
 obtain rfl:=hR0 _ rfl
 exact hK
 conv=>whnf
 cases h
 obtain rfl:=hR0 _ rfl
 exact hK
theorem w73:Zc Tryz.prog 233 c73:=by
 refine Zg Zq Zj mixed {loops:=[(0,[.reg 5 (.dat (.int .i64))])]} (fn:=Tryz.f233) Tryz.func233 (by kernel_rfl) (by kernel_rfl) ?_
 rintro ⟨list0,word0,⟨⟩⟩ K ⟨r,h,hK⟩
 change ZdH list0 word0=some r at h
 unfold ZdH at h
 conv=>whnf
 refine Yk h ?_
 rintro I0 μ0 ⟨i0,⟨⟩⟩ zs0 h hI0 hR0
 change JQ list0 word0 i0=some zs0 at h
 unfold JQ at h
 conv=>whnf
 refine Zx h (fun h=>?_) (fun h=>?_)
 conv=>whnf
 refine vAt h (fun x0 he1a he1b he1x h=>?_)
 conv=>whnf
 refine Zx h (fun h=>?_) (fun h=>?_)
 conv=>whnf
 cases h
 obtain rfl:=hR0 _ rfl
 exact hK
 conv=>whnf
 cases h
 exact ⟨⟨rfl,rfl⟩,hI0 _ rfl⟩
 conv=>whnf
 cases h
 obtain rfl:=hR0 _ rfl
 exact hK
theorem w70:Zc Tryz.prog 175 c70:=by
 refine Zg Zq Zj mixed {loops:=[(0,[.reg 5 (.dat (.int .i64))])],draws:=[(6,[0,1,0,7,15,31,0,64,0,448,960,1984,4095],.op 0 (.op 1 (.op 2 (.op 3 (.op 4 (.op 5 (.op 6 (.op 7 (.op 8 (.op 9 (.op 10 (.op 11 (.op 12 (.done))))))))))))))]} (fn:=Tryz.f175) Tryz.func175 (by kernel_rfl) (by kernel_rfl) ?_
 rintro ⟨a0,b0,⟨⟩⟩ K ⟨r,h,hK⟩
 change VF a0 b0=some r at h
 unfold VF at h
 conv=>whnf
 refine Ze5 ?_
 refine Zx h (fun h=>?_) (fun h=>?_)
 conv=>whnf
 refine Z5 ?_
 refine Zx h (fun h=>?_) (fun h=>?_)
 conv=>whnf
 refine Yk h ?_
 rintro I0 μ0 ⟨i0,⟨⟩⟩ zs0 h hI0 hR0
 change VD a0 b0 i0=some zs0 at h
 unfold VD at h
 conv=>whnf
 refine Zx h (fun h=>?_) (fun h=>?_)
 conv=>whnf
 refine ⟨by kernel_rfl,?_⟩
 conv=>whnf
 refine vAt h (fun x0 he1a he1b he1x h=>?_)
 conv=>whnf
 refine vAt h (fun x1 he2a he2b he2x h=>?_)
 conv=>whnf
 refine ⟨trivial,?_⟩
 conv=>whnf
 refine Z5 ?_
 refine YJ h (fun h=>?_) (fun h=>?_)
 conv=>whnf
 cases h
 exact ⟨⟨rfl,rfl⟩,hI0 _ rfl⟩
 conv=>whnf
 cases h
 obtain rfl:=hR0 _ rfl
 exact hK
 conv=>whnf
 cases h
 obtain rfl:=hR0 _ rfl
 exact hK
 conv=>whnf
 cases h
 exact hK
 conv=>whnf
 cases h
 exact hK
theorem w68:Zc Tryz.prog 110 c68:=by
 refine Zg Zq Zj mixed {} (fn:=Tryz.f110) Tryz.func110 (by kernel_rfl) (by kernel_rfl) ?_
 rintro ⟨a0,⟨⟩⟩ K ⟨r,h,hK⟩
 change ZcI a0=some r at h
 unfold ZcI at h
 conv=>whnf
 refine Zx h (fun h=>?_) (fun h=>?_)
 conv=>whnf
 refine Zx h (fun h=>?_) (fun h=>?_)
 conv=>whnf
 refine Zx h (fun h=>?_) (fun h=>?_)
 conv=>whnf
 refine Zx h (fun h=>?_) (fun h=>?_)
 conv=>whnf
 cases h
 exact hK
 conv=>whnf
 cases h
 exact hK
 conv=>whnf
 cases h
 exact hK
 conv=>whnf
 cases h
 exact hK
 conv=>whnf
 refine Zx h (fun h=>?_) (fun h=>?_)
 conv=>whnf
 refine Zx h (fun h=>?_) (fun h=>?_)
 conv=>whnf
 refine Zx h (fun h=>?_) (fun h=>?_)
 conv=>whnf
 cases h
 exact hK
 conv=>whnf
 cases h
 exact hK
 conv=>whnf
 cases h
 exact hK
 conv=>whnf
 refine Zx h (fun h=>?_) (fun h=>?_)
 conv=>whnf
 refine Zx h (fun h=>?_) (fun h=>?_)
 conv=>whnf
 refine Zx h (fun h=>?_) (fun h=>?_)
 conv=>whnf
 refine Zx h (fun h=>?_) (fun h=>?_)
 conv=>whnf
 refine Zx h (fun h=>?_) (fun h=>?_)
 conv=>whnf
 refine Zx h (fun h=>?_) (fun h=>?_)
 conv=>whnf
 cases h
 exact hK
 conv=>whnf
 cases h
 exact hK
 conv=>whnf
 cases h
 exact hK
 conv=>whnf
 cases h
 exact hK
 conv=>whnf
 cases h
 exact hK
 conv=>whnf
 cases h
 exact hK
 conv=>whnf
 refine Zx h (fun h=>?_) (fun h=>?_)
 conv=>whnf
 refine Zx h (fun h=>?_) (fun h=>?_)
 conv=>whnf
 refine Zx h (fun h=>?_) (fun h=>?_)
 conv=>whnf
 cases h
 exact hK
 conv=>whnf
 cases h
 exact hK
 conv=>whnf
 cases h
 exact hK
 conv=>whnf
 refine Zx h (fun h=>?_) (fun h=>?_)
 conv=>whnf
 refine Zx h (fun h=>?_) (fun h=>?_)
 conv=>whnf
 refine Zx h (fun h=>?_) (fun h=>?_)
 conv=>whnf
 refine Zx h (fun h=>?_) (fun h=>?_)
 conv=>whnf
 cases h
 exact hK
 conv=>whnf
 cases h
 exact hK
 conv=>whnf
 cases h
 exact hK
 conv=>whnf
 cases h
 exact hK
 conv=>whnf
 cases h
 exact hK
theorem w69 (q0:Zc Tryz.prog 134 c56) (q1:Zc Tryz.prog 144 c43):Zc Tryz.prog 111 c69:=by
 refine Zg Zq (Ze q0 (Ze q1 Zj)) mixed {draws:=[(9,[0,1,0,4,15,31,63,127,63,319,1023,2047,4095,8191,16383,8191,40959,8191,139263,499711,1023999,2072575,4169727,8364031,16777215,33554431,67108863],.op 0 (.op 1 (.op 2 (.op 3 (.alt 4 (.op 5 (.op 6 (.op 7 (.op 8 (.op 9 (.alt 10 (.op 11 (.op 12 (.op 13 (.op 14 (.op 15 (.op 16 (.op 17 (.op 18 (.op 19 (.op 20 (.op 21 (.op 22 (.op 23 (.alt 24 (.op 25 (.op 26 (.done))) (.done))))))))))))))) (.done))))))) (.done))))))]} (fn:=Tryz.f111) Tryz.func111 (by kernel_rfl) (by kernel_rfl) ?_
 rintro ⟨a0,a1,⟨⟩⟩ K ⟨r,h,hK⟩
 change ZcD a0 a1=some r at h
 unfold ZcD at h
 conv=>whnf
 refine Zk h (fun l05Places0 hb0 h=>?_)
 conv=>whnf
 refine Zx h (fun h=>?_) (fun h=>?_)
 conv=>whnf
 refine Zx h (fun h=>?_) (fun h=>?_)
 conv=>whnf
 refine Zk h (fun l01In0 hb1 h=>?_)
 conv=>whnf
 refine YJ h (fun h=>?_) (fun h=>?_)
 conv=>whnf
 refine Zk h (fun l01In1 hb2 h=>?_)
 conv=>whnf
 cases h
 exact hK
 conv=>whnf
 cases h
 exact hK
 conv=>whnf
 refine Zx h (fun h=>?_) (fun h=>?_)
 conv=>whnf
 refine ⟨by kernel_rfl,?_⟩
 conv=>whnf
 refine Zk h (fun l01In0 hb3 h=>?_)
 conv=>whnf
 refine YJ h (fun h=>?_) (fun h=>?_)
 conv=>whnf
 refine Zk h (fun l01In1 hb4 h=>?_)
 conv=>whnf
 refine YJ h (fun h=>?_) (fun h=>?_)
 conv=>whnf
 refine vAt h (fun x0 he5a he5b he5x h=>?_)
 conv=>whnf
 refine Zk h (fun l01In2 hb6 h=>?_)
 conv=>whnf
 refine ⟨trivial,?_⟩
 conv=>whnf
 cases h
 exact hK
 conv=>whnf
 refine ⟨trivial,?_⟩
 conv=>whnf
 cases h
 exact hK
 conv=>whnf
 refine ⟨trivial,?_⟩
 conv=>whnf
 cases h
 exact hK
 conv=>whnf
 refine Zx h (fun h=>?_) (fun h=>?_)
 conv=>whnf
 refine Zk h (fun l01In0 hb7 h=>?_)
 conv=>whnf
 cases h
 exact hK
 conv=>whnf
 cases h
 exact hK
 conv=>whnf
 refine Zx h (fun h=>?_) (fun h=>?_)
 conv=>whnf
 refine Zk h (fun l01In0 hb8 h=>?_)
 conv=>whnf
 refine YJ h (fun h=>?_) (fun h=>?_)
 conv=>whnf
 refine Zk h (fun l01In1 hb9 h=>?_)
 conv=>whnf
 cases h
 exact hK
 conv=>whnf
 cases h
 exact hK
 conv=>whnf
 refine Zx h (fun h=>?_) (fun h=>?_)
 conv=>whnf
 refine ⟨by kernel_rfl,?_⟩
 conv=>whnf
 refine Zk h (fun l01In0 hb10 h=>?_)
 conv=>whnf
 refine YJ h (fun h=>?_) (fun h=>?_)
 conv=>whnf
 refine Zk h (fun l01In1 hb11 h=>?_)
 conv=>whnf
 refine YJ h (fun h=>?_) (fun h=>?_)
 conv=>whnf
 refine vAt h (fun x0 he12a he12b he12x h=>?_)
 conv=>whnf
 refine Zk h (fun l01In2 hb13 h=>?_)
 conv=>whnf
 refine ⟨trivial,?_⟩
 conv=>whnf
 cases h
 exact hK
 conv=>whnf
 refine ⟨trivial,?_⟩
 conv=>whnf
 cases h
 exact hK
 conv=>whnf
 refine ⟨trivial,?_⟩
 conv=>whnf
 cases h
 exact hK
 conv=>whnf
 refine Zx h (fun h=>?_) (fun h=>?_)
 conv=>whnf
 refine Zk h (fun l01In0 hb14 h=>?_)
 conv=>whnf
 cases h
 exact hK
 conv=>whnf
 cases h
 exact hK
theorem w77 (q1:Zc Tryz.prog 134 c56) (q3:Zc Tryz.prog 175 c70) (q2:Zc Tryz.prog 176 c71) (q6:Zc Tryz.prog 177 c42) (q0:Zc Tryz.prog 178 c72) (q4:Zc Tryz.prog 179 c74) (q7:Zc Tryz.prog 180 c76) (q5:Zc Tryz.prog 82 c57) (q8:Zc Tryz.prog 81 c58):Zc Tryz.prog 112 c77:=by
 refine Zg Zq (Ze q1 (Ze q3 (Ze q2 (Ze q6 (Ze q0 (Ze q4 (Ze q7 (Ze q5 (Ze q8 Zj))))))))) mixed {draws:=[(5,[0,1,3,7,15,31,63,127,255,511,1023,255,2303,6399,255,16639,63743,129279,260351,524287,1048575,255,2097407,6291711,255,16777471,65011967,132120831,268435455,536870911,1073741823],.op 0 (.op 1 (.op 2 (.op 3 (.op 4 (.op 5 (.op 6 (.op 7 (.op 8 (.op 9 (.op 10 (.op 11 (.op 12 (.op 13 (.op 14 (.op 15 (.op 16 (.op 17 (.op 18 (.op 19 (.op 20 (.op 21 (.op 22 (.op 23 (.op 24 (.op 25 (.op 26 (.op 27 (.alt 28 (.op 29 (.op 30 (.done))) (.done)))))))))))))))))))))))))))))),(11,[0,0,2,7,15,31,63,127,255,255,767,2047,4095,8191,255,16639,65535,131071,262143],.op 0 (.op 1 (.op 2 (.op 3 (.op 4 (.op 5 (.op 6 (.op 7 (.op 8 (.op 9 (.op 10 (.op 11 (.op 12 (.op 13 (.op 14 (.op 15 (.op 16 (.op 17 (.op 18 (.done)))))))))))))))))))),(12,[0,1,0,4,0,16,60,124,255,511],.op 0 (.op 1 (.op 2 (.op 3 (.op 4 (.op 5 (.alt 6 (.op 7 (.alt 8 (.op 9 (.done)) (.done))) (.done))))))))]} (fn:=Tryz.f112) Tryz.func112 (by kernel_rfl) (by kernel_rfl) ?_
 rintro ⟨a0,a1,⟨⟩⟩ K ⟨r,h,hK⟩
 change ZcE a0 a1=some r at h
 unfold ZcE at h
 conv=>whnf
 refine Zk h (fun l05Places0 hb0 h=>?_)
 conv=>whnf
 refine Zx h (fun h=>?_) (fun h=>?_)
 conv=>whnf
 refine vAt h (fun x0 he1a he1b he1x h=>?_)
 conv=>whnf
 refine ⟨by kernel_rfl,?_⟩
 conv=>whnf
 refine ⟨he1a,he1b,Zo he1x ?_⟩
 conv=>whnf
 refine ⟨by kernel_rfl,?_⟩
 conv=>whnf
 refine Zx h (fun h=>?_) (fun h=>?_)
 conv=>whnf
 refine YJ h (fun h=>?_) (fun h=>?_)
 conv=>whnf
 refine vAt h (fun x1 he2a he2b he2x h=>?_)
 conv=>whnf
 refine vAt h (fun x2 he3a he3b he3x h=>?_)
 conv=>whnf
 refine vAt h (fun x3 he4a he4b he4x h=>?_)
 conv=>whnf
 refine Zk h (fun l08Alike0 hb5 h=>?_)
 conv=>whnf
 refine ⟨trivial,?_⟩
 conv=>whnf
 cases h
 exact hK
 conv=>whnf
 refine ⟨trivial,?_⟩
 conv=>whnf
 cases h
 exact hK
 conv=>whnf
 refine ⟨trivial,?_⟩
 conv=>whnf
 cases h
 exact hK
 conv=>whnf
 refine Zx h (fun h=>?_) (fun h=>?_)
 conv=>whnf
 refine vAt h (fun x0 he6a he6b he6x h=>?_)
 conv=>whnf
 refine ⟨by kernel_rfl,?_⟩
 conv=>whnf
 refine ⟨he6a,he6b,Zo he6x ?_⟩
 conv=>whnf
 refine Z5 ?_
 refine YJ h (fun h=>?_) (fun h=>?_)
 conv=>whnf
 cases h
 exact hK
 conv=>whnf
 refine vAt h (fun x1 he7a he7b he7x h=>?_)
 conv=>whnf
 refine Zk h (fun l08Buffer0 hb8 h=>?_)
 conv=>whnf
 refine YJ h (fun h=>?_) (fun h=>?_)
 conv=>whnf
 refine Zk h (fun l03Name0 hb9 h=>?_)
 conv=>whnf
 refine YJ h (fun h=>?_) (fun h=>?_)
 conv=>whnf
 refine Zk h (fun InstanceNamed0 hb10 h=>?_)
 conv=>whnf
 refine Zx h (fun h=>?_) (fun h=>?_)
 conv=>whnf
 refine Zk h (fun NetNamed0 hb11 h=>?_)
 conv=>whnf
 cases h
 exact hK
 conv=>whnf
 cases h
 exact hK
 conv=>whnf
 cases h
 exact hK
 conv=>whnf
 cases h
 exact hK
 conv=>whnf
 refine Zx h (fun h=>?_) (fun h=>?_)
 conv=>whnf
 refine Zk h (fun l08Last0 hb12 h=>?_)
 conv=>whnf
 cases h
 exact hK
 conv=>whnf
 refine Zx h (fun h=>?_) (fun h=>?_)
 conv=>whnf
 refine ⟨by kernel_rfl,?_⟩
 conv=>whnf
 refine vAt h (fun x0 he13a he13b he13x h=>?_)
 conv=>whnf
 refine ⟨by kernel_rfl,?_⟩
 conv=>whnf
 refine ⟨he13a,he13b,Zo he13x ?_⟩
 conv=>whnf
 refine Z5 ?_
 refine YJ h (fun h=>?_) (fun h=>?_)
 conv=>whnf
 refine ⟨trivial,?_⟩
 conv=>whnf
 cases h
 exact hK
 conv=>whnf
 refine ⟨he13a,he13b,Zo he13x ?_⟩
 conv=>whnf
 refine ⟨by kernel_rfl,?_⟩
 conv=>whnf
 refine ⟨he13a,he13b,Zo he13x ?_⟩
 conv=>whnf
 refine ⟨trivial,?_⟩
 conv=>whnf
 cases h
 exact hK
 conv=>whnf
 refine ⟨by kernel_rfl,?_⟩
 conv=>whnf
 refine Zk h (fun l05Sinks0 hb14 h=>?_)
 conv=>whnf
 refine Zk h (fun IsWire0 hb15 h=>?_)
 conv=>whnf
 refine ⟨trivial,?_⟩
 conv=>whnf
 cases h
 exact hK
end Go.Proofs.YtfndhpjedmopdaaGreatDoor
