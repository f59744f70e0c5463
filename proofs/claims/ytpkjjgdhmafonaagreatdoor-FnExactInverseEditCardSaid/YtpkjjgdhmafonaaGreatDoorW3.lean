/-
  The functions keep their contracts, if what they call does. Printed by program.
-/
import Derived.Test.YtpkjjgdhmafonaaGreatDoorM
import Derived.KernelRfl
namespace Go.Proofs.YtpkjjgdhmafonaaGreatDoor
open Go Go.Sx
set_option maxRecDepth 100000
set_option maxHeartbeats 3200000
set_option linter.unusedVariables false
set_option linter.unusedSimpArgs false
theorem w105:SoundC Tryz.prog 237 c105:=by
 refine fn_sound tab_ok gam_nil mixed {} (fn:=Tryz.f237) Tryz.func237 (by kernel_rfl) (by kernel_rfl) ?_
 rintro ⟨a0,a1,⟨⟩⟩ K ⟨r,h,hK⟩
 change impl_Cell_has_c1 a0 a1=some r at h
 unfold impl_Cell_has_c1 at h
 conv=>whnf
 cases h
 exact hK
theorem w119 (q1:SoundC Tryz.prog 155 c113) (q2:SoundC Tryz.prog 149 c74) (q0:SoundC Tryz.prog 180 c118):SoundC Tryz.prog 144 c119:=by
 refine fn_sound tab_ok (gam_cons q1 (gam_cons q2 (gam_cons q0 gam_nil))) mixed {draws:=[(1,[0,1,0,4,12,28,63,127,255,511,1023,255,2303,255,8447,30975,63743,129279,260351,524287,1048575,2097151,4194303,8388607,4194303,33554431,67108863,134217727,268435455],.op 0 (.op 1 (.op 2 (.op 3 (.alt 4 (.op 5 (.alt 6 (.op 7 (.op 8 (.op 9 (.op 10 (.op 11 (.op 12 (.op 13 (.op 14 (.op 15 (.op 16 (.op 17 (.op 18 (.op 19 (.op 20 (.op 21 (.op 22 (.op 23 (.op 24 (.alt 25 (.op 26 (.op 27 (.op 28 (.done)))) (.done)))))))))))))))))))) (.done))) (.done))))))]} (fn:=Tryz.f144) Tryz.func144 (by kernel_rfl) (by kernel_rfl) ?_
 rintro ⟨d0,l0,x0,⟨⟩⟩ K ⟨r,h,hK⟩
 change impl_Design_isInstance d0 l0 x0=some r at h
 unfold impl_Design_isInstance at h
 conv=>whnf
 refine ⟨by kernel_rfl,?_⟩
 conv=>whnf
 refine vBind h (fun Cell0 hb0 h=>?_)
 conv=>whnf
 refine vBind h (fun within0 hb1 h=>?_)
 conv=>whnf
 refine vIfB h (fun h=>?_) (fun h=>?_)
 conv=>whnf
 refine vAt h (fun x1 he2a he2b he2x h=>?_)
 conv=>whnf
 refine vIfD h (fun h=>?_) (fun h=>?_)
 conv=>whnf
 refine vBind h (fun c1_0 hb3 h=>?_)
 conv=>whnf
 cases h
 exact hK
 conv=>whnf
 cases h
 exact hK
 conv=>whnf
 cases h
 exact hK
theorem w145 (q1:SoundC Tryz.prog 63 c127) (q0:SoundC Tryz.prog 64 c144):SoundC Tryz.prog 29 c145:=by
 refine fn_sound tab_ok (gam_cons q1 (gam_cons q0 gam_nil)) mixed {} (fn:=Tryz.f29) Tryz.func29 (by kernel_rfl) (by kernel_rfl) ?_
 rintro ⟨b0,e0,⟨⟩⟩ K ⟨r,h,hK⟩
 change impl_EditCode b0 e0=some r at h
 unfold impl_EditCode at h
 conv=>whnf
 refine vBind h (fun IsBlock0 hb0 h=>?_)
 conv=>whnf
 refine vNots ?_
 refine vIfB h (fun h=>?_) (fun h=>?_)
 conv=>whnf
 refine vBind h (fun code0 hb1 h=>?_)
 conv=>whnf
 cases h
 exact hK
 conv=>whnf
 cases h
 exact hK
theorem w144 (q1:SoundC Tryz.prog 112 c133) (q0:SoundC Tryz.prog 113 c143):SoundC Tryz.prog 64 c144:=by
 refine fn_sound tab_ok (gam_cons q1 (gam_cons q0 gam_nil)) mixed {} (fn:=Tryz.f64) Tryz.func64 (by kernel_rfl) (by kernel_rfl) ?_
 rintro ⟨e0,b0,⟨⟩⟩ K ⟨r,h,hK⟩
 change impl_Edit_code e0 b0=some r at h
 unfold impl_Edit_code at h
 conv=>whnf
 refine vBind h (fun isInRange0 hb0 h=>?_)
 conv=>whnf
 refine vNots ?_
 refine vIfB h (fun h=>?_) (fun h=>?_)
 conv=>whnf
 refine vBind h (fun isPossible0 hb1 h=>?_)
 conv=>whnf
 refine vNots ?_
 refine vIfB h (fun h=>?_) (fun h=>?_)
 conv=>whnf
 refine vIfD h (fun h=>?_) (fun h=>?_)
 conv=>whnf
 refine vIfDs h (fun h=>?_) (fun h=>?_)
 conv=>whnf
 cases h
 exact hK
 conv=>whnf
 refine vIfD h (fun h=>?_) (fun h=>?_)
 conv=>whnf
 cases h
 exact hK
 conv=>whnf
 cases h
 exact hK
 conv=>whnf
 cases h
 exact hK
 conv=>whnf
 cases h
 exact hK
 conv=>whnf
 cases h
 exact hK
theorem w128:SoundC Tryz.prog 153 c128:=by
 refine fn_sound tab_ok gam_nil mixed {} (fn:=Tryz.f153) Tryz.func153 (by kernel_rfl) (by kernel_rfl) ?_
 rintro ⟨e0,⟨⟩⟩ K ⟨r,h,hK⟩
 change impl_Edit_own e0=some r at h
 unfold impl_Edit_own at h
 conv=>whnf
 refine vIfD h (fun h=>?_) (fun h=>?_)
 conv=>whnf
 cases h
 exact hK
 conv=>whnf
 refine vIfD h (fun h=>?_) (fun h=>?_)
 conv=>whnf
 cases h
 exact hK
 conv=>whnf
 refine vIfD h (fun h=>?_) (fun h=>?_)
 conv=>whnf
 cases h
 exact hK
 conv=>whnf
 refine vIfD h (fun h=>?_) (fun h=>?_)
 conv=>whnf
 cases h
 exact hK
 conv=>whnf
 cases h
 exact hK
theorem w123 (q4:SoundC Tryz.prog 142 c111) (q2:SoundC Tryz.prog 143 c112) (q1:SoundC Tryz.prog 144 c119) (q3:SoundC Tryz.prog 145 c115) (q0:SoundC Tryz.prog 146 c122):SoundC Tryz.prog 110 c123:=by
 refine fn_sound tab_ok (gam_cons q4 (gam_cons q2 (gam_cons q1 (gam_cons q3 (gam_cons q0 gam_nil))))) mixed {loops:=[(0,[.reg 25 (.dat (.int .i64)),.ent 2 (nat_lit 3) (.flat ti165.ety)]),(2,[.reg 51 (.dat (.int .i64)),.ent 2 (nat_lit 3) (.flat ti165.ety)])]} (fn:=Tryz.f110) Tryz.func110 (by kernel_rfl) (by kernel_rfl) ?_
 rintro ⟨a0,a1,⟨⟩⟩ K ⟨r,h,hK⟩
 change impl_IsDesign a0 a1=some r at h
 unfold impl_IsDesign at h
 conv=>whnf
 refine vBind h (fun IsLibrary0 hb0 h=>?_)
 conv=>whnf
 refine vNot ?_
 refine vIfB h (fun h=>?_) (fun h=>?_)
 conv=>whnf
 refine vBind h (fun hasNames0 hb1 h=>?_)
 conv=>whnf
 refine vNots ?_
 refine vIfB h (fun h=>?_) (fun h=>?_)
 conv=>whnf
 refine vPre h (fun hp2 h=>?_)
 conv=>whnf
 refine vPre h (fun hp3 h=>?_)
 conv=>whnf
 refine vPre h (fun hp4 h=>?_)
 conv=>whnf
 refine vPre h (fun hp5 h=>?_)
 conv=>whnf
 refine vLoop h ?_
 rintro I6 μ6 ⟨v0,l0,⟨⟩⟩ zs6 h hI6 hR6
 change impl_IsDesign_loop1 a0 a1 v0 l0=some zs6 at h
 unfold impl_IsDesign_loop1 at h
 conv=>whnf
 refine vIfD h (fun h=>?_) (fun h=>?_)
 conv=>whnf
 refine vAt h (fun x0 he7a he7b he7x h=>?_)
 conv=>whnf
 refine vBind h (fun isInstance0 hb8 h=>?_)
 conv=>whnf
 refine vNots ?_
 refine vIfB h (fun h=>?_) (fun h=>?_)
 conv=>whnf
 refine vAt h (fun x1 he9a he9b he9x h=>?_)
 conv=>whnf
 refine vAt h (fun x2 he10a he10b he10x h=>?_)
 conv=>whnf
 refine ⟨by kernel_rfl,?_⟩
 conv=>whnf
 refine ⟨he10a,he10b,vAgain he10x ?_⟩
 conv=>whnf
 refine ⟨he10a,he10b,vAgain he10x ?_⟩
 conv=>whnf
 refine ⟨by kernel_rfl,?_⟩
 conv=>whnf
 refine ⟨by decide,?_⟩
 conv=>whnf
 refine ⟨he10a,he10b,vAgain he10x ?_⟩
 conv=>whnf
 cases h
 exact ⟨⟨rfl,rfl⟩,hI6 _ rfl⟩
 conv=>whnf
 cases h
 obtain rfl:=hR6 _ rfl
 exact hK
 conv=>whnf
 refine vLoop h ?_
 rintro I11 μ11 ⟨v1,l1,⟨⟩⟩ zs11 h hI11 hR11
 change impl_IsDesign_loop0 a1 v1 l1=some zs11 at h
 unfold impl_IsDesign_loop0 at h
 conv=>whnf
 refine vIfD h (fun h=>?_) (fun h=>?_)
 conv=>whnf
 refine vAt h (fun x0 he12a he12b he12x h=>?_)
 conv=>whnf
 refine vNots ?_
 refine vIfD h (fun h=>?_) (fun h=>?_)
 conv=>whnf
 refine vBind h (fun isNet0 hb13 h=>?_)
 conv=>whnf
 refine vNots ?_
 refine vIfB h (fun h=>?_) (fun h=>?_)
 conv=>whnf
 refine vIfD h (fun h=>?_) (fun h=>?_)
 conv=>whnf
 refine vAt h (fun x1 he14a he14b he14x h=>?_)
 conv=>whnf
 refine ⟨by kernel_rfl,?_⟩
 conv=>whnf
 refine ⟨he14a,he14b,vAgain he14x ?_⟩
 conv=>whnf
 refine ⟨he14a,he14b,vAgain he14x ?_⟩
 conv=>whnf
 refine ⟨by kernel_rfl,?_⟩
 conv=>whnf
 refine ⟨by decide,?_⟩
 conv=>whnf
 refine ⟨he14a,he14b,vAgain he14x ?_⟩
 conv=>whnf
 cases h
 exact ⟨⟨rfl,rfl⟩,hI11 _ rfl⟩
 conv=>whnf
 cases h
 exact ⟨⟨rfl,rfl⟩,hI11 _ rfl⟩
 conv=>whnf
 cases h
 obtain rfl:=hR11 _ rfl
 obtain rfl:=hR6 _ rfl
 exact hK
 conv=>whnf
 refine vNot ?_
 refine vIfD h (fun h=>?_) (fun h=>?_)
 conv=>whnf
 refine vBind h (fun isNet0 hb15 h=>?_)
 conv=>whnf
 refine vNots ?_
 refine vIfB h (fun h=>?_) (fun h=>?_)
 conv=>whnf
 refine vIfD h (fun h=>?_) (fun h=>?_)
 conv=>whnf
 refine vAt h (fun x1 he16a he16b he16x h=>?_)
 conv=>whnf
 refine ⟨by kernel_rfl,?_⟩
 conv=>whnf
 refine ⟨he16a,he16b,vAgain he16x ?_⟩
 conv=>whnf
 refine ⟨he16a,he16b,vAgain he16x ?_⟩
 conv=>whnf
 refine ⟨by kernel_rfl,?_⟩
 conv=>whnf
 refine ⟨by decide,?_⟩
 conv=>whnf
 refine ⟨he16a,he16b,vAgain he16x ?_⟩
 conv=>whnf
 cases h
 exact ⟨⟨rfl,rfl⟩,hI11 _ rfl⟩
 conv=>whnf
 cases h
 exact ⟨⟨rfl,rfl⟩,hI11 _ rfl⟩
 conv=>whnf
 cases h
 obtain rfl:=hR11 _ rfl
 obtain rfl:=hR6 _ rfl
 exact hK
 conv=>whnf
 cases h
 obtain rfl:=hR11 _ rfl
 obtain rfl:=hR6 _ rfl
 exact hK
 conv=>whnf
 refine vBind h (fun c1_0 hb17 h=>?_)
 conv=>whnf
 cases h
 obtain rfl:=hR11 _ rfl
 obtain rfl:=hR6 _ rfl
 exact hK
 conv=>whnf
 cases h
 exact hK
 conv=>whnf
 cases h
 exact hK
theorem w89 (q1:SoundC Tryz.prog 253 c88) (q0:SoundC Tryz.prog 151 c86):SoundC Tryz.prog 244 c89:=by
 refine fn_sound tab_ok (gam_cons q1 (gam_cons q0 gam_nil)) mixed {} (fn:=Tryz.f244) Tryz.func244 (by kernel_rfl) (by kernel_rfl) ?_
 rintro ⟨t0,⟨⟩⟩ K ⟨r,h,hK⟩
 change impl_IsTable t0=some r at h
 unfold impl_IsTable at h
 conv=>whnf
 refine vBind h (fun isAxis0 hb0 h=>?_)
 conv=>whnf
 refine vIfB h (fun h=>?_) (fun h=>?_)
 conv=>whnf
 refine vBind h (fun isAxis1 hb1 h=>?_)
 conv=>whnf
 refine vIfB h (fun h=>?_) (fun h=>?_)
 conv=>whnf
 refine vIfD h (fun h=>?_) (fun h=>?_)
 conv=>whnf
 refine vBind h (fun areWithin0 hb2 h=>?_)
 conv=>whnf
 cases h
 exact hK
 conv=>whnf
 cases h
 exact hK
 conv=>whnf
 cases h
 exact hK
 conv=>whnf
 cases h
 exact hK
theorem w155 (q0:SoundC Tryz.prog 120 c147):SoundC Tryz.prog 70 c155:=by
 refine fn_sound tab_ok (gam_cons q0 gam_nil) mixed {draws:=[(1,[0,1,3,0,8,31,0,64,255,0,512,2047,4095,8191],.op 0 (.op 1 (.op 3 (.op 4 (.op 6 (.op 7 (.op 9 (.op 10 (.alt 2 (.alt 5 (.alt 8 (.alt 11 (.op 12 (.alt 13 (.done) (.done))) (.done)) (.done)) (.done)) (.done))))))))))]} (fn:=Tryz.f70) Tryz.func70 (by kernel_rfl) (by kernel_rfl) ?_
 rintro ⟨w0,⟨⟩⟩ K ⟨r,h,hK⟩
 change impl_Wire_clone w0=some r at h
 unfold impl_Wire_clone at h
 conv=>whnf
 refine ⟨by kernel_rfl,?_⟩
 conv=>whnf
 refine vBind h (fun int64_0 hb0 h=>?_)
 conv=>whnf
 refine vBind h (fun int64_1 hb1 h=>?_)
 conv=>whnf
 refine vBind h (fun int64_2 hb2 h=>?_)
 conv=>whnf
 refine vBind h (fun int64_3 hb3 h=>?_)
 conv=>whnf
 cases h
 exact hK
theorem w150 (q0:SoundC Tryz.prog 162 c146) (q2:SoundC Tryz.prog 120 c147) (q1:SoundC Tryz.prog 163 c148) (q3:SoundC Tryz.prog 164 c149):SoundC Tryz.prog 114 c150:=by
 refine fn_sound tabD_ok (gam_cons q0 (gam_cons q2 (gam_cons q1 (gam_cons q3 gam_nil)))) mixed {loops:=[(0,[.reg 11 (.dat (.int .i64)),.cello 2 0 (.ol 150 (dCell))]),(2,[.reg 30 (.dat (.int .i64)),.splt 7 200 dArc])],draws:=[(5,[0,1,3,0,8,31,31,127,255,511],.op 0 (.op 1 (.op 3 (.op 4 (.alt 2 (.op 6 (.alt 5 (.alt 7 (.op 8 (.alt 9 (.done) (.done))) (.done)) (.done))) (.done)))))),(10,[0,1,0,0,8,0,0,64,192,0,512,1984,4039,8135,16327,32767,65535,131071],.op 0 (.op 1 (.op 2 (.op 3 (.op 5 (.op 6 (.op 7 (.op 9 (.op 10 (.alt 4 (.alt 8 (.alt 11 (.op 12 (.op 13 (.alt 14 (.op 15 (.op 16 (.alt 17 (.done) (.done)))) (.done)))) (.done)) (.done)) (.alt 8 (.alt 4 (.alt 11 (.op 12 (.op 13 (.alt 14 (.op 15 (.op 16 (.alt 17 (.done) (.done)))) (.done)))) (.done)) (.alt 11 (.op 12 (.op 13 (.alt 4 (.alt 14 (.op 15 (.op 16 (.alt 17 (.done) (.done)))) (.done)) (.alt 14 (.alt 4 (.op 15 (.op 16 (.alt 17 (.done) (.done)))) (.done)) (.done))))) (.done))) (.done))))))))))))]} (fn:=Tryz.f114) Tryz.func114 (by kernel_rfl) (by kernel_rfl) ?_
 rintro ⟨l0,⟨⟩⟩ K ⟨r,h,hK⟩
 change impl_cloneLibrary l0=some r at h
 unfold impl_cloneLibrary at h
 conv=>whnf
 refine vLoop h ?_
 rintro I0 μ0 ⟨v0,c0,⟨⟩⟩ zs0 h hI0 hR0
 change impl_cloneLibrary_loop1 l0 v0 c0=some zs0 at h
 unfold impl_cloneLibrary_loop1 at h
 conv=>whnf
 intro fp1
 conv=>whnf
 refine vIfD h (fun h=>?_) (fun h=>?_)
 conv=>whnf
 refine vAt h (fun x0 he2a he2b he2x h=>?_)
 conv=>whnf
 refine ⟨by kernel_rfl,?_⟩
 conv=>whnf
 refine vBind h (fun Pin0 hb3 h=>?_)
 conv=>whnf
 refine vBind h (fun int64_0 hb4 h=>?_)
 conv=>whnf
 refine vBind h (fun Arc0 hb5 h=>?_)
 conv=>whnf
 refine vLoop h ?_
 rintro I6 μ6 ⟨v1,l1,⟨⟩⟩ zs6 h hI6 hR6
 change impl_cloneLibrary_loop0 v0 c0 x0 Pin0 int64_0 Arc0 v1 l1=some zs6 at h
 unfold impl_cloneLibrary_loop0 at h
 conv=>whnf
 intro fp7
 conv=>whnf
 refine vIfD h (fun h=>?_) (fun h=>?_)
 conv=>whnf
 refine vAt h (fun x1 he8a he8b he8x h=>?_)
 conv=>whnf
 refine vPre h (fun hp9 h=>?_)
 conv=>whnf
 refine ⟨he8a,he8b,vAgain he8x ?_⟩
 conv=>whnf
 refine ⟨by kernel_rfl,?_⟩
 conv=>whnf
 refine ⟨?_,?_⟩
 conv=>whnf
 refine vBind h (fun cloneTables0 hb10 h=>?_)
 conv=>whnf
 intro fp11
 conv=>whnf
 refine vBind h (fun cloneTables1 hb12 h=>?_)
 conv=>whnf
 intro fp13
 conv=>whnf
 refine ⟨he8a,he8b,vAgain he8x ?_⟩
 conv=>whnf
 refine vPre h (fun hp14 h=>?_)
 conv=>whnf
 refine vAt h (fun x2 he15a he15b he15x h=>?_)
 conv=>whnf
 refine ⟨he8a,he8b,vAgain he8x ?_⟩
 conv=>whnf
 refine ⟨hp14,?_⟩
 conv=>whnf
 cases h
 exact ⟨⟨rfl,rfl⟩,hI6 _ rfl⟩
 obtain ⟨cloneTables0,hb10,h⟩:=Option.bind_eq_some_iff.1 h
 obtain ⟨cloneTables1,hb12,h⟩:=Option.bind_eq_some_iff.1 h
 obtain ⟨hp14,h⟩:=guardE h
 obtain ⟨x2,he15a,he15b,he15x,h⟩:=atE h
 conv=>whnf
 refine ⟨_,hb10,?_⟩
 conv=>whnf
 intro fp16
 conv=>whnf
 refine ⟨?_,?_⟩
 conv=>whnf
 refine ⟨_,hb12,?_⟩
 conv=>whnf
 intro fp17
 conv=>whnf
 refine ⟨he8a,he8b,vAgain he8x ?_⟩
 conv=>whnf
 refine ⟨hp14,?_⟩
 conv=>whnf
 refine ⟨he15a,he15b,vAgain he15x ?_⟩
 conv=>whnf
 refine ⟨he8a,he8b,vAgain he8x ?_⟩
 conv=>whnf
 refine ⟨hp14,?_⟩
 conv=>whnf
 cases h
 exact ⟨⟨rfl,rfl⟩,hI6 _ rfl⟩
 conv=>whnf
 refine ⟨_,hb12,?_⟩
 conv=>whnf
 intro fp18
 conv=>whnf
 refine ⟨he8a,he8b,vAgain he8x ?_⟩
 conv=>whnf
 refine ⟨?_,?_⟩
 conv=>whnf
 refine ⟨hp14,?_⟩
 conv=>whnf
 refine ⟨he15a,he15b,vAgain he15x ?_⟩
 conv=>whnf
 refine ⟨he8a,he8b,vAgain he8x ?_⟩
 conv=>whnf
 refine ⟨hp14,?_⟩
 conv=>whnf
 cases h
 exact ⟨⟨rfl,rfl⟩,hI6 _ rfl⟩
 conv=>whnf
 refine ⟨hp14,?_⟩
 conv=>whnf
 refine ⟨he15a,he15b,vAgain he15x ?_⟩
 conv=>whnf
 refine ⟨he8a,he8b,vAgain he8x ?_⟩
 conv=>whnf
 refine ⟨hp14,?_⟩
 conv=>whnf
 cases h
 exact ⟨⟨rfl,rfl⟩,hI6 _ rfl⟩
 conv=>whnf
 refine vPre h (fun hp19 h=>?_)
 conv=>whnf
 intro fp20
 conv=>whnf
 refine vPre h (fun hp21 h=>?_)
 conv=>whnf
 intro fp22
 conv=>whnf
 cases h
 obtain rfl:=hR6 _ rfl
 exact ⟨⟨rfl,rfl⟩,hI0 _ rfl⟩
 conv=>whnf
 cases h
 obtain rfl:=hR0 _ rfl
 exact hK
theorem w136 (q0:SoundC Tryz.prog 185 c135):SoundC Tryz.prog 156 c136:=by
 refine fn_sound tab_ok (gam_cons q0 gam_nil) mixed {} (fn:=Tryz.f156) Tryz.func156 (by kernel_rfl) (by kernel_rfl) ?_
 rintro ⟨a0,b0,⟨⟩⟩ K ⟨r,h,hK⟩
 change impl_fitsSwap a0 b0=some r at h
 unfold impl_fitsSwap at h
 conv=>whnf
 refine vIfD h (fun h=>?_) (fun h=>?_)
 conv=>whnf
 refine vBind h (fun c1_0 hb0 h=>?_)
 conv=>whnf
 cases h
 exact hK
 conv=>whnf
 cases h
 exact hK
theorem w113:SoundC Tryz.prog 155 c113:=by
 refine fn_sound tab_ok gam_nil mixed {} (fn:=Tryz.f155) Tryz.func155 (by kernel_rfl) (by kernel_rfl) ?_
 rintro ⟨list0,⟨⟩⟩ K ⟨r,h,hK⟩
 change impl_length_impl_Cell list0=some r at h
 unfold impl_length_impl_Cell at h
 conv=>whnf
 cases h
 exact hK
theorem w175 (q0:SoundC Tryz.prog 193 c174):SoundC Tryz.prog 169 c175:=by
 refine fn_sound tab_ok (gam_cons q0 gam_nil) mixed {loops:=[(0,[.reg 5 (.dat (.int .i64))])],draws:=[(6,[0,0,3,7,0,0,48,112,255,511],.op 0 (.op 1 (.op 2 (.op 3 (.op 4 (.op 5 (.op 6 (.op 7 (.alt 8 (.op 9 (.done)) (.done))))))))))]} (fn:=Tryz.f169) Tryz.func169 (by kernel_rfl) (by kernel_rfl) ?_
 rintro ⟨a0,b0,⟨⟩⟩ K ⟨r,h,hK⟩
 change laws_eqArcS a0 b0=some r at h
 unfold laws_eqArcS at h
 conv=>whnf
 refine vNots ?_
 refine vIfD h (fun h=>?_) (fun h=>?_)
 conv=>whnf
 refine vLoop h ?_
 rintro I0 μ0 ⟨i0,⟨⟩⟩ zs0 h hI0 hR0
 change laws_eqArcS_loop0 a0 b0 i0=some zs0 at h
 unfold laws_eqArcS_loop0 at h
 conv=>whnf
 refine vIfD h (fun h=>?_) (fun h=>?_)
 conv=>whnf
 refine ⟨by kernel_rfl,?_⟩
 conv=>whnf
 refine vAt h (fun x0 he1a he1b he1x h=>?_)
 conv=>whnf
 refine vAt h (fun x1 he2a he2b he2x h=>?_)
 conv=>whnf
 refine vBind h (fun eqArc0 hb3 h=>?_)
 conv=>whnf
 refine vNots ?_
 refine vIfB h (fun h=>?_) (fun h=>?_)
 conv=>whnf
 cases h
 exact ⟨⟨rfl,rfl⟩,hI0 _ rfl⟩
 conv=>whnf
 cases h
 obtain rfl:=hR0 _ rfl
 exact hK
 conv=>whnf
 cases h
 obtain rfl:=hR0 _ rfl
 exact hK
 conv=>whnf
 cases h
 exact hK
theorem w186 (q0:SoundC Tryz.prog 32 c178) (q1:SoundC Tryz.prog 33 c184) (q2:SoundC Tryz.prog 34 c185):SoundC Tryz.prog 12 c186:=by
 refine fn_sound tab_ok (gam_cons q0 (gam_cons q1 (gam_cons q2 gam_nil))) mixed {} (fn:=Tryz.f12) Tryz.func12 (by kernel_rfl) (by kernel_rfl) ?_
 rintro ⟨a0,b0,⟨⟩⟩ K ⟨r,h,hK⟩
 change laws_eqBlock a0 b0=some r at h
 unfold laws_eqBlock at h
 conv=>whnf
 refine vBind h (fun eqLibrary0 hb0 h=>?_)
 conv=>whnf
 refine vNots ?_
 refine vIfB h (fun h=>?_) (fun h=>?_)
 conv=>whnf
 refine vBind h (fun eqDesign0 hb1 h=>?_)
 conv=>whnf
 refine vNots ?_
 refine vIfB h (fun h=>?_) (fun h=>?_)
 conv=>whnf
 refine vBind h (fun eqWireS0 hb2 h=>?_)
 conv=>whnf
 refine vNots ?_
 refine vIfB h (fun h=>?_) (fun h=>?_)
 conv=>whnf
 cases h
 exact hK
 conv=>whnf
 cases h
 exact hK
 conv=>whnf
 cases h
 exact hK
 conv=>whnf
 cases h
 exact hK
theorem w177 (q0:SoundC Tryz.prog 121 c176):SoundC Tryz.prog 72 c177:=by
 refine fn_sound tab_ok (gam_cons q0 gam_nil) mixed {loops:=[(0,[.reg 5 (.dat (.int .i64))])],draws:=[(6,[0,0,3,7,0,0,48,112,255,511],.op 0 (.op 1 (.op 2 (.op 3 (.op 4 (.op 5 (.op 6 (.op 7 (.alt 8 (.op 9 (.done)) (.done))))))))))]} (fn:=Tryz.f72) Tryz.func72 (by kernel_rfl) (by kernel_rfl) ?_
 rintro ⟨a0,b0,⟨⟩⟩ K ⟨r,h,hK⟩
 change laws_eqCellS a0 b0=some r at h
 unfold laws_eqCellS at h
 conv=>whnf
 refine vNots ?_
 refine vIfD h (fun h=>?_) (fun h=>?_)
 conv=>whnf
 refine vLoop h ?_
 rintro I0 μ0 ⟨i0,⟨⟩⟩ zs0 h hI0 hR0
 change laws_eqCellS_loop0 a0 b0 i0=some zs0 at h
 unfold laws_eqCellS_loop0 at h
 conv=>whnf
 refine vIfD h (fun h=>?_) (fun h=>?_)
 conv=>whnf
 refine ⟨by kernel_rfl,?_⟩
 conv=>whnf
 refine vAt h (fun x0 he1a he1b he1x h=>?_)
 conv=>whnf
 refine vAt h (fun x1 he2a he2b he2x h=>?_)
 conv=>whnf
 refine vBind h (fun eqCell0 hb3 h=>?_)
 conv=>whnf
 refine vNots ?_
 refine vIfB h (fun h=>?_) (fun h=>?_)
 conv=>whnf
 cases h
 exact ⟨⟨rfl,rfl⟩,hI0 _ rfl⟩
 conv=>whnf
 cases h
 obtain rfl:=hR0 _ rfl
 exact hK
 conv=>whnf
 cases h
 obtain rfl:=hR0 _ rfl
 exact hK
 conv=>whnf
 cases h
 exact hK
theorem w179 (q0:SoundC Tryz.prog 71 c167):SoundC Tryz.prog 122 c179:=by
 refine fn_sound tab_ok (gam_cons q0 gam_nil) mixed {} (fn:=Tryz.f122) Tryz.func122 (by kernel_rfl) (by kernel_rfl) ?_
 rintro ⟨a0,b0,⟨⟩⟩ K ⟨r,h,hK⟩
 change laws_eqInstance a0 b0=some r at h
 unfold laws_eqInstance at h
 conv=>whnf
 refine vNots ?_
 refine vIfD h (fun h=>?_) (fun h=>?_)
 conv=>whnf
 refine vNots ?_
 refine vIfD h (fun h=>?_) (fun h=>?_)
 conv=>whnf
 refine vBind h (fun eqInt64S0 hb0 h=>?_)
 conv=>whnf
 refine vNots ?_
 refine vIfB h (fun h=>?_) (fun h=>?_)
 conv=>whnf
 cases h
 exact hK
 conv=>whnf
 cases h
 exact hK
 conv=>whnf
 cases h
 exact hK
 conv=>whnf
 cases h
 exact hK
theorem w168 (q0:SoundC Tryz.prog 71 c167):SoundC Tryz.prog 31 c168:=by
 refine fn_sound tab_ok (gam_cons q0 gam_nil) mixed {} (fn:=Tryz.f31) Tryz.func31 (by kernel_rfl) (by kernel_rfl) ?_
 rintro ⟨a0,b0,⟨⟩⟩ K ⟨r,h,hK⟩
 change laws_eqWire a0 b0=some r at h
 unfold laws_eqWire at h
 conv=>whnf
 refine vBind h (fun eqInt64S0 hb0 h=>?_)
 conv=>whnf
 refine vNots ?_
 refine vIfB h (fun h=>?_) (fun h=>?_)
 conv=>whnf
 refine vBind h (fun eqInt64S1 hb1 h=>?_)
 conv=>whnf
 refine vNots ?_
 refine vIfB h (fun h=>?_) (fun h=>?_)
 conv=>whnf
 refine vBind h (fun eqInt64S2 hb2 h=>?_)
 conv=>whnf
 refine vNots ?_
 refine vIfB h (fun h=>?_) (fun h=>?_)
 conv=>whnf
 refine vBind h (fun eqInt64S3 hb3 h=>?_)
 conv=>whnf
 refine vNots ?_
 refine vIfB h (fun h=>?_) (fun h=>?_)
 conv=>whnf
 cases h
 exact hK
 conv=>whnf
 cases h
 exact hK
 conv=>whnf
 cases h
 exact hK
 conv=>whnf
 cases h
 exact hK
 conv=>whnf
 cases h
 exact hK
theorem w191 (q0:SoundC Tryz.prog 170 c190):SoundC Tryz.prog 126 c191:=by
 refine fn_sound tabD_ok (gam_cons q0 gam_nil) mixed {loops:=[(0,[.reg 1 (.dat (.int .i64)),.reg 5 (.dat (.int .i64)),.ent 0 (nat_lit 200) (Dp.pair (Dp.flat (Ty.int IntKind.i64)) (Dp.pair (Dp.flat (Ty.int IntKind.i64)) (Dp.pair (Dp.flat (Ty.int IntKind.i64)) (Dp.pair (Dp.flat (Ty.int IntKind.i64)) (Dp.pair (Dp.ol (227:Go.TypeId) dTable) (Dp.pair (Dp.ol (227:Go.TypeId) dTable) (Dp.flat Ty.unit)))))))])]} (fn:=Tryz.f126) Tryz.func126 (by kernel_rfl) (by kernel_rfl) ?_
 rintro ⟨a0,k0,⟨⟩⟩ K ⟨r,h,hK⟩
 change laws_markArcS a0 k0=some r at h
 unfold laws_markArcS at h
 conv=>whnf
 intro fp0
 conv=>whnf
 refine vLoop h ?_
 rintro I1 μ1 ⟨k1,i0,l0,⟨⟩⟩ zs1 h hI1 hR1
 change laws_markArcS_loop0 k1 i0 l0=some zs1 at h
 unfold laws_markArcS_loop0 at h
 conv=>whnf
 intro fp2
 conv=>whnf
 refine vIfD h (fun h=>?_) (fun h=>?_)
 conv=>whnf
 refine vAt h (fun x0 he3a he3b he3x h=>?_)
 conv=>whnf
 refine ⟨he3a,he3b,vAgain he3x ?_⟩
 conv=>whnf
 intro fp4
 conv=>whnf
 intro fp5
 conv=>whnf
 intro fp6
 conv=>whnf
 refine ⟨he3a,he3b,vAgain he3x ?_⟩
 conv=>whnf
 refine .inl ⟨rfl,?_⟩
 conv=>whnf
 refine ⟨he3a,he3b,vAgain he3x ?_⟩
 conv=>whnf
 refine .inl ⟨rfl,?_⟩
 conv=>whnf
 refine ⟨he3a,he3b,vAgain he3x ?_⟩
 conv=>whnf
 refine .inl ⟨rfl,?_⟩
 conv=>whnf
 refine ⟨he3a,he3b,vAgain he3x ?_⟩
 conv=>whnf
 refine .inl ⟨rfl,?_⟩
 conv=>whnf
 refine vBind h (fun markTableS0 hb7 h=>?_)
 conv=>whnf
 intro fp8
 conv=>whnf
 refine ⟨he3a,he3b,vAgain he3x ?_⟩
 conv=>whnf
 refine .inl ⟨rfl,?_⟩
 conv=>whnf
 refine vBind h (fun markTableS1 hb9 h=>?_)
 conv=>whnf
 intro fp10
 conv=>whnf
 cases h
 exact ⟨⟨rfl,rfl⟩,hI1 _ rfl⟩
 conv=>whnf
 cases h
 obtain rfl:=hR1 _ rfl
 exact hK
theorem w192 (q1:SoundC Tryz.prog 124 c187) (q2:SoundC Tryz.prog 125 c188) (q3:SoundC Tryz.prog 126 c191) (q0:SoundC Tryz.prog 80 c189):SoundC Tryz.prog 76 c192:=by
 refine fn_sound tabD_ok (gam_cons q1 (gam_cons q2 (gam_cons q3 (gam_cons q0 gam_nil)))) mixed {loops:=[(0,[.reg 1 (.dat (.int .i64)),.reg 5 (.dat (.int .i64)),.ent 0 (nat_lit 150) (Dp.pair (Dp.flat Ty.str) (Dp.pair (Dp.flat (Ty.int IntKind.i64)) (Dp.pair (Dp.ol (180:Go.TypeId) (Dp.flat tPin)) (Dp.pair (Dp.ol (200:Go.TypeId) dArc) (Dp.pair (Dp.ol (2:Go.TypeId) (Dp.flat (Ty.int IntKind.i64))) (Dp.pair (Dp.flat (Ty.int IntKind.i64)) (Dp.pair (Dp.flat (Ty.int IntKind.i64)) (Dp.flat Ty.unit))))))))])]} (fn:=Tryz.f76) Tryz.func76 (by kernel_rfl) (by kernel_rfl) ?_
 rintro ⟨a0,k0,⟨⟩⟩ K ⟨r,h,hK⟩
 change laws_markCellS a0 k0=some r at h
 unfold laws_markCellS at h
 conv=>whnf
 intro fp0
 conv=>whnf
 refine vLoop h ?_
 rintro I1 μ1 ⟨k1,i0,l0,⟨⟩⟩ zs1 h hI1 hR1
 change laws_markCellS_loop0 k1 i0 l0=some zs1 at h
 unfold laws_markCellS_loop0 at h
 conv=>whnf
 intro fp2
 conv=>whnf
 refine vIfD h (fun h=>?_) (fun h=>?_)
 conv=>whnf
 refine vBind h (fun markText0 hb3 h=>?_)
 conv=>whnf
 refine vAt h (fun x0 he4a he4b he4x h=>?_)
 conv=>whnf
 refine ⟨he4a,he4b,vAgain he4x ?_⟩
 conv=>whnf
 intro fp5
 conv=>whnf
 intro fp6
 conv=>whnf
 refine ⟨he4a,he4b,vAgain he4x ?_⟩
 conv=>whnf
 refine .inl ⟨rfl,?_⟩
 conv=>whnf
 refine ⟨he4a,he4b,vAgain he4x ?_⟩
 conv=>whnf
 refine .inl ⟨rfl,?_⟩
 conv=>whnf
 refine vBind h (fun markPinS0 hb7 h=>?_)
 conv=>whnf
 refine ⟨he4a,he4b,vAgain he4x ?_⟩
 conv=>whnf
 refine .inl ⟨rfl,?_⟩
 conv=>whnf
 refine vBind h (fun markArcS0 hb8 h=>?_)
 conv=>whnf
 intro fp9
 conv=>whnf
 refine ⟨he4a,he4b,vAgain he4x ?_⟩
 conv=>whnf
 refine .inl ⟨rfl,?_⟩
 conv=>whnf
 refine vBind h (fun markInt64S0 hb10 h=>?_)
 conv=>whnf
 refine ⟨he4a,he4b,vAgain he4x ?_⟩
 conv=>whnf
 refine .inl ⟨rfl,?_⟩
 conv=>whnf
 refine ⟨he4a,he4b,vAgain he4x ?_⟩
 conv=>whnf
 refine .inl ⟨rfl,?_⟩
 conv=>whnf
 cases h
 exact ⟨⟨rfl,rfl⟩,hI1 _ rfl⟩
 conv=>whnf
 cases h
 obtain rfl:=hR1 _ rfl
 exact hK
theorem w13:SoundC Tryz.prog 96 c13:=by
 refine fn_sound tab_ok gam_nil mixed {} (fn:=Tryz.f96) Tryz.func96 (by kernel_rfl) (by kernel_rfl) ?_
 rintro ⟨a0,left0,⟨⟩⟩ K ⟨r,h,hK⟩
 change laws_szPort a0 left0=some r at h
 unfold laws_szPort at h
 conv=>whnf
 refine vIfD h (fun h=>?_) (fun h=>?_)
 conv=>whnf
 cases h
 exact hK
 conv=>whnf
 cases h
 exact hK
theorem w14 (q0:SoundC Tryz.prog 96 c13):SoundC Tryz.prog 48 c14:=by
 refine fn_sound tab_ok (gam_cons q0 gam_nil) mixed {loops:=[(0,[.reg 1 (.dat (.int .i64)),.reg 5 (.dat (.int .i64))])]} (fn:=Tryz.f48) Tryz.func48 (by kernel_rfl) (by kernel_rfl) ?_
 rintro ⟨a0,left0,⟨⟩⟩ K ⟨r,h,hK⟩
 change laws_szPortS a0 left0=some r at h
 unfold laws_szPortS at h
 conv=>whnf
 refine vIfD h (fun h=>?_) (fun h=>?_)
 conv=>whnf
 cases h
 exact hK
 conv=>whnf
 refine vLoop h ?_
 rintro I0 μ0 ⟨left1,i0,⟨⟩⟩ zs0 h hI0 hR0
 change laws_szPortS_loop0 a0 left1 i0=some zs0 at h
 unfold laws_szPortS_loop0 at h
 conv=>whnf
 refine vIfD h (fun h=>?_) (fun h=>?_)
 conv=>whnf
 refine vAt h (fun x0 he1a he1b he1x h=>?_)
 conv=>whnf
 refine vBind h (fun szPort0 hb2 h=>?_)
 conv=>whnf
 refine vIfD h (fun h=>?_) (fun h=>?_)
 conv=>whnf
 cases h
 obtain rfl:=hR0 _ rfl
 exact hK
 conv=>whnf
 cases h
 exact ⟨⟨rfl,rfl⟩,hI0 _ rfl⟩
 conv=>whnf
 cases h
 obtain rfl:=hR0 _ rfl
 exact hK
theorem w12:SoundC Tryz.prog 47 c12:=by
 refine fn_sound tab_ok gam_nil mixed {loops:=[(0,[.reg 1 (.dat (.int .i64)),.reg 5 (.dat (.int .i64))])]} (fn:=Tryz.f47) Tryz.func47 (by kernel_rfl) (by kernel_rfl) ?_
 rintro ⟨a0,left0,⟨⟩⟩ K ⟨r,h,hK⟩
 change laws_szStringS a0 left0=some r at h
 unfold laws_szStringS at h
 conv=>whnf
 refine vIfD h (fun h=>?_) (fun h=>?_)
 conv=>whnf
 cases h
 exact hK
 conv=>whnf
 refine vLoop h ?_
 rintro I0 μ0 ⟨left1,i0,⟨⟩⟩ zs0 h hI0 hR0
 change laws_szStringS_loop0 a0 left1 i0=some zs0 at h
 unfold laws_szStringS_loop0 at h
 conv=>whnf
 refine vIfD h (fun h=>?_) (fun h=>?_)
 conv=>whnf
 refine vAt h (fun x0 he1a he1b he1x h=>?_)
 conv=>whnf
 refine vIfD h (fun h=>?_) (fun h=>?_)
 conv=>whnf
 cases h
 obtain rfl:=hR0 _ rfl
 exact hK
 conv=>whnf
 cases h
 exact ⟨⟨rfl,rfl⟩,hI0 _ rfl⟩
 conv=>whnf
 cases h
 obtain rfl:=hR0 _ rfl
 exact hK
theorem w28 (q0:SoundC Tryz.prog 107 c27):SoundC Tryz.prog 58 c28:=by
 refine fn_sound tabD_ok (gam_cons q0 gam_nil) mixed {loops:=[(0,[.reg 4 (.dat (.int .i64)),.ent 0 (nat_lit 150) dCell])]} (fn:=Tryz.f58) Tryz.func58 (by kernel_rfl) (by kernel_rfl) ?_
 rintro ⟨a0,⟨⟩⟩ K ⟨r,h,hK⟩
 change laws_toCellS a0=some r at h
 unfold laws_toCellS at h
 conv=>whnf
 refine vPre h (fun hp0 h=>?_)
 conv=>whnf
 refine vPre h (fun hp1 h=>?_)
 conv=>whnf
 refine vPre h (fun hp2 h=>?_)
 conv=>whnf
 refine vPre h (fun hp3 h=>?_)
 conv=>whnf
 intro fp4
 conv=>whnf
 refine vLoop h ?_
 rintro I5 μ5 ⟨i0,l0,⟨⟩⟩ zs5 h hI5 hR5
 change laws_toCellS_loop0 a0 i0 l0=some zs5 at h
 unfold laws_toCellS_loop0 at h
 conv=>whnf
 intro fp6
 conv=>whnf
 refine vIfD h (fun h=>?_) (fun h=>?_)
 conv=>whnf
 refine vAt h (fun x0 he7a he7b he7x h=>?_)
 conv=>whnf
 refine vBind h (fun toCell0 hb8 h=>?_)
 conv=>whnf
 intro fp9
 conv=>whnf
 refine vAt h (fun x1 he10a he10b he10x h=>?_)
 conv=>whnf
 refine ⟨he10a,he10b,vAgain he10x ?_⟩
 conv=>whnf
 intro fp11
 conv=>whnf
 intro fp12
 conv=>whnf
 cases h
 exact ⟨⟨rfl,rfl⟩,hI5 _ rfl⟩
 conv=>whnf
 cases h
 obtain rfl:=hR5 _ rfl
 exact hK
theorem w30 (q0:SoundC Tryz.prog 62 c22):SoundC Tryz.prog 108 c30:=by
 refine fn_sound tab_ok (gam_cons q0 gam_nil) mixed {} (fn:=Tryz.f108) Tryz.func108 (by kernel_rfl) (by kernel_rfl) ?_
 rintro ⟨a0,⟨⟩⟩ K ⟨r,h,hK⟩
 change laws_toInstance a0=some r at h
 unfold laws_toInstance at h
 conv=>whnf
 refine vBind h (fun toInt64S0 hb0 h=>?_)
 conv=>whnf
 cases h
 exact hK
theorem w31 (q0:SoundC Tryz.prog 108 c30):SoundC Tryz.prog 59 c31:=by
 refine fn_sound tabD_ok (gam_cons q0 gam_nil) mixed {loops:=[(0,[.reg 4 (.dat (.int .i64)),.ent 0 (nat_lit 96) dInstance])]} (fn:=Tryz.f59) Tryz.func59 (by kernel_rfl) (by kernel_rfl) ?_
 rintro ⟨a0,⟨⟩⟩ K ⟨r,h,hK⟩
 change laws_toInstanceS a0=some r at h
 unfold laws_toInstanceS at h
 conv=>whnf
 refine vPre h (fun hp0 h=>?_)
 conv=>whnf
 refine vPre h (fun hp1 h=>?_)
 conv=>whnf
 refine vPre h (fun hp2 h=>?_)
 conv=>whnf
 refine vPre h (fun hp3 h=>?_)
 conv=>whnf
 intro fp4
 conv=>whnf
 refine vLoop h ?_
 rintro I5 μ5 ⟨i0,l0,⟨⟩⟩ zs5 h hI5 hR5
 change laws_toInstanceS_loop0 a0 i0 l0=some zs5 at h
 unfold laws_toInstanceS_loop0 at h
 conv=>whnf
 intro fp6
 conv=>whnf
 refine vIfD h (fun h=>?_) (fun h=>?_)
 conv=>whnf
 refine vAt h (fun x0 he7a he7b he7x h=>?_)
 conv=>whnf
 refine vBind h (fun toInstance0 hb8 h=>?_)
 conv=>whnf
 refine vAt h (fun x1 he9a he9b he9x h=>?_)
 conv=>whnf
 refine ⟨he9a,he9b,vAgain he9x ?_⟩
 conv=>whnf
 intro fp10
 conv=>whnf
 cases h
 exact ⟨⟨rfl,rfl⟩,hI5 _ rfl⟩
 conv=>whnf
 cases h
 obtain rfl:=hR5 _ rfl
 exact hK
theorem w23 (q0:SoundC Tryz.prog 62 c22):SoundC Tryz.prog 218 c23:=by
 refine fn_sound tab_ok (gam_cons q0 gam_nil) mixed {} (fn:=Tryz.f218) Tryz.func218 (by kernel_rfl) (by kernel_rfl) ?_
 rintro ⟨a0,⟨⟩⟩ K ⟨r,h,hK⟩
 change laws_toTable a0=some r at h
 unfold laws_toTable at h
 conv=>whnf
 refine vBind h (fun toInt64S0 hb0 h=>?_)
 conv=>whnf
 refine vBind h (fun toInt64S1 hb1 h=>?_)
 conv=>whnf
 refine vBind h (fun toInt64S2 hb2 h=>?_)
 conv=>whnf
 cases h
 exact hK
theorem w151:SoundC Tryz.prog 165 c151:=by
 refine fn_sound tab_ok gam_nil mixed {} (fn:=Tryz.f165) Tryz.func165 (by kernel_rfl) (by kernel_rfl) ?_
 rintro ⟨s0,⟨⟩⟩ K ⟨r,h,hK⟩
 change slices_Clone_Simpl_Instance_impl_Instance s0=some r at h
 unfold slices_Clone_Simpl_Instance_impl_Instance at h
 conv=>whnf
 refine ⟨fun hd=>?_,?_⟩
 have h:=vSame (T:=(some ([]:List TInstance))) h (by simp [hd,guardO])
 conv=>whnf
 cases h
 exact hK
 conv=>whnf
 refine vPre h (fun hp0 h=>?_)
 conv=>whnf
 cases h
 exact hK
theorem w153:SoundC Tryz.prog 167 c153:=by
 refine fn_sound tab_ok gam_nil mixed {} (fn:=Tryz.f167) Tryz.func167 (by kernel_rfl) (by kernel_rfl) ?_
 rintro ⟨s0,⟨⟩⟩ K ⟨r,h,hK⟩
 change slices_Clone_Simpl_Port_impl_Port s0=some r at h
 unfold slices_Clone_Simpl_Port_impl_Port at h
 conv=>whnf
 refine ⟨fun hd=>?_,?_⟩
 have h:=vSame (T:=(some ([]:List TPort))) h (by simp [hd,guardO])
 conv=>whnf
 cases h
 exact hK
 conv=>whnf
 refine vPre h (fun hp0 h=>?_)
 conv=>whnf
 cases h
 exact hK
theorem w147:SoundC Tryz.prog 120 c147:=by
 refine fn_sound tab_ok gam_nil mixed {} (fn:=Tryz.f120) Tryz.func120 (by kernel_rfl) (by kernel_rfl) ?_
 rintro ⟨s0,⟨⟩⟩ K ⟨r,h,hK⟩
 change slices_Clone_Sint64_int64 s0=some r at h
 unfold slices_Clone_Sint64_int64 at h
 conv=>whnf
 refine ⟨fun hd=>?_,?_⟩
 have h:=vSame (T:=(some ([]:List Int))) h (by simp [hd,guardO])
 conv=>whnf
 cases h
 exact hK
 conv=>whnf
 refine vPre h (fun hp0 h=>?_)
 conv=>whnf
 cases h
 exact hK
theorem w96 (q0:SoundC Tryz.prog 247 c95):SoundC Tryz.prog 246 c96:=by
 refine fn_sound tab_ok (gam_cons q0 gam_nil) mixed {loops:=[(0,[.reg 8 (.dat (.int .i64))])]} (fn:=Tryz.f246) Tryz.func246 (by kernel_rfl) (by kernel_rfl) ?_
 rintro ⟨s0,f0,⟨⟩⟩ K ⟨r,h,hK⟩
 change slices_IndexFunc_Simpl_Pin_impl_Pin_at_impl_Cell_clock_c1 s0 f0=some r at h
 unfold slices_IndexFunc_Simpl_Pin_impl_Pin_at_impl_Cell_clock_c1 at h
 conv=>whnf
 refine vLoop h ?_
 rintro I0 μ0 ⟨v0,⟨⟩⟩ zs0 h hI0 hR0
 change slices_IndexFunc_Simpl_Pin_impl_Pin_at_impl_Cell_clock_c1_loop0 s0 v0=some zs0 at h
 unfold slices_IndexFunc_Simpl_Pin_impl_Pin_at_impl_Cell_clock_c1_loop0 at h
 conv=>whnf
 refine vIfD h (fun h=>?_) (fun h=>?_)
 conv=>whnf
 refine vAt h (fun x0 he1a he1b he1x h=>?_)
 conv=>whnf
 refine vBind h (fun c1_0 hb2 h=>?_)
 conv=>whnf
 refine vIfB h (fun h=>?_) (fun h=>?_)
 conv=>whnf
 cases h
 obtain rfl:=hR0 _ rfl
 exact hK
 conv=>whnf
 cases h
 exact ⟨⟨rfl,rfl⟩,hI0 _ rfl⟩
 conv=>whnf
 cases h
 obtain rfl:=hR0 _ rfl
 exact hK
theorem w57 (q0:SoundC Tryz.prog 97 c53) (q1:SoundC Tryz.prog 55 c55) (q2:SoundC Tryz.prog 98 c56):SoundC Tryz.prog 50 c57:=by
 refine fn_sound tab_ok (gam_cons q0 (gam_cons q1 (gam_cons q2 gam_nil))) mixed {loops:=[(0,[.reg 3 (.dat (.int .i64))])],draws:=[(6,[0,1,0,7,15,0,32,0,224,480,1023,2047],.op 0 (.op 1 (.op 2 (.op 3 (.op 4 (.op 5 (.op 6 (.op 7 (.alt 8 (.op 9 (.alt 10 (.op 11 (.done)) (.done))) (.done))))))))))]} (fn:=Tryz.f50) Tryz.func50 (by kernel_rfl) (by kernel_rfl) ?_
 rintro ⟨b0,⟨⟩⟩ K ⟨r,h,hK⟩
 change spec_IsBlock b0=some r at h
 unfold spec_IsBlock at h
 conv=>whnf
 refine vBind h (fun IsDesign0 hb0 h=>?_)
 conv=>whnf
 refine vNot ?_
 refine vIfB h (fun h=>?_) (fun h=>?_)
 conv=>whnf
 refine vNots ?_
 refine vIfD h (fun h=>?_) (fun h=>?_)
 conv=>whnf
 refine vLoop h ?_
 rintro I1 μ1 ⟨net0,⟨⟩⟩ zs1 h hI1 hR1
 change spec_IsBlock_loop0 b0 net0=some zs1 at h
 unfold spec_IsBlock_loop0 at h
 conv=>whnf
 refine vIfD h (fun h=>?_) (fun h=>?_)
 conv=>whnf
 refine ⟨by kernel_rfl,?_⟩
 conv=>whnf
 refine vAt h (fun x0 he2a he2b he2x h=>?_)
 conv=>whnf
 refine vBind h (fun l05Sinks0 hb3 h=>?_)
 conv=>whnf
 refine vBind h (fun IsWire0 hb4 h=>?_)
 conv=>whnf
 refine vNots ?_
 refine vIfB h (fun h=>?_) (fun h=>?_)
 conv=>whnf
 cases h
 exact ⟨⟨rfl,rfl⟩,hI1 _ rfl⟩
 conv=>whnf
 cases h
 obtain rfl:=hR1 _ rfl
 exact hK
 conv=>whnf
 cases h
 obtain rfl:=hR1 _ rfl
 exact hK
 conv=>whnf
 cases h
 exact hK
 conv=>whnf
 cases h
 exact hK
theorem w43 (q0:SoundC Tryz.prog 99 c41):SoundC Tryz.prog 251 c43:=by
 refine fn_sound tab_ok (gam_cons q0 gam_nil) mixed {loops:=[(0,[.reg 3 (.dat (.int .i64))])],draws:=[(4,[0,0,3,7,15,31,63,127,255,511,1023,1023,3071,8191,16383,1023,1023,99327,230399,524287,1048575,2097151],.op 0 (.op 1 (.op 2 (.op 3 (.alt 4 (.op 5 (.op 6 (.op 7 (.op 8 (.op 9 (.op 10 (.op 11 (.op 12 (.op 13 (.op 14 (.op 15 (.op 16 (.op 17 (.op 18 (.op 19 (.op 20 (.op 21 (.done)))))))))))))))))) (.done))))))]} (fn:=Tryz.f251) Tryz.func251 (by kernel_rfl) (by kernel_rfl) ?_
 rintro ⟨list0,⟨⟩⟩ K ⟨r,h,hK⟩
 change spec_l02Axis list0=some r at h
 unfold spec_l02Axis at h
 conv=>whnf
 refine vLoop h ?_
 rintro I0 μ0 ⟨i0,⟨⟩⟩ zs0 h hI0 hR0
 change spec_l02Axis_loop0 list0 i0=some zs0 at h
 unfold spec_l02Axis_loop0 at h
 conv=>whnf
 refine vIfD h (fun h=>?_) (fun h=>?_)
 conv=>whnf
 refine ⟨by kernel_rfl,?_⟩
 conv=>whnf
 refine vAt h (fun x0 he1a he1b he1x h=>?_)
 conv=>whnf
 refine vBind h (fun l01In0 hb2 h=>?_)
 conv=>whnf
 refine vNot ?_
 refine vIfB h (fun h=>?_) (fun h=>?_)
 conv=>whnf
 refine vIfD h (fun h=>?_) (fun h=>?_)
 conv=>whnf
 refine vAt h (fun x1 he3a he3b he3x h=>?_)
 conv=>whnf
 refine ⟨he1a,he1b,vAgain he1x ?_⟩
 conv=>whnf
 refine vIfD h (fun h=>?_) (fun h=>?_)
 conv=>whnf
 cases h
 obtain rfl:=hR0 _ rfl
 exact hK
 conv=>whnf
 cases h
 exact ⟨⟨rfl,rfl⟩,hI0 _ rfl⟩
 conv=>whnf
 cases h
 exact ⟨⟨rfl,rfl⟩,hI0 _ rfl⟩
 conv=>whnf
 cases h
 obtain rfl:=hR0 _ rfl
 exact hK
 conv=>whnf
 refine vIfD h (fun h=>?_) (fun h=>?_)
 conv=>whnf
 cases h
 obtain rfl:=hR0 _ rfl
 exact hK
 conv=>whnf
 cases h
 obtain rfl:=hR0 _ rfl
 exact hK
theorem w47 (q1:SoundC Tryz.prog 99 c41) (q0:SoundC Tryz.prog 217 c46):SoundC Tryz.prog 197 c47:=by
 refine fn_sound tab_ok (gam_cons q1 (gam_cons q0 gam_nil)) mixed {} (fn:=Tryz.f197) Tryz.func197 (by kernel_rfl) (by kernel_rfl) ?_
 rintro ⟨a0,a1,⟨⟩⟩ K ⟨r,h,hK⟩
 change spec_l03Arc a0 a1=some r at h
 unfold spec_l03Arc at h
 conv=>whnf
 refine vBind h (fun l01In0 hb0 h=>?_)
 conv=>whnf
 refine vNot ?_
 refine vIfB h (fun h=>?_) (fun h=>?_)
 conv=>whnf
 refine vBind h (fun l01In1 hb1 h=>?_)
 conv=>whnf
 refine vNots ?_
 refine vIfB h (fun h=>?_) (fun h=>?_)
 conv=>whnf
 refine vAt h (fun x0 he2a he2b he2x h=>?_)
 conv=>whnf
 refine vIfD h (fun h=>?_) (fun h=>?_)
 conv=>whnf
 refine vNots ?_
 refine vIfB h (fun h=>?_) (fun h=>?_)
 conv=>whnf
 cases h
 exact hK
 conv=>whnf
 refine vIfD h (fun h=>?_) (fun h=>?_)
 conv=>whnf
 refine vBind h (fun l01In2 hb3 h=>?_)
 conv=>whnf
 refine vIfB h (fun h=>?_) (fun h=>?_)
 conv=>whnf
 refine vBind h (fun l03Tables0 hb4 h=>?_)
 conv=>whnf
 refine vIfB h (fun h=>?_) (fun h=>?_)
 conv=>whnf
 refine vBind h (fun l03Tables1 hb5 h=>?_)
 conv=>whnf
 cases h
 exact hK
 conv=>whnf
 cases h
 exact hK
 conv=>whnf
 cases h
 exact hK
 conv=>whnf
 cases h
 exact hK
 conv=>whnf
 refine vIfD h (fun h=>?_) (fun h=>?_)
 conv=>whnf
 refine vIfD h (fun h=>?_) (fun h=>?_)
 conv=>whnf
 refine vIfB h (fun h=>?_) (fun h=>?_)
 conv=>whnf
 refine vIfD h (fun h=>?_) (fun h=>?_)
 conv=>whnf
 refine vIfD h (fun h=>?_) (fun h=>?_)
 conv=>whnf
 refine vBind h (fun l03Tables0 hb6 h=>?_)
 conv=>whnf
 refine vIfB h (fun h=>?_) (fun h=>?_)
 conv=>whnf
 refine vBind h (fun l03Tables1 hb7 h=>?_)
 conv=>whnf
 cases h
 exact hK
 conv=>whnf
 cases h
 exact hK
 conv=>whnf
 cases h
 exact hK
 conv=>whnf
 cases h
 exact hK
 conv=>whnf
 cases h
 exact hK
 conv=>whnf
 refine vIfD h (fun h=>?_) (fun h=>?_)
 conv=>whnf
 refine vIfD h (fun h=>?_) (fun h=>?_)
 conv=>whnf
 refine vIfB h (fun h=>?_) (fun h=>?_)
 conv=>whnf
 refine vIfD h (fun h=>?_) (fun h=>?_)
 conv=>whnf
 refine vAt h (fun x1 he8a he8b he8x h=>?_)
 conv=>whnf
 refine vNots ?_
 refine vIfB h (fun h=>?_) (fun h=>?_)
 conv=>whnf
 cases h
 exact hK
 conv=>whnf
 refine vIfD h (fun h=>?_) (fun h=>?_)
 conv=>whnf
 refine vBind h (fun l03Tables0 hb9 h=>?_)
 conv=>whnf
 refine vIfB h (fun h=>?_) (fun h=>?_)
 conv=>whnf
 cases h
 exact hK
 conv=>whnf
 cases h
 exact hK
 conv=>whnf
 cases h
 exact hK
 conv=>whnf
 cases h
 exact hK
 conv=>whnf
 cases h
 exact hK
 conv=>whnf
 cases h
 exact hK
 conv=>whnf
 refine vIfD h (fun h=>?_) (fun h=>?_)
 conv=>whnf
 refine vIfB h (fun h=>?_) (fun h=>?_)
 conv=>whnf
 refine vIfD h (fun h=>?_) (fun h=>?_)
 conv=>whnf
 refine vAt h (fun x1 he10a he10b he10x h=>?_)
 conv=>whnf
 refine vNots ?_
 refine vIfB h (fun h=>?_) (fun h=>?_)
 conv=>whnf
 cases h
 exact hK
 conv=>whnf
 refine vIfD h (fun h=>?_) (fun h=>?_)
 conv=>whnf
 refine vBind h (fun l03Tables0 hb11 h=>?_)
 conv=>whnf
 refine vIfB h (fun h=>?_) (fun h=>?_)
 conv=>whnf
 cases h
 exact hK
 conv=>whnf
 cases h
 exact hK
 conv=>whnf
 cases h
 exact hK
 conv=>whnf
 cases h
 exact hK
 conv=>whnf
 cases h
 exact hK
 conv=>whnf
 cases h
 exact hK
 conv=>whnf
 refine vIfD h (fun h=>?_) (fun h=>?_)
 conv=>whnf
 refine vIfB h (fun h=>?_) (fun h=>?_)
 conv=>whnf
 refine vIfD h (fun h=>?_) (fun h=>?_)
 conv=>whnf
 refine vIfD h (fun h=>?_) (fun h=>?_)
 conv=>whnf
 refine vBind h (fun l03Tables0 hb12 h=>?_)
 conv=>whnf
 refine vIfB h (fun h=>?_) (fun h=>?_)
 conv=>whnf
 refine vBind h (fun l03Tables1 hb13 h=>?_)
 conv=>whnf
 cases h
 exact hK
 conv=>whnf
 cases h
 exact hK
 conv=>whnf
 cases h
 exact hK
 conv=>whnf
 cases h
 exact hK
 conv=>whnf
 cases h
 exact hK
 conv=>whnf
 refine vIfD h (fun h=>?_) (fun h=>?_)
 conv=>whnf
 refine vIfD h (fun h=>?_) (fun h=>?_)
 conv=>whnf
 refine vIfB h (fun h=>?_) (fun h=>?_)
 conv=>whnf
 refine vIfD h (fun h=>?_) (fun h=>?_)
 conv=>whnf
 refine vAt h (fun x1 he14a he14b he14x h=>?_)
 conv=>whnf
 refine vNots ?_
 refine vIfB h (fun h=>?_) (fun h=>?_)
 conv=>whnf
 cases h
 exact hK
 conv=>whnf
 refine vIfD h (fun h=>?_) (fun h=>?_)
 conv=>whnf
 refine vBind h (fun l03Tables0 hb15 h=>?_)
 conv=>whnf
 refine vIfB h (fun h=>?_) (fun h=>?_)
 conv=>whnf
 cases h
 exact hK
 conv=>whnf
 cases h
 exact hK
 conv=>whnf
 cases h
 exact hK
 conv=>whnf
 cases h
 exact hK
 conv=>whnf
 cases h
 exact hK
 conv=>whnf
 cases h
 exact hK
 conv=>whnf
 refine vIfD h (fun h=>?_) (fun h=>?_)
 conv=>whnf
 refine vIfB h (fun h=>?_) (fun h=>?_)
 conv=>whnf
 refine vIfD h (fun h=>?_) (fun h=>?_)
 conv=>whnf
 refine vAt h (fun x1 he16a he16b he16x h=>?_)
 conv=>whnf
 refine vNots ?_
 refine vIfB h (fun h=>?_) (fun h=>?_)
 conv=>whnf
 cases h
 exact hK
 conv=>whnf
 refine vIfD h (fun h=>?_) (fun h=>?_)
 conv=>whnf
 refine vBind h (fun l03Tables0 hb17 h=>?_)
 conv=>whnf
 refine vIfB h (fun h=>?_) (fun h=>?_)
 conv=>whnf
 cases h
 exact hK
 conv=>whnf
 cases h
 exact hK
 conv=>whnf
 cases h
 exact hK
 conv=>whnf
 cases h
 exact hK
 conv=>whnf
 cases h
 exact hK
 conv=>whnf
 cases h
 exact hK
 conv=>whnf
 cases h
 exact hK
 conv=>whnf
 cases h
 exact hK
theorem w51 (q0:SoundC Tryz.prog 99 c41):SoundC Tryz.prog 136 c51:=by
 refine fn_sound tab_ok (gam_cons q0 gam_nil) mixed {loops:=[(0,[.reg 6 (.dat (.int .i64))]),(2,[.reg 8 (.dat (.int .i64))]),(4,[.reg 9 (.dat (.int .i64))])],draws:=[(6,[0,1,0,4,12,28,63,127,255,511,1023,2047,511,4607,511,16895,61951,127487,258559,520703,1048575,2097151],.op 0 (.op 1 (.op 2 (.op 3 (.op 4 (.op 5 (.alt 6 (.op 7 (.op 8 (.op 9 (.op 10 (.op 11 (.op 12 (.op 13 (.op 14 (.op 15 (.op 16 (.op 17 (.op 18 (.op 19 (.op 20 (.op 21 (.done)))))))))))))))) (.done))))))))]} (fn:=Tryz.f136) Tryz.func136 (by kernel_rfl) (by kernel_rfl) ?_
 rintro ⟨a0,a1,⟨⟩⟩ K ⟨r,h,hK⟩
 change spec_l05Parts a0 a1=some r at h
 unfold spec_l05Parts at h
 conv=>whnf
 refine vLoop h ?_
 rintro I0 μ0 ⟨v0,⟨⟩⟩ zs0 h hI0 hR0
 change spec_l05Parts_loop2 a0 a1 v0=some zs0 at h
 unfold spec_l05Parts_loop2 at h
 conv=>whnf
 refine vIfD h (fun h=>?_) (fun h=>?_)
 conv=>whnf
 refine vAt h (fun x0 he1a he1b he1x h=>?_)
 conv=>whnf
 refine ⟨by kernel_rfl,?_⟩
 conv=>whnf
 refine vBind h (fun l01In0 hb2 h=>?_)
 conv=>whnf
 refine vNot ?_
 refine vIfB h (fun h=>?_) (fun h=>?_)
 conv=>whnf
 refine vAt h (fun x1 he3a he3b he3x h=>?_)
 conv=>whnf
 refine vNots ?_
 refine vIfD h (fun h=>?_) (fun h=>?_)
 conv=>whnf
 refine vLoop h ?_
 rintro I4 μ4 ⟨v1,⟨⟩⟩ zs4 h hI4 hR4
 change spec_l05Parts_loop0 a1 v0 x0 v1=some zs4 at h
 unfold spec_l05Parts_loop0 at h
 conv=>whnf
 refine vIfD h (fun h=>?_) (fun h=>?_)
 conv=>whnf
 refine vAt h (fun x2 he5a he5b he5x h=>?_)
 conv=>whnf
 refine vBind h (fun l01In1 hb6 h=>?_)
 conv=>whnf
 refine vNots ?_
 refine vIfB h (fun h=>?_) (fun h=>?_)
 conv=>whnf
 cases h
 exact ⟨⟨rfl,rfl⟩,hI4 _ rfl⟩
 conv=>whnf
 cases h
 obtain rfl:=hR4 _ rfl
 obtain rfl:=hR0 _ rfl
 exact hK
 conv=>whnf
 cases h
 obtain rfl:=hR4 _ rfl
 exact ⟨⟨rfl,rfl⟩,hI0 _ rfl⟩
 conv=>whnf
 cases h
 obtain rfl:=hR0 _ rfl
 exact hK
 conv=>whnf
 cases h
 obtain rfl:=hR0 _ rfl
 exact hK
 conv=>whnf
 refine vLoop h ?_
 rintro I7 μ7 ⟨v1,⟨⟩⟩ zs7 h hI7 hR7
 change spec_l05Parts_loop1 a1 v1=some zs7 at h
 unfold spec_l05Parts_loop1 at h
 conv=>whnf
 refine vIfD h (fun h=>?_) (fun h=>?_)
 conv=>whnf
 refine vAt h (fun x0 he8a he8b he8x h=>?_)
 conv=>whnf
 refine vBind h (fun l01In0 hb9 h=>?_)
 conv=>whnf
 refine vNot ?_
 refine vIfB h (fun h=>?_) (fun h=>?_)
 conv=>whnf
 refine ⟨he8a,he8b,vAgain he8x ?_⟩
 conv=>whnf
 refine vBind h (fun l01In1 hb10 h=>?_)
 conv=>whnf
 refine vNots ?_
 refine vIfB h (fun h=>?_) (fun h=>?_)
 conv=>whnf
 cases h
 exact ⟨⟨rfl,rfl⟩,hI7 _ rfl⟩
 conv=>whnf
 cases h
 obtain rfl:=hR7 _ rfl
 obtain rfl:=hR0 _ rfl
 exact hK
 conv=>whnf
 cases h
 obtain rfl:=hR7 _ rfl
 obtain rfl:=hR0 _ rfl
 exact hK
 conv=>whnf
 cases h
 obtain rfl:=hR7 _ rfl
 obtain rfl:=hR0 _ rfl
 exact hK
theorem w55 (q0:SoundC Tryz.prog 54 c54):SoundC Tryz.prog 55 c55:=by
 refine fn_sound tab_ok (gam_cons q0 gam_nil) mixed {loops:=[(0,[.reg 5 (.own (.ol 2 (.flat (.int .i64)))),.reg 7 (.dat (.int .i64))])]} (fn:=Tryz.f55) Tryz.func55 (by kernel_rfl) (by kernel_rfl) ?_
 rintro ⟨d0,net0,⟨⟩⟩ K ⟨r,h,hK⟩
 change spec_l05Sinks d0 net0=some r at h
 unfold spec_l05Sinks at h
 conv=>whnf
 refine vBind h (fun l05Places0 hb0 h=>?_)
 conv=>whnf
 refine vLoop h ?_
 rintro I1 μ1 ⟨out0,i0,⟨⟩⟩ zs1 h hI1 hR1
 change spec_l05Sinks_loop0 net0 l05Places0 out0 i0=some zs1 at h
 unfold spec_l05Sinks_loop0 at h
 conv=>whnf
 refine vIfD h (fun h=>?_) (fun h=>?_)
 conv=>whnf
 refine vAt h (fun x0 he2a he2b he2x h=>?_)
 conv=>whnf
 refine ⟨by kernel_rfl,?_⟩
 conv=>whnf
 refine ⟨he2a,he2b,vAgain he2x ?_⟩
 conv=>whnf
 refine vIfD h (fun h=>?_) (fun h=>?_)
 conv=>whnf
 refine ⟨he2a,he2b,vAgain he2x ?_⟩
 conv=>whnf
 refine ⟨by kernel_rfl,?_⟩
 conv=>whnf
 refine ⟨he2a,he2b,vAgain he2x ?_⟩
 conv=>whnf
 refine vNots ?_
 refine vIfB h (fun h=>?_) (fun h=>?_)
 conv=>whnf
 cases h
 exact ⟨⟨rfl,rfl⟩,hI1 _ rfl⟩
 conv=>whnf
 refine vPre h (fun hp3 h=>?_)
 conv=>whnf
 cases h
 exact ⟨⟨rfl,rfl⟩,hI1 _ rfl⟩
 conv=>whnf
 cases h
 exact ⟨⟨rfl,rfl⟩,hI1 _ rfl⟩
 conv=>whnf
 cases h
 obtain rfl:=hR1 _ rfl
 exact hK
theorem w60:SoundC Tryz.prog 100 c60:=by
 refine fn_sound tab_ok gam_nil mixed {loops:=[(0,[.reg 5 (.dat (.int .i64))])],draws:=[(6,[0,1,0,7,15,31,0,64,0,448,960,1984,4095],.op 0 (.op 1 (.op 2 (.op 3 (.op 4 (.op 5 (.op 6 (.op 7 (.op 8 (.op 9 (.op 10 (.op 11 (.op 12 (.done))))))))))))))]} (fn:=Tryz.f100) Tryz.func100 (by kernel_rfl) (by kernel_rfl) ?_
 rintro ⟨a0,b0,⟨⟩⟩ K ⟨r,h,hK⟩
 change spec_l08Alike a0 b0=some r at h
 unfold spec_l08Alike at h
 conv=>whnf
 refine vNot ?_
 refine vIfD h (fun h=>?_) (fun h=>?_)
 conv=>whnf
 refine vNots ?_
 refine vIfD h (fun h=>?_) (fun h=>?_)
 conv=>whnf
 refine vLoop h ?_
 rintro I0 μ0 ⟨i0,⟨⟩⟩ zs0 h hI0 hR0
 change spec_l08Alike_loop0 a0 b0 i0=some zs0 at h
 unfold spec_l08Alike_loop0 at h
 conv=>whnf
 refine vIfD h (fun h=>?_) (fun h=>?_)
 conv=>whnf
 refine ⟨by kernel_rfl,?_⟩
 conv=>whnf
 refine vAt h (fun x0 he1a he1b he1x h=>?_)
 conv=>whnf
 refine vAt h (fun x1 he2a he2b he2x h=>?_)
 conv=>whnf
 refine vNots ?_
 refine vIfB h (fun h=>?_) (fun h=>?_)
 conv=>whnf
 cases h
 exact ⟨⟨rfl,rfl⟩,hI0 _ rfl⟩
 conv=>whnf
 cases h
 obtain rfl:=hR0 _ rfl
 exact hK
 conv=>whnf
 cases h
 obtain rfl:=hR0 _ rfl
 exact hK
 conv=>whnf
 cases h
 exact hK
 conv=>whnf
 cases h
 exact hK
theorem w65:SoundC Tryz.prog 139 c65:=by
 refine fn_sound tab_ok gam_nil mixed {} (fn:=Tryz.f139) Tryz.func139 (by kernel_rfl) (by kernel_rfl) ?_
 rintro ⟨w0,⟨⟩⟩ K ⟨r,h,hK⟩
 change spec_l08Bare w0=some r at h
 unfold spec_l08Bare at h
 conv=>whnf
 refine vIfD h (fun h=>?_) (fun h=>?_)
 conv=>whnf
 refine vAt h (fun x0 he0a he0b he0x h=>?_)
 conv=>whnf
 cases h
 exact hK
 conv=>whnf
 cases h
 exact hK
theorem w59 (q0:SoundC Tryz.prog 54 c54) (q1:SoundC Tryz.prog 99 c41):SoundC Tryz.prog 52 c59:=by
 refine fn_sound tab_ok (gam_cons q0 (gam_cons q1 gam_nil)) mixed {draws:=[(9,[0,1,0,4,15,31,63,127,63,319,1023,2047,4095,8191,16383,8191,40959,8191,139263,499711,1023999,2072575,4169727,8364031,16777215,33554431,67108863],.op 0 (.op 1 (.op 2 (.op 3 (.alt 4 (.op 5 (.op 6 (.op 7 (.op 8 (.op 9 (.alt 10 (.op 11 (.op 12 (.op 13 (.op 14 (.op 15 (.op 16 (.op 17 (.op 18 (.op 19 (.op 20 (.op 21 (.op 22 (.op 23 (.alt 24 (.op 25 (.op 26 (.done))) (.done))))))))))))))) (.done))))))) (.done))))))]} (fn:=Tryz.f52) Tryz.func52 (by kernel_rfl) (by kernel_rfl) ?_
 rintro ⟨a0,a1,⟨⟩⟩ K ⟨r,h,hK⟩
 change spec_l08Range a0 a1=some r at h
 unfold spec_l08Range at h
 conv=>whnf
 refine vBind h (fun l05Places0 hb0 h=>?_)
 conv=>whnf
 refine vIfD h (fun h=>?_) (fun h=>?_)
 conv=>whnf
 refine vIfD h (fun h=>?_) (fun h=>?_)
 conv=>whnf
 refine vBind h (fun l01In0 hb1 h=>?_)
 conv=>whnf
 refine vIfB h (fun h=>?_) (fun h=>?_)
 conv=>whnf
 refine vBind h (fun l01In1 hb2 h=>?_)
 conv=>whnf
 cases h
 exact hK
 conv=>whnf
 cases h
 exact hK
 conv=>whnf
 refine vIfD h (fun h=>?_) (fun h=>?_)
 conv=>whnf
 refine ⟨by kernel_rfl,?_⟩
 conv=>whnf
 refine vBind h (fun l01In0 hb3 h=>?_)
 conv=>whnf
 refine vIfB h (fun h=>?_) (fun h=>?_)
 conv=>whnf
 refine vBind h (fun l01In1 hb4 h=>?_)
 conv=>whnf
 refine vIfB h (fun h=>?_) (fun h=>?_)
 conv=>whnf
 refine vAt h (fun x0 he5a he5b he5x h=>?_)
 conv=>whnf
 refine vBind h (fun l01In2 hb6 h=>?_)
 conv=>whnf
 cases h
 exact hK
 conv=>whnf
 cases h
 exact hK
 conv=>whnf
 cases h
 exact hK
 conv=>whnf
 refine vIfD h (fun h=>?_) (fun h=>?_)
 conv=>whnf
 refine vBind h (fun l01In0 hb7 h=>?_)
 conv=>whnf
 cases h
 exact hK
 conv=>whnf
 cases h
 exact hK
 conv=>whnf
 refine vIfD h (fun h=>?_) (fun h=>?_)
 conv=>whnf
 refine vBind h (fun l01In0 hb8 h=>?_)
 conv=>whnf
 refine vIfB h (fun h=>?_) (fun h=>?_)
 conv=>whnf
 refine vBind h (fun l01In1 hb9 h=>?_)
 conv=>whnf
 cases h
 exact hK
 conv=>whnf
 cases h
 exact hK
 conv=>whnf
 refine vIfD h (fun h=>?_) (fun h=>?_)
 conv=>whnf
 refine ⟨by kernel_rfl,?_⟩
 conv=>whnf
 refine vBind h (fun l01In0 hb10 h=>?_)
 conv=>whnf
 refine vIfB h (fun h=>?_) (fun h=>?_)
 conv=>whnf
 refine vBind h (fun l01In1 hb11 h=>?_)
 conv=>whnf
 refine vIfB h (fun h=>?_) (fun h=>?_)
 conv=>whnf
 refine vAt h (fun x0 he12a he12b he12x h=>?_)
 conv=>whnf
 refine vBind h (fun l01In2 hb13 h=>?_)
 conv=>whnf
 cases h
 exact hK
 conv=>whnf
 cases h
 exact hK
 conv=>whnf
 cases h
 exact hK
 conv=>whnf
 refine vIfD h (fun h=>?_) (fun h=>?_)
 conv=>whnf
 refine vBind h (fun l01In0 hb14 h=>?_)
 conv=>whnf
 cases h
 exact hK
 conv=>whnf
 cases h
 exact hK
end Go.Proofs.YtpkjjgdhmafonaaGreatDoor
