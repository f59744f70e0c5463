/-
  The functions keep their contracts, if what they call does. Printed by program.
-/
import Derived.Test.YtpkjjgdhmafonaaGreatDoorM
import Derived.KernelRfl
namespace Go.Proofs.YtpkjjgdhmafonaaGreatDoor
open Go Go.Sx
set_option maxRecDepth 100000
set_option maxHeartbeats 3200000
set_option linter.unusedVariables false
set_option linter.unusedSimpArgs false
theorem w156 (q0:SoundC Tryz.prog 114 c150) (q1:SoundC Tryz.prog 115 c154) (q2:SoundC Tryz.prog 70 c155):SoundC Tryz.prog 66 c156:=by
 refine fn_sound tabD_ok (gam_cons q0 (gam_cons q1 (gam_cons q2 gam_nil))) mixed {loops:=[(0,[.reg 16 (.dat (.int .i64)),.cello 1003 4 (.ol 40 (dWire))])],draws:=[(1,[0,1,3,0,8,31,63,0,255],.op 0 (.op 1 (.op 3 (.op 4 (.alt 2 (.alt 5 (.op 6 (.alt 7 (.alt 8 (.done) (.done)) (.done))) (.alt 7 (.alt 5 (.op 6 (.alt 8 (.done) (.done))) (.done)) (.done))) (.alt 7 (.alt 2 (.alt 5 (.op 6 (.alt 8 (.done) (.done))) (.done)) (.done)) (.done))))))),(5,[0,1,0,4,12,31,63,127],.op 0 (.op 1 (.op 2 (.alt 3 (.alt 4 (.alt 5 (.op 6 (.alt 7 (.done) (.done))) (.done)) (.done)) (.done)))))]} (fn:=Tryz.f66) Tryz.func66 (by kernel_rfl) (by kernel_rfl) ?_
 rintro ⟨b0,⟨⟩⟩ K ⟨r,h,hK⟩
 change impl_Block_clone b0=some r at h
 unfold impl_Block_clone at h
 conv=>whnf
 refine ⟨by kernel_rfl,?_⟩
 conv=>whnf
 refine ⟨?_,?_⟩
 conv=>whnf
 refine vBind h (fun cloneLibrary0 hb0 h=>?_)
 conv=>whnf
 intro fp1
 conv=>whnf
 refine ⟨?_,?_⟩
 conv=>whnf
 refine vBind h (fun clone0 hb2 h=>?_)
 conv=>whnf
 intro fp3
 conv=>whnf
 refine vLoop h ?_
 rintro I4 μ4 ⟨v0,c0,⟨⟩⟩ zs4 h hI4 hR4
 change impl_Block_clone_loop0 b0 cloneLibrary0 clone0 v0 c0=some zs4 at h
 unfold impl_Block_clone_loop0 at h
 conv=>whnf
 intro fp5
 conv=>whnf
 refine vIfD h (fun h=>?_) (fun h=>?_)
 conv=>whnf
 refine vAt h (fun x0 he6a he6b he6x h=>?_)
 conv=>whnf
 refine ⟨by kernel_rfl,?_⟩
 conv=>whnf
 refine vBind h (fun clone1 hb7 h=>?_)
 conv=>whnf
 intro fp8
 conv=>whnf
 refine vPre h (fun hp9 h=>?_)
 conv=>whnf
 intro fp10
 conv=>whnf
 cases h
 exact ⟨⟨rfl,rfl⟩,hI4 _ rfl⟩
 conv=>whnf
 cases h
 obtain rfl:=hR4 _ rfl
 exact hK
 obtain ⟨clone0,hb2,h⟩:=Option.bind_eq_some_iff.1 h
 conv=>whnf
 refine ⟨_,hb2,?_⟩
 conv=>whnf
 intro fp11
 conv=>whnf
 refine vLoop h ?_
 rintro I12 μ12 ⟨v0,c0,⟨⟩⟩ zs12 h hI12 hR12
 change impl_Block_clone_loop0 b0 cloneLibrary0 clone0 v0 c0=some zs12 at h
 unfold impl_Block_clone_loop0 at h
 conv=>whnf
 intro fp13
 conv=>whnf
 refine vIfD h (fun h=>?_) (fun h=>?_)
 conv=>whnf
 refine vAt h (fun x0 he14a he14b he14x h=>?_)
 conv=>whnf
 refine ⟨by kernel_rfl,?_⟩
 conv=>whnf
 refine vBind h (fun clone1 hb15 h=>?_)
 conv=>whnf
 intro fp16
 conv=>whnf
 refine vPre h (fun hp17 h=>?_)
 conv=>whnf
 intro fp18
 conv=>whnf
 cases h
 exact ⟨⟨rfl,rfl⟩,hI12 _ rfl⟩
 conv=>whnf
 cases h
 obtain rfl:=hR12 _ rfl
 exact hK
 obtain ⟨cloneLibrary0,hb0,h⟩:=Option.bind_eq_some_iff.1 h
 obtain ⟨clone0,hb2,h⟩:=Option.bind_eq_some_iff.1 h
 conv=>whnf
 refine ⟨_,hb0,?_⟩
 conv=>whnf
 intro fp19
 conv=>whnf
 refine ⟨_,hb2,?_⟩
 conv=>whnf
 intro fp20
 conv=>whnf
 refine vLoop h ?_
 rintro I21 μ21 ⟨v0,c0,⟨⟩⟩ zs21 h hI21 hR21
 change impl_Block_clone_loop0 b0 cloneLibrary0 clone0 v0 c0=some zs21 at h
 unfold impl_Block_clone_loop0 at h
 conv=>whnf
 intro fp22
 conv=>whnf
 refine vIfD h (fun h=>?_) (fun h=>?_)
 conv=>whnf
 refine vAt h (fun x0 he23a he23b he23x h=>?_)
 conv=>whnf
 refine ⟨by kernel_rfl,?_⟩
 conv=>whnf
 refine vBind h (fun clone1 hb24 h=>?_)
 conv=>whnf
 intro fp25
 conv=>whnf
 refine vPre h (fun hp26 h=>?_)
 conv=>whnf
 intro fp27
 conv=>whnf
 cases h
 exact ⟨⟨rfl,rfl⟩,hI21 _ rfl⟩
 conv=>whnf
 cases h
 obtain rfl:=hR21 _ rfl
 exact hK
theorem w157 (q0:SoundC Tryz.prog 65 c124):SoundC Tryz.prog 69 c157:=by
 refine fn_sound tab_ok (gam_cons q0 gam_nil) mixed {loops:=[(0,[.reg 16 (.dat (.int .i64)),.entm 1 (ti117.ty) (ti117.ety),.ent 2 (nat_lit 3) (.flat ti165.ety)])],draws:=[(7,[0,0,2,0,8,30,0,64,0,256,960,1984,4032,0,0,16384,57344,122880,262080,524224,1048575],.op 0 (.op 1 (.op 2 (.op 3 (.op 4 (.op 5 (.op 6 (.op 7 (.op 8 (.op 9 (.op 10 (.op 11 (.op 12 (.op 13 (.op 14 (.op 15 (.op 16 (.op 17 (.op 18 (.op 19 (.alt 20 (.done) (.done))))))))))))))))))))))]} (fn:=Tryz.f69) Tryz.func69 (by kernel_rfl) (by kernel_rfl) ?_
 rintro ⟨b0,⟨⟩⟩ K ⟨r,h,hK⟩
 change impl_Block_nodesOf b0=some r at h
 unfold impl_Block_nodesOf at h
 conv=>whnf
 refine vPre h (fun hp0 h=>?_)
 conv=>whnf
 refine vPre h (fun hp1 h=>?_)
 conv=>whnf
 refine vPre h (fun hp2 h=>?_)
 conv=>whnf
 refine vPre h (fun hp3 h=>?_)
 conv=>whnf
 refine vBind h (fun places0 hb4 h=>?_)
 conv=>whnf
 refine vLoop h ?_
 rintro I5 μ5 ⟨v0,m0,l0,⟨⟩⟩ zs5 h hI5 hR5
 change impl_Block_nodesOf_loop0 b0 places0 v0 m0 l0=some zs5 at h
 unfold impl_Block_nodesOf_loop0 at h
 conv=>whnf
 refine vIfD h (fun h=>?_) (fun h=>?_)
 conv=>whnf
 refine vAt h (fun x0 he6a he6b he6x h=>?_)
 conv=>whnf
 refine ⟨by kernel_rfl,?_⟩
 conv=>whnf
 refine ⟨he6a,he6b,vAgain he6x ?_⟩
 conv=>whnf
 refine vNots ?_
 refine vIfB h (fun h=>?_) (fun h=>?_)
 conv=>whnf
 cases h
 exact ⟨⟨rfl,rfl⟩,hI5 _ rfl⟩
 conv=>whnf
 refine ⟨by kernel_rfl,?_⟩
 conv=>whnf
 refine vAt h (fun x1 he7a he7b he7x h=>?_)
 conv=>whnf
 refine vAt h (fun x2 he8a he8b he8x h=>?_)
 conv=>whnf
 refine ⟨by kernel_rfl,?_⟩
 conv=>whnf
 refine ⟨he8a,he8b,vAgain he8x ?_⟩
 conv=>whnf
 refine vAt h (fun x3 he9a he9b he9x h=>?_)
 conv=>whnf
 refine ⟨he8a,he8b,vAgain he8x ?_⟩
 conv=>whnf
 refine ⟨by kernel_rfl,?_⟩
 conv=>whnf
 refine ⟨he8a,he8b,vAgain he8x ?_⟩
 conv=>whnf
 refine ⟨he8a,he8b,vAgain he8x ?_⟩
 conv=>whnf
 refine ⟨by kernel_rfl,?_⟩
 conv=>whnf
 refine ⟨by decide,?_⟩
 conv=>whnf
 refine ⟨he8a,he8b,vAgain he8x ?_⟩
 conv=>whnf
 cases h
 exact ⟨⟨rfl,rfl⟩,hI5 _ rfl⟩
 conv=>whnf
 cases h
 obtain rfl:=hR5 _ rfl
 exact hK
theorem w97 (q0:SoundC Tryz.prog 246 c96):SoundC Tryz.prog 234 c97:=by
 refine fn_sound tab_ok (gam_cons q0 gam_nil) mixed {} (fn:=Tryz.f234) Tryz.func234 (by kernel_rfl) (by kernel_rfl) ?_
 rintro ⟨c0,⟨⟩⟩ K ⟨r,h,hK⟩
 change impl_Cell_clock c0=some r at h
 unfold impl_Cell_clock at h
 conv=>whnf
 refine vBind h (fun c1_0 hb0 h=>?_)
 conv=>whnf
 cases h
 exact hK
theorem w98 (q0:SoundC Tryz.prog 219 c76):SoundC Tryz.prog 223 c98:=by
 refine fn_sound tab_ok (gam_cons q0 gam_nil) mixed {} (fn:=Tryz.f223) Tryz.func223 (by kernel_rfl) (by kernel_rfl) ?_
 rintro ⟨c0,⟨⟩⟩ K ⟨r,h,hK⟩
 change impl_Cell_output c0=some r at h
 unfold impl_Cell_output at h
 conv=>whnf
 refine vBind h (fun Pin0 hb0 h=>?_)
 conv=>whnf
 cases h
 exact hK
theorem w154 (q0:SoundC Tryz.prog 165 c151) (q2:SoundC Tryz.prog 166 c152) (q1:SoundC Tryz.prog 167 c153) (q3:SoundC Tryz.prog 120 c147):SoundC Tryz.prog 115 c154:=by
 refine fn_sound tabD_ok (gam_cons q0 (gam_cons q2 (gam_cons q1 (gam_cons q3 gam_nil)))) mixed {loops:=[(0,[.reg 19 (.dat (.int .i64)),.splt 1300 96 (dInstance)])],draws:=[(1,[0,1,3,0,8,31,0,64,255,511,0,2047],.op 0 (.op 1 (.op 3 (.op 4 (.op 6 (.op 7 (.alt 2 (.alt 5 (.alt 8 (.op 9 (.alt 10 (.alt 11 (.done) (.done)) (.done))) (.alt 10 (.alt 8 (.op 9 (.alt 11 (.done) (.done))) (.done)) (.done))) (.alt 10 (.alt 5 (.alt 8 (.op 9 (.alt 11 (.done) (.done))) (.done)) (.done)) (.done))) (.alt 10 (.alt 2 (.alt 5 (.alt 8 (.op 9 (.alt 11 (.done) (.done))) (.done)) (.done)) (.done)) (.done))))))))),(5,[0,1,0,0,8,24,63,127,255],.op 0 (.op 1 (.op 2 (.op 3 (.op 4 (.alt 5 (.op 6 (.op 7 (.alt 8 (.done) (.done)))) (.done)))))))]} (fn:=Tryz.f115) Tryz.func115 (by kernel_rfl) (by kernel_rfl) ?_
 rintro ⟨d0,⟨⟩⟩ K ⟨r,h,hK⟩
 change impl_Design_clone d0=some r at h
 unfold impl_Design_clone at h
 conv=>whnf
 refine ⟨by kernel_rfl,?_⟩
 conv=>whnf
 refine ⟨?_,?_⟩
 conv=>whnf
 refine vBind h (fun Instance0 hb0 h=>?_)
 conv=>whnf
 refine ⟨?_,?_⟩
 conv=>whnf
 refine vBind h (fun string0 hb1 h=>?_)
 conv=>whnf
 refine ⟨?_,?_⟩
 conv=>whnf
 refine vBind h (fun Port0 hb2 h=>?_)
 conv=>whnf
 refine vLoop h ?_
 rintro I3 μ3 ⟨v0,l0,⟨⟩⟩ zs3 h hI3 hR3
 change impl_Design_clone_loop0 Instance0 string0 Port0 v0 l0=some zs3 at h
 unfold impl_Design_clone_loop0 at h
 conv=>whnf
 intro fp4
 conv=>whnf
 refine vIfD h (fun h=>?_) (fun h=>?_)
 conv=>whnf
 refine vAt h (fun x0 he5a he5b he5x h=>?_)
 conv=>whnf
 refine vPre h (fun hp6 h=>?_)
 conv=>whnf
 refine ⟨he5a,he5b,vAgain he5x ?_⟩
 conv=>whnf
 refine ⟨by kernel_rfl,?_⟩
 conv=>whnf
 refine vBind h (fun int64_0 hb7 h=>?_)
 conv=>whnf
 refine ⟨he5a,he5b,vAgain he5x ?_⟩
 conv=>whnf
 refine vPre h (fun hp8 h=>?_)
 conv=>whnf
 refine vAt h (fun x1 he9a he9b he9x h=>?_)
 conv=>whnf
 cases h
 exact ⟨⟨rfl,rfl⟩,hI3 _ rfl⟩
 conv=>whnf
 refine vPre h (fun hp10 h=>?_)
 conv=>whnf
 cases h
 obtain rfl:=hR3 _ rfl
 exact hK
 obtain ⟨Port0,hb2,h⟩:=Option.bind_eq_some_iff.1 h
 conv=>whnf
 refine ⟨_,hb2,?_⟩
 conv=>whnf
 refine vLoop h ?_
 rintro I11 μ11 ⟨v0,l0,⟨⟩⟩ zs11 h hI11 hR11
 change impl_Design_clone_loop0 Instance0 string0 Port0 v0 l0=some zs11 at h
 unfold impl_Design_clone_loop0 at h
 conv=>whnf
 intro fp12
 conv=>whnf
 refine vIfD h (fun h=>?_) (fun h=>?_)
 conv=>whnf
 refine vAt h (fun x0 he13a he13b he13x h=>?_)
 conv=>whnf
 refine vPre h (fun hp14 h=>?_)
 conv=>whnf
 refine ⟨he13a,he13b,vAgain he13x ?_⟩
 conv=>whnf
 refine ⟨by kernel_rfl,?_⟩
 conv=>whnf
 refine vBind h (fun int64_0 hb15 h=>?_)
 conv=>whnf
 refine ⟨he13a,he13b,vAgain he13x ?_⟩
 conv=>whnf
 refine vPre h (fun hp16 h=>?_)
 conv=>whnf
 refine vAt h (fun x1 he17a he17b he17x h=>?_)
 conv=>whnf
 cases h
 exact ⟨⟨rfl,rfl⟩,hI11 _ rfl⟩
 conv=>whnf
 refine vPre h (fun hp18 h=>?_)
 conv=>whnf
 cases h
 obtain rfl:=hR11 _ rfl
 exact hK
 obtain ⟨string0,hb1,h⟩:=Option.bind_eq_some_iff.1 h
 obtain ⟨Port0,hb2,h⟩:=Option.bind_eq_some_iff.1 h
 conv=>whnf
 refine ⟨_,hb1,?_⟩
 conv=>whnf
 refine ⟨_,hb2,?_⟩
 conv=>whnf
 refine vLoop h ?_
 rintro I19 μ19 ⟨v0,l0,⟨⟩⟩ zs19 h hI19 hR19
 change impl_Design_clone_loop0 Instance0 string0 Port0 v0 l0=some zs19 at h
 unfold impl_Design_clone_loop0 at h
 conv=>whnf
 intro fp20
 conv=>whnf
 refine vIfD h (fun h=>?_) (fun h=>?_)
 conv=>whnf
 refine vAt h (fun x0 he21a he21b he21x h=>?_)
 conv=>whnf
 refine vPre h (fun hp22 h=>?_)
 conv=>whnf
 refine ⟨he21a,he21b,vAgain he21x ?_⟩
 conv=>whnf
 refine ⟨by kernel_rfl,?_⟩
 conv=>whnf
 refine vBind h (fun int64_0 hb23 h=>?_)
 conv=>whnf
 refine ⟨he21a,he21b,vAgain he21x ?_⟩
 conv=>whnf
 refine vPre h (fun hp24 h=>?_)
 conv=>whnf
 refine vAt h (fun x1 he25a he25b he25x h=>?_)
 conv=>whnf
 cases h
 exact ⟨⟨rfl,rfl⟩,hI19 _ rfl⟩
 conv=>whnf
 refine vPre h (fun hp26 h=>?_)
 conv=>whnf
 cases h
 obtain rfl:=hR19 _ rfl
 exact hK
 obtain ⟨Instance0,hb0,h⟩:=Option.bind_eq_some_iff.1 h
 obtain ⟨string0,hb1,h⟩:=Option.bind_eq_some_iff.1 h
 obtain ⟨Port0,hb2,h⟩:=Option.bind_eq_some_iff.1 h
 conv=>whnf
 refine ⟨_,hb0,?_⟩
 conv=>whnf
 refine ⟨_,hb1,?_⟩
 conv=>whnf
 refine ⟨_,hb2,?_⟩
 conv=>whnf
 refine vLoop h ?_
 rintro I27 μ27 ⟨v0,l0,⟨⟩⟩ zs27 h hI27 hR27
 change impl_Design_clone_loop0 Instance0 string0 Port0 v0 l0=some zs27 at h
 unfold impl_Design_clone_loop0 at h
 conv=>whnf
 intro fp28
 conv=>whnf
 refine vIfD h (fun h=>?_) (fun h=>?_)
 conv=>whnf
 refine vAt h (fun x0 he29a he29b he29x h=>?_)
 conv=>whnf
 refine vPre h (fun hp30 h=>?_)
 conv=>whnf
 refine ⟨he29a,he29b,vAgain he29x ?_⟩
 conv=>whnf
 refine ⟨by kernel_rfl,?_⟩
 conv=>whnf
 refine vBind h (fun int64_0 hb31 h=>?_)
 conv=>whnf
 refine ⟨he29a,he29b,vAgain he29x ?_⟩
 conv=>whnf
 refine vPre h (fun hp32 h=>?_)
 conv=>whnf
 refine vAt h (fun x1 he33a he33b he33x h=>?_)
 conv=>whnf
 cases h
 exact ⟨⟨rfl,rfl⟩,hI27 _ rfl⟩
 conv=>whnf
 refine vPre h (fun hp34 h=>?_)
 conv=>whnf
 cases h
 obtain rfl:=hR27 _ rfl
 exact hK
theorem w124:SoundC Tryz.prog 65 c124:=by
 refine fn_sound tab_ok gam_nil mixed {loops:=[(0,[.reg 3 (.own (.ol 109 (.flat (tplace)))),.reg 13 (.dat (.int .i64))]),(2,[.reg 3 (.own (.ol 109 (.flat (tplace)))),.reg 21 (.dat (.int .i64))]),(4,[.reg 3 (.own (.ol 109 (.flat (tplace)))),.reg 44 (.dat (.int .i64))])]} (fn:=Tryz.f65) Tryz.func65 (by kernel_rfl) (by kernel_rfl) ?_
 rintro ⟨d0,⟨⟩⟩ K ⟨r,h,hK⟩
 change impl_Design_places d0=some r at h
 unfold impl_Design_places at h
 conv=>whnf
 refine vLoop h ?_
 rintro I0 μ0 ⟨list0,v0,⟨⟩⟩ zs0 h hI0 hR0
 change impl_Design_places_loop2 d0 list0 v0=some zs0 at h
 unfold impl_Design_places_loop2 at h
 conv=>whnf
 refine vIfD h (fun h=>?_) (fun h=>?_)
 conv=>whnf
 refine vAt h (fun x0 he1a he1b he1x h=>?_)
 conv=>whnf
 refine vLoop h ?_
 rintro I2 μ2 ⟨list1,v1,⟨⟩⟩ zs2 h hI2 hR2
 change impl_Design_places_loop0 v0 x0 list1 v1=some zs2 at h
 unfold impl_Design_places_loop0 at h
 conv=>whnf
 refine vIfD h (fun h=>?_) (fun h=>?_)
 conv=>whnf
 refine vAt h (fun x1 he3a he3b he3x h=>?_)
 conv=>whnf
 refine vPre h (fun hp4 h=>?_)
 conv=>whnf
 cases h
 exact ⟨⟨rfl,rfl⟩,hI2 _ rfl⟩
 conv=>whnf
 cases h
 obtain rfl:=hR2 _ rfl
 exact ⟨⟨rfl,rfl⟩,hI0 _ rfl⟩
 conv=>whnf
 refine vLoop h ?_
 rintro I5 μ5 ⟨list1,v1,⟨⟩⟩ zs5 h hI5 hR5
 change impl_Design_places_loop1 d0 list1 v1=some zs5 at h
 unfold impl_Design_places_loop1 at h
 conv=>whnf
 refine vIfD h (fun h=>?_) (fun h=>?_)
 conv=>whnf
 refine vAt h (fun x0 he6a he6b he6x h=>?_)
 conv=>whnf
 refine vPre h (fun hp7 h=>?_)
 conv=>whnf
 cases h
 exact ⟨⟨rfl,rfl⟩,hI5 _ rfl⟩
 conv=>whnf
 cases h
 obtain rfl:=hR5 _ rfl
 obtain rfl:=hR0 _ rfl
 exact hK
theorem w143 (q2:SoundC Tryz.prog 65 c124) (q5:SoundC Tryz.prog 156 c136) (q6:SoundC Tryz.prog 157 c137) (q7:SoundC Tryz.prog 158 c75) (q3:SoundC Tryz.prog 159 c140) (q1:SoundC Tryz.prog 160 c141) (q0:SoundC Tryz.prog 161 c142) (q4:SoundC Tryz.prog 148 c82) (q8:SoundC Tryz.prog 111 c126):SoundC Tryz.prog 113 c143:=by
 refine fn_sound tab_ok (gam_cons q2 (gam_cons q5 (gam_cons q6 (gam_cons q7 (gam_cons q3 (gam_cons q1 (gam_cons q0 (gam_cons q4 (gam_cons q8 gam_nil))))))))) mixed {draws:=[(6,[0,1,3,7,15,31,63,127,255,511,1023,255,2303,255,8447,30975,63743,129279,262143,524287,255,1048831,3145983,255,8388863,32506111,66060543,134217727,268435455,536870911],.op 0 (.op 1 (.op 2 (.op 3 (.op 4 (.op 5 (.op 6 (.op 7 (.op 8 (.op 9 (.op 10 (.op 11 (.op 12 (.op 13 (.op 14 (.op 15 (.op 16 (.op 17 (.op 18 (.op 19 (.op 20 (.op 21 (.op 22 (.op 23 (.op 24 (.op 25 (.op 26 (.alt 27 (.op 28 (.op 29 (.done))) (.done))))))))))))))))))))))))))))),(12,[0,0,2,7,15,31,63,127,255,255,767,2047,4095,8191,255,16639,65535,131071,262143],.op 0 (.op 1 (.op 2 (.op 3 (.op 4 (.op 5 (.op 6 (.op 7 (.op 8 (.op 9 (.op 10 (.op 11 (.op 12 (.op 13 (.op 14 (.op 15 (.op 16 (.op 17 (.op 18 (.done)))))))))))))))))))),(13,[0,1,0,4,0,16,60,124,252,508,1023,2047],.op 0 (.op 1 (.op 2 (.op 3 (.op 4 (.op 5 (.op 6 (.op 7 (.op 8 (.alt 9 (.alt 10 (.op 11 (.done)) (.done)) (.done)))))))))))]} (fn:=Tryz.f113) Tryz.func113 (by kernel_rfl) (by kernel_rfl) ?_
 rintro ⟨a0,a1,⟨⟩⟩ K ⟨r,h,hK⟩
 change impl_Edit_isPossible a0 a1=some r at h
 unfold impl_Edit_isPossible at h
 conv=>whnf
 refine vBind h (fun places0 hb0 h=>?_)
 conv=>whnf
 refine vIfD h (fun h=>?_) (fun h=>?_)
 conv=>whnf
 refine vAt h (fun x0 he1a he1b he1x h=>?_)
 conv=>whnf
 refine ⟨by kernel_rfl,?_⟩
 conv=>whnf
 refine ⟨he1a,he1b,vAgain he1x ?_⟩
 conv=>whnf
 refine ⟨by kernel_rfl,?_⟩
 conv=>whnf
 refine vIfD h (fun h=>?_) (fun h=>?_)
 conv=>whnf
 refine vIfB h (fun h=>?_) (fun h=>?_)
 conv=>whnf
 refine vAt h (fun x1 he2a he2b he2x h=>?_)
 conv=>whnf
 refine vAt h (fun x2 he3a he3b he3x h=>?_)
 conv=>whnf
 refine vAt h (fun x3 he4a he4b he4x h=>?_)
 conv=>whnf
 refine vBind h (fun fitsSwap0 hb5 h=>?_)
 conv=>whnf
 cases h
 exact hK
 conv=>whnf
 cases h
 exact hK
 conv=>whnf
 cases h
 exact hK
 conv=>whnf
 refine vIfD h (fun h=>?_) (fun h=>?_)
 conv=>whnf
 refine vAt h (fun x0 he6a he6b he6x h=>?_)
 conv=>whnf
 refine ⟨by kernel_rfl,?_⟩
 conv=>whnf
 refine ⟨he6a,he6b,vAgain he6x ?_⟩
 conv=>whnf
 refine vNots ?_
 refine vIfB h (fun h=>?_) (fun h=>?_)
 conv=>whnf
 cases h
 exact hK
 conv=>whnf
 refine vAt h (fun x1 he7a he7b he7x h=>?_)
 conv=>whnf
 refine vBind h (fun isBuffer0 hb8 h=>?_)
 conv=>whnf
 refine vIfB h (fun h=>?_) (fun h=>?_)
 conv=>whnf
 refine vBind h (fun isName0 hb9 h=>?_)
 conv=>whnf
 refine vIfB h (fun h=>?_) (fun h=>?_)
 conv=>whnf
 refine vBind h (fun InstanceNamed0 hb10 h=>?_)
 conv=>whnf
 refine vIfD h (fun h=>?_) (fun h=>?_)
 conv=>whnf
 refine vBind h (fun netNamed0 hb11 h=>?_)
 conv=>whnf
 cases h
 exact hK
 conv=>whnf
 cases h
 exact hK
 conv=>whnf
 cases h
 exact hK
 conv=>whnf
 cases h
 exact hK
 conv=>whnf
 refine vIfD h (fun h=>?_) (fun h=>?_)
 conv=>whnf
 refine vBind h (fun canUnbuffer0 hb12 h=>?_)
 conv=>whnf
 cases h
 exact hK
 conv=>whnf
 refine vIfD h (fun h=>?_) (fun h=>?_)
 conv=>whnf
 refine ⟨by kernel_rfl,?_⟩
 conv=>whnf
 refine vAt h (fun x0 he13a he13b he13x h=>?_)
 conv=>whnf
 refine ⟨by kernel_rfl,?_⟩
 conv=>whnf
 refine ⟨he13a,he13b,vAgain he13x ?_⟩
 conv=>whnf
 refine vNots ?_
 refine vIfB h (fun h=>?_) (fun h=>?_)
 conv=>whnf
 cases h
 exact hK
 conv=>whnf
 refine ⟨he13a,he13b,vAgain he13x ?_⟩
 conv=>whnf
 refine ⟨by kernel_rfl,?_⟩
 conv=>whnf
 refine ⟨he13a,he13b,vAgain he13x ?_⟩
 conv=>whnf
 cases h
 exact hK
 conv=>whnf
 refine ⟨by kernel_rfl,?_⟩
 conv=>whnf
 refine vAt h (fun x0 he14a he14b he14x h=>?_)
 conv=>whnf
 refine vBind h (fun int64_0 hb15 h=>?_)
 conv=>whnf
 refine vBind h (fun IsWire0 hb16 h=>?_)
 conv=>whnf
 cases h
 exact hK
theorem w140 (q0:SoundC Tryz.prog 189 c139):SoundC Tryz.prog 159 c140:=by
 refine fn_sound tab_ok (gam_cons q0 gam_nil) mixed {} (fn:=Tryz.f159) Tryz.func159 (by kernel_rfl) (by kernel_rfl) ?_
 rintro ⟨d0,name0,⟨⟩⟩ K ⟨r,h,hK⟩
 change impl_InstanceNamed d0 name0=some r at h
 unfold impl_InstanceNamed at h
 conv=>whnf
 refine vBind h (fun c1_0 hb0 h=>?_)
 conv=>whnf
 cases h
 exact hK
theorem w111 (q1:SoundC Tryz.prog 178 c110) (q0:SoundC Tryz.prog 179 c79):SoundC Tryz.prog 142 c111:=by
 refine fn_sound tab_ok (gam_cons q1 (gam_cons q0 gam_nil)) mixed {loops:=[(0,[.reg 3 (.own (.ol 9 (.flat (.str)))),.reg 9 (.dat (.int .i64))])]} (fn:=Tryz.f142) Tryz.func142 (by kernel_rfl) (by kernel_rfl) ?_
 rintro ⟨l0,⟨⟩⟩ K ⟨r,h,hK⟩
 change impl_IsLibrary l0=some r at h
 unfold impl_IsLibrary at h
 conv=>whnf
 refine vLoop h ?_
 rintro I0 μ0 ⟨names0,v0,⟨⟩⟩ zs0 h hI0 hR0
 change impl_IsLibrary_loop0 l0 names0 v0=some zs0 at h
 unfold impl_IsLibrary_loop0 at h
 conv=>whnf
 refine vIfD h (fun h=>?_) (fun h=>?_)
 conv=>whnf
 refine vAt h (fun x0 he1a he1b he1x h=>?_)
 conv=>whnf
 refine vBind h (fun IsCell0 hb2 h=>?_)
 conv=>whnf
 refine vNots ?_
 refine vIfB h (fun h=>?_) (fun h=>?_)
 conv=>whnf
 refine vPre h (fun hp3 h=>?_)
 conv=>whnf
 cases h
 exact ⟨⟨rfl,rfl⟩,hI0 _ rfl⟩
 conv=>whnf
 cases h
 obtain rfl:=hR0 _ rfl
 exact hK
 conv=>whnf
 refine vIfD h (fun h=>?_) (fun h=>?_)
 conv=>whnf
 refine vBind h (fun areNames0 hb4 h=>?_)
 conv=>whnf
 cases h
 obtain rfl:=hR0 _ rfl
 exact hK
 conv=>whnf
 cases h
 obtain rfl:=hR0 _ rfl
 exact hK
theorem w126 (q0:SoundC Tryz.prog 148 c82) (q3:SoundC Tryz.prog 149 c74) (q1:SoundC Tryz.prog 150 c125) (q2:SoundC Tryz.prog 151 c86):SoundC Tryz.prog 111 c126:=by
 refine fn_sound tab_ok (gam_cons q0 (gam_cons q3 (gam_cons q1 (gam_cons q2 gam_nil)))) mixed {} (fn:=Tryz.f111) Tryz.func111 (by kernel_rfl) (by kernel_rfl) ?_
 rintro ⟨w0,sinks0,⟨⟩⟩ K ⟨r,h,hK⟩
 change impl_IsWire w0 sinks0=some r at h
 unfold impl_IsWire at h
 conv=>whnf
 refine vBind h (fun int64_0 hb0 h=>?_)
 conv=>whnf
 refine vBind h (fun within0 hb1 h=>?_)
 conv=>whnf
 refine vIfB h (fun h=>?_) (fun h=>?_)
 conv=>whnf
 refine vBind h (fun int64_1 hb2 h=>?_)
 conv=>whnf
 refine vIfD h (fun h=>?_) (fun h=>?_)
 conv=>whnf
 refine vBind h (fun int64_2 hb3 h=>?_)
 conv=>whnf
 refine vIfD h (fun h=>?_) (fun h=>?_)
 conv=>whnf
 refine vBind h (fun isTree0 hb4 h=>?_)
 conv=>whnf
 refine vIfB h (fun h=>?_) (fun h=>?_)
 conv=>whnf
 refine vBind h (fun areWithin0 hb5 h=>?_)
 conv=>whnf
 refine vIfB h (fun h=>?_) (fun h=>?_)
 conv=>whnf
 refine vBind h (fun areWithin1 hb6 h=>?_)
 conv=>whnf
 refine vIfB h (fun h=>?_) (fun h=>?_)
 conv=>whnf
 refine vBind h (fun int64_3 hb7 h=>?_)
 conv=>whnf
 refine vIfD h (fun h=>?_) (fun h=>?_)
 conv=>whnf
 refine vBind h (fun areWithin2 hb8 h=>?_)
 conv=>whnf
 cases h
 exact hK
 conv=>whnf
 cases h
 exact hK
 conv=>whnf
 cases h
 exact hK
 conv=>whnf
 cases h
 exact hK
 conv=>whnf
 cases h
 exact hK
 conv=>whnf
 cases h
 exact hK
 conv=>whnf
 cases h
 exact hK
 conv=>whnf
 cases h
 exact hK
theorem w91 (q1:SoundC Tryz.prog 244 c89) (q0:SoundC Tryz.prog 245 c90):SoundC Tryz.prog 243 c91:=by
 refine fn_sound tab_ok (gam_cons q1 (gam_cons q0 gam_nil)) mixed {} (fn:=Tryz.f243) Tryz.func243 (by kernel_rfl) (by kernel_rfl) ?_
 rintro ⟨t0,a0,⟨⟩⟩ K ⟨r,h,hK⟩
 change impl_areTables_c1 t0 a0=some r at h
 unfold impl_areTables_c1 at h
 conv=>whnf
 refine vBind h (fun IsTable0 hb0 h=>?_)
 conv=>whnf
 refine vNot ?_
 refine vIfB h (fun h=>?_) (fun h=>?_)
 conv=>whnf
 refine vIfB h (fun h=>?_) (fun h=>?_)
 conv=>whnf
 refine vBind h (fun int64_0 hb1 h=>?_)
 conv=>whnf
 cases h
 exact hK
 conv=>whnf
 cases h
 exact hK
 conv=>whnf
 cases h
 exact hK
theorem w86 (q0:SoundC Tryz.prog 180 c85):SoundC Tryz.prog 151 c86:=by
 refine fn_sound tab_ok (gam_cons q0 gam_nil) mixed {} (fn:=Tryz.f151) Tryz.func151 (by kernel_rfl) (by kernel_rfl) ?_
 rintro ⟨list0,low0,high0,⟨⟩⟩ K ⟨r,h,hK⟩
 change impl_areWithin list0 low0 high0=some r at h
 unfold impl_areWithin at h
 conv=>whnf
 refine vBind h (fun c1_0 hb0 h=>?_)
 conv=>whnf
 cases h
 exact hK
theorem w149 (q0:SoundC Tryz.prog 120 c147):SoundC Tryz.prog 164 c149:=by
 refine fn_sound tabD_ok (gam_cons q0 gam_nil) mixed {loops:=[(0,[.reg 3 (.own (.ol 227 (dTable))),.reg 8 (.dat (.int .i64))])],draws:=[(5,[0,0,2,6,0,16,62,0,128,510,1022,2046,4095,8191],.op 0 (.op 1 (.op 2 (.op 4 (.op 5 (.op 7 (.op 8 (.alt 3 (.alt 6 (.alt 9 (.op 10 (.alt 11 (.alt 12 (.op 13 (.done)) (.done)) (.done))) (.done)) (.done)) (.done)))))))))]} (fn:=Tryz.f164) Tryz.func164 (by kernel_rfl) (by kernel_rfl) ?_
 rintro ⟨list0,⟨⟩⟩ K ⟨r,h,hK⟩
 change impl_cloneTables list0=some r at h
 unfold impl_cloneTables at h
 conv=>whnf
 refine vLoop h ?_
 rintro I0 μ0 ⟨out0,v0,⟨⟩⟩ zs0 h hI0 hR0
 change impl_cloneTables_loop0 list0 out0 v0=some zs0 at h
 unfold impl_cloneTables_loop0 at h
 conv=>whnf
 intro fp1
 conv=>whnf
 refine vIfD h (fun h=>?_) (fun h=>?_)
 conv=>whnf
 refine vAt h (fun x0 he2a he2b he2x h=>?_)
 conv=>whnf
 refine ⟨by kernel_rfl,?_⟩
 conv=>whnf
 refine vBind h (fun int64_0 hb3 h=>?_)
 conv=>whnf
 refine vBind h (fun int64_1 hb4 h=>?_)
 conv=>whnf
 refine vBind h (fun int64_2 hb5 h=>?_)
 conv=>whnf
 intro fp6
 conv=>whnf
 refine vPre h (fun hp7 h=>?_)
 conv=>whnf
 intro fp8
 conv=>whnf
 cases h
 exact ⟨⟨rfl,rfl⟩,hI0 _ rfl⟩
 conv=>whnf
 cases h
 obtain rfl:=hR0 _ rfl
 exact hK
theorem w114:SoundC Tryz.prog 117 c114:=by
 refine fn_sound tab_ok gam_nil mixed {} (fn:=Tryz.f117) Tryz.func117 (by kernel_rfl) (by kernel_rfl) ?_
 rintro ⟨list0,⟨⟩⟩ K ⟨r,h,hK⟩
 change impl_length_string list0=some r at h
 unfold impl_length_string at h
 conv=>whnf
 cases h
 exact hK
theorem w180 (q0:SoundC Tryz.prog 122 c179):SoundC Tryz.prog 73 c180:=by
 refine fn_sound tab_ok (gam_cons q0 gam_nil) mixed {loops:=[(0,[.reg 5 (.dat (.int .i64))])],draws:=[(6,[0,0,3,7,0,0,48,112,255,511],.op 0 (.op 1 (.op 2 (.op 3 (.op 4 (.op 5 (.op 6 (.op 7 (.alt 8 (.op 9 (.done)) (.done))))))))))]} (fn:=Tryz.f73) Tryz.func73 (by kernel_rfl) (by kernel_rfl) ?_
 rintro ⟨a0,b0,⟨⟩⟩ K ⟨r,h,hK⟩
 change laws_eqInstanceS a0 b0=some r at h
 unfold laws_eqInstanceS at h
 conv=>whnf
 refine vNots ?_
 refine vIfD h (fun h=>?_) (fun h=>?_)
 conv=>whnf
 refine vLoop h ?_
 rintro I0 μ0 ⟨i0,⟨⟩⟩ zs0 h hI0 hR0
 change laws_eqInstanceS_loop0 a0 b0 i0=some zs0 at h
 unfold laws_eqInstanceS_loop0 at h
 conv=>whnf
 refine vIfD h (fun h=>?_) (fun h=>?_)
 conv=>whnf
 refine ⟨by kernel_rfl,?_⟩
 conv=>whnf
 refine vAt h (fun x0 he1a he1b he1x h=>?_)
 conv=>whnf
 refine vAt h (fun x1 he2a he2b he2x h=>?_)
 conv=>whnf
 refine vBind h (fun eqInstance0 hb3 h=>?_)
 conv=>whnf
 refine vNots ?_
 refine vIfB h (fun h=>?_) (fun h=>?_)
 conv=>whnf
 cases h
 exact ⟨⟨rfl,rfl⟩,hI0 _ rfl⟩
 conv=>whnf
 cases h
 obtain rfl:=hR0 _ rfl
 exact hK
 conv=>whnf
 cases h
 obtain rfl:=hR0 _ rfl
 exact hK
 conv=>whnf
 cases h
 exact hK
theorem w182:SoundC Tryz.prog 123 c182:=by
 refine fn_sound tab_ok gam_nil mixed {} (fn:=Tryz.f123) Tryz.func123 (by kernel_rfl) (by kernel_rfl) ?_
 rintro ⟨a0,b0,⟨⟩⟩ K ⟨r,h,hK⟩
 change laws_eqPort a0 b0=some r at h
 unfold laws_eqPort at h
 conv=>whnf
 refine vNots ?_
 refine vIfD h (fun h=>?_) (fun h=>?_)
 conv=>whnf
 refine vNots ?_
 refine vIfD h (fun h=>?_) (fun h=>?_)
 conv=>whnf
 refine vNots ?_
 refine vIfD h (fun h=>?_) (fun h=>?_)
 conv=>whnf
 cases h
 exact hK
 conv=>whnf
 cases h
 exact hK
 conv=>whnf
 cases h
 exact hK
 conv=>whnf
 cases h
 exact hK
theorem w203 (q0:SoundC Tryz.prog 81 c202):SoundC Tryz.prog 39 c203:=by
 refine fn_sound tab_ok (gam_cons q0 gam_nil) mixed {} (fn:=Tryz.f39) Tryz.func39 (by kernel_rfl) (by kernel_rfl) ?_
 rintro ⟨a0,k0,⟨⟩⟩ K ⟨r,h,hK⟩
 change laws_heldWire a0 k0=some r at h
 unfold laws_heldWire at h
 conv=>whnf
 refine vBind h (fun heldInt64S0 hb0 h=>?_)
 conv=>whnf
 refine vIfD h (fun h=>?_) (fun h=>?_)
 conv=>whnf
 cases h
 exact hK
 conv=>whnf
 refine vBind h (fun heldInt64S1 hb1 h=>?_)
 conv=>whnf
 refine vIfD h (fun h=>?_) (fun h=>?_)
 conv=>whnf
 cases h
 exact hK
 conv=>whnf
 refine vBind h (fun heldInt64S2 hb2 h=>?_)
 conv=>whnf
 refine vIfD h (fun h=>?_) (fun h=>?_)
 conv=>whnf
 cases h
 exact hK
 conv=>whnf
 refine vBind h (fun heldInt64S3 hb3 h=>?_)
 conv=>whnf
 refine vIfD h (fun h=>?_) (fun h=>?_)
 conv=>whnf
 cases h
 exact hK
 conv=>whnf
 cases h
 exact hK
theorem w199 (q0:SoundC Tryz.prog 35 c193) (q1:SoundC Tryz.prog 36 c197) (q2:SoundC Tryz.prog 37 c198):SoundC Tryz.prog 13 c199:=by
 refine fn_sound tabD_ok (gam_cons q0 (gam_cons q1 (gam_cons q2 gam_nil))) mixed {} (fn:=Tryz.f13) Tryz.func13 (by kernel_rfl) (by kernel_rfl) ?_
 rintro ⟨a0,k0,⟨⟩⟩ K ⟨r,h,hK⟩
 change laws_markBlock a0 k0=some r at h
 unfold laws_markBlock at h
 conv=>whnf
 intro fp0
 conv=>whnf
 intro fp1
 conv=>whnf
 intro fp2
 conv=>whnf
 refine vBind h (fun markLibrary0 hb3 h=>?_)
 conv=>whnf
 intro fp4
 conv=>whnf
 refine vBind h (fun markDesign0 hb5 h=>?_)
 conv=>whnf
 intro fp6
 conv=>whnf
 refine vBind h (fun markWireS0 hb7 h=>?_)
 conv=>whnf
 intro fp8
 conv=>whnf
 cases h
 exact hK
theorem w189:SoundC Tryz.prog 80 c189:=by
 refine fn_sound tabD_ok gam_nil mixed {loops:=[(0,[.reg 1 (.dat (.int .i64)),.reg 5 (.dat (.int .i64)),.ent 0 (nat_lit 2) (.flat (Ty.int IntKind.i64))])]} (fn:=Tryz.f80) Tryz.func80 (by kernel_rfl) (by kernel_rfl) ?_
 rintro ⟨a0,k0,⟨⟩⟩ K ⟨r,h,hK⟩
 change laws_markInt64S a0 k0=some r at h
 unfold laws_markInt64S at h
 conv=>whnf
 refine vLoop h ?_
 rintro I0 μ0 ⟨k1,i0,l0,⟨⟩⟩ zs0 h hI0 hR0
 change laws_markInt64S_loop0 k1 i0 l0=some zs0 at h
 unfold laws_markInt64S_loop0 at h
 conv=>whnf
 refine vIfD h (fun h=>?_) (fun h=>?_)
 conv=>whnf
 refine vAt h (fun x0 he1a he1b he1x h=>?_)
 conv=>whnf
 refine ⟨by kernel_rfl,?_⟩
 conv=>whnf
 refine ⟨by decide,?_⟩
 conv=>whnf
 refine ⟨he1a,he1b,vAgain he1x ?_⟩
 conv=>whnf
 cases h
 exact ⟨⟨rfl,rfl⟩,hI0 _ rfl⟩
 conv=>whnf
 cases h
 obtain rfl:=hR0 _ rfl
 exact hK
theorem w195 (q0:SoundC Tryz.prog 124 c187):SoundC Tryz.prog 78 c195:=by
 refine fn_sound tabD_ok (gam_cons q0 gam_nil) mixed {loops:=[(0,[.reg 1 (.dat (.int .i64)),.reg 5 (.dat (.int .i64)),.ent 0 (nat_lit 9) (.flat Ty.str)])]} (fn:=Tryz.f78) Tryz.func78 (by kernel_rfl) (by kernel_rfl) ?_
 rintro ⟨a0,k0,⟨⟩⟩ K ⟨r,h,hK⟩
 change laws_markStringS a0 k0=some r at h
 unfold laws_markStringS at h
 conv=>whnf
 refine vLoop h ?_
 rintro I0 μ0 ⟨k1,i0,l0,⟨⟩⟩ zs0 h hI0 hR0
 change laws_markStringS_loop0 k1 i0 l0=some zs0 at h
 unfold laws_markStringS_loop0 at h
 conv=>whnf
 refine vIfD h (fun h=>?_) (fun h=>?_)
 conv=>whnf
 refine vBind h (fun markText0 hb1 h=>?_)
 conv=>whnf
 refine vAt h (fun x0 he2a he2b he2x h=>?_)
 conv=>whnf
 refine ⟨by kernel_rfl,?_⟩
 conv=>whnf
 refine ⟨by decide,?_⟩
 conv=>whnf
 refine ⟨he2a,he2b,vAgain he2x ?_⟩
 conv=>whnf
 cases h
 exact ⟨⟨rfl,rfl⟩,hI0 _ rfl⟩
 conv=>whnf
 cases h
 obtain rfl:=hR0 _ rfl
 exact hK
theorem w190 (q0:SoundC Tryz.prog 80 c189):SoundC Tryz.prog 170 c190:=by
 refine fn_sound tabD_ok (gam_cons q0 gam_nil) mixed {loops:=[(0,[.reg 1 (.dat (.int .i64)),.reg 5 (.dat (.int .i64)),.ent 0 (nat_lit 227) (Dp.pair (Dp.ol (2:Go.TypeId) (Dp.flat (Ty.int IntKind.i64))) (Dp.pair (Dp.ol (2:Go.TypeId) (Dp.flat (Ty.int IntKind.i64))) (Dp.pair (Dp.ol (2:Go.TypeId) (Dp.flat (Ty.int IntKind.i64))) (Dp.flat Ty.unit))))])]} (fn:=Tryz.f170) Tryz.func170 (by kernel_rfl) (by kernel_rfl) ?_
 rintro ⟨a0,k0,⟨⟩⟩ K ⟨r,h,hK⟩
 change laws_markTableS a0 k0=some r at h
 unfold laws_markTableS at h
 conv=>whnf
 intro fp0
 conv=>whnf
 refine vLoop h ?_
 rintro I1 μ1 ⟨k1,i0,l0,⟨⟩⟩ zs1 h hI1 hR1
 change laws_markTableS_loop0 k1 i0 l0=some zs1 at h
 unfold laws_markTableS_loop0 at h
 conv=>whnf
 intro fp2
 conv=>whnf
 refine vIfD h (fun h=>?_) (fun h=>?_)
 conv=>whnf
 refine vAt h (fun x0 he3a he3b he3x h=>?_)
 conv=>whnf
 refine ⟨he3a,he3b,vAgain he3x ?_⟩
 conv=>whnf
 intro fp4
 conv=>whnf
 refine vBind h (fun markInt64S0 hb5 h=>?_)
 conv=>whnf
 refine ⟨he3a,he3b,vAgain he3x ?_⟩
 conv=>whnf
 refine .inl ⟨rfl,?_⟩
 conv=>whnf
 refine vBind h (fun markInt64S1 hb6 h=>?_)
 conv=>whnf
 refine ⟨he3a,he3b,vAgain he3x ?_⟩
 conv=>whnf
 refine .inl ⟨rfl,?_⟩
 conv=>whnf
 refine vBind h (fun markInt64S2 hb7 h=>?_)
 conv=>whnf
 cases h
 exact ⟨⟨rfl,rfl⟩,hI1 _ rfl⟩
 conv=>whnf
 cases h
 obtain rfl:=hR1 _ rfl
 exact hK
theorem w198 (q0:SoundC Tryz.prog 80 c189):SoundC Tryz.prog 37 c198:=by
 refine fn_sound tabD_ok (gam_cons q0 gam_nil) mixed {loops:=[(0,[.reg 1 (.dat (.int .i64)),.reg 5 (.dat (.int .i64)),.ent 0 (nat_lit 40) (Dp.pair (Dp.ol (2:Go.TypeId) (Dp.flat (Ty.int IntKind.i64))) (Dp.pair (Dp.ol (2:Go.TypeId) (Dp.flat (Ty.int IntKind.i64))) (Dp.pair (Dp.ol (2:Go.TypeId) (Dp.flat (Ty.int IntKind.i64))) (Dp.pair (Dp.ol (2:Go.TypeId) (Dp.flat (Ty.int IntKind.i64))) (Dp.flat Ty.unit)))))])]} (fn:=Tryz.f37) Tryz.func37 (by kernel_rfl) (by kernel_rfl) ?_
 rintro ⟨a0,k0,⟨⟩⟩ K ⟨r,h,hK⟩
 change laws_markWireS a0 k0=some r at h
 unfold laws_markWireS at h
 conv=>whnf
 intro fp0
 conv=>whnf
 refine vLoop h ?_
 rintro I1 μ1 ⟨k1,i0,l0,⟨⟩⟩ zs1 h hI1 hR1
 change laws_markWireS_loop0 k1 i0 l0=some zs1 at h
 unfold laws_markWireS_loop0 at h
 conv=>whnf
 intro fp2
 conv=>whnf
 refine vIfD h (fun h=>?_) (fun h=>?_)
 conv=>whnf
 refine vAt h (fun x0 he3a he3b he3x h=>?_)
 conv=>whnf
 refine ⟨he3a,he3b,vAgain he3x ?_⟩
 conv=>whnf
 intro fp4
 conv=>whnf
 refine vBind h (fun markInt64S0 hb5 h=>?_)
 conv=>whnf
 refine ⟨he3a,he3b,vAgain he3x ?_⟩
 conv=>whnf
 refine .inl ⟨rfl,?_⟩
 conv=>whnf
 refine vBind h (fun markInt64S1 hb6 h=>?_)
 conv=>whnf
 refine ⟨he3a,he3b,vAgain he3x ?_⟩
 conv=>whnf
 refine .inl ⟨rfl,?_⟩
 conv=>whnf
 refine vBind h (fun markInt64S2 hb7 h=>?_)
 conv=>whnf
 refine ⟨he3a,he3b,vAgain he3x ?_⟩
 conv=>whnf
 refine .inl ⟨rfl,?_⟩
 conv=>whnf
 refine vBind h (fun markInt64S3 hb8 h=>?_)
 conv=>whnf
 cases h
 exact ⟨⟨rfl,rfl⟩,hI1 _ rfl⟩
 conv=>whnf
 cases h
 obtain rfl:=hR1 _ rfl
 exact hK
theorem w8 (q0:SoundC Tryz.prog 94 c7):SoundC Tryz.prog 45 c8:=by
 refine fn_sound tab_ok (gam_cons q0 gam_nil) mixed {loops:=[(0,[.reg 1 (.dat (.int .i64)),.reg 5 (.dat (.int .i64))])]} (fn:=Tryz.f45) Tryz.func45 (by kernel_rfl) (by kernel_rfl) ?_
 rintro ⟨a0,left0,⟨⟩⟩ K ⟨r,h,hK⟩
 change laws_szCellS a0 left0=some r at h
 unfold laws_szCellS at h
 conv=>whnf
 refine vIfD h (fun h=>?_) (fun h=>?_)
 conv=>whnf
 cases h
 exact hK
 conv=>whnf
 refine vLoop h ?_
 rintro I0 μ0 ⟨left1,i0,⟨⟩⟩ zs0 h hI0 hR0
 change laws_szCellS_loop0 a0 left1 i0=some zs0 at h
 unfold laws_szCellS_loop0 at h
 conv=>whnf
 refine vIfD h (fun h=>?_) (fun h=>?_)
 conv=>whnf
 refine vAt h (fun x0 he1a he1b he1x h=>?_)
 conv=>whnf
 refine vBind h (fun szCell0 hb2 h=>?_)
 conv=>whnf
 refine vIfD h (fun h=>?_) (fun h=>?_)
 conv=>whnf
 cases h
 obtain rfl:=hR0 _ rfl
 exact hK
 conv=>whnf
 cases h
 exact ⟨⟨rfl,rfl⟩,hI0 _ rfl⟩
 conv=>whnf
 cases h
 obtain rfl:=hR0 _ rfl
 exact hK
theorem w4 (q0:SoundC Tryz.prog 216 c3):SoundC Tryz.prog 195 c4:=by
 refine fn_sound tab_ok (gam_cons q0 gam_nil) mixed {loops:=[(0,[.reg 1 (.dat (.int .i64)),.reg 5 (.dat (.int .i64))])]} (fn:=Tryz.f195) Tryz.func195 (by kernel_rfl) (by kernel_rfl) ?_
 rintro ⟨a0,left0,⟨⟩⟩ K ⟨r,h,hK⟩
 change laws_szTableS a0 left0=some r at h
 unfold laws_szTableS at h
 conv=>whnf
 refine vIfD h (fun h=>?_) (fun h=>?_)
 conv=>whnf
 cases h
 exact hK
 conv=>whnf
 refine vLoop h ?_
 rintro I0 μ0 ⟨left1,i0,⟨⟩⟩ zs0 h hI0 hR0
 change laws_szTableS_loop0 a0 left1 i0=some zs0 at h
 unfold laws_szTableS_loop0 at h
 conv=>whnf
 refine vIfD h (fun h=>?_) (fun h=>?_)
 conv=>whnf
 refine vAt h (fun x0 he1a he1b he1x h=>?_)
 conv=>whnf
 refine vBind h (fun szTable0 hb2 h=>?_)
 conv=>whnf
 refine vIfD h (fun h=>?_) (fun h=>?_)
 conv=>whnf
 cases h
 obtain rfl:=hR0 _ rfl
 exact hK
 conv=>whnf
 cases h
 exact ⟨⟨rfl,rfl⟩,hI0 _ rfl⟩
 conv=>whnf
 cases h
 obtain rfl:=hR0 _ rfl
 exact hK
theorem w25 (q0:SoundC Tryz.prog 199 c24):SoundC Tryz.prog 177 c25:=by
 refine fn_sound tabD_ok (gam_cons q0 gam_nil) mixed {} (fn:=Tryz.f177) Tryz.func177 (by kernel_rfl) (by kernel_rfl) ?_
 rintro ⟨a0,⟨⟩⟩ K ⟨r,h,hK⟩
 change laws_toArc a0=some r at h
 unfold laws_toArc at h
 conv=>whnf
 refine vBind h (fun toTableS0 hb0 h=>?_)
 conv=>whnf
 intro fp1
 conv=>whnf
 refine vBind h (fun toTableS1 hb2 h=>?_)
 conv=>whnf
 intro fp3
 conv=>whnf
 cases h
 exact hK
theorem w27 (q1:SoundC Tryz.prog 140 c21) (q2:SoundC Tryz.prog 141 c26) (q0:SoundC Tryz.prog 62 c22):SoundC Tryz.prog 107 c27:=by
 refine fn_sound tabD_ok (gam_cons q1 (gam_cons q2 (gam_cons q0 gam_nil))) mixed {} (fn:=Tryz.f107) Tryz.func107 (by kernel_rfl) (by kernel_rfl) ?_
 rintro ⟨a0,⟨⟩⟩ K ⟨r,h,hK⟩
 change laws_toCell a0=some r at h
 unfold laws_toCell at h
 conv=>whnf
 refine vBind h (fun toPinS0 hb0 h=>?_)
 conv=>whnf
 refine vBind h (fun toArcS0 hb1 h=>?_)
 conv=>whnf
 intro fp2
 conv=>whnf
 refine vBind h (fun toInt64S0 hb3 h=>?_)
 conv=>whnf
 cases h
 exact hK
theorem w39 (q0:SoundC Tryz.prog 28 c36):SoundC Tryz.prog 9 c39:=by
 refine fn_sound tab_ok (gam_cons q0 gam_nil) mixed {} (fn:=Tryz.f9) Tryz.func9 (by kernel_rfl) (by kernel_rfl) ?_
 rintro ⟨a0,⟨⟩⟩ K ⟨r,h,hK⟩
 change laws_toEdit a0=some r at h
 unfold laws_toEdit at h
 conv=>whnf
 refine vBind h (fun toWire0 hb0 h=>?_)
 conv=>whnf
 cases h
 exact hK
theorem w33:SoundC Tryz.prog 109 c33:=by
 refine fn_sound tab_ok gam_nil mixed {} (fn:=Tryz.f109) Tryz.func109 (by kernel_rfl) (by kernel_rfl) ?_
 rintro ⟨a0,⟨⟩⟩ K ⟨r,h,hK⟩
 change laws_toPort a0=some r at h
 unfold laws_toPort at h
 conv=>whnf
 cases h
 exact hK
theorem w34 (q0:SoundC Tryz.prog 109 c33):SoundC Tryz.prog 61 c34:=by
 refine fn_sound tab_ok (gam_cons q0 gam_nil) mixed {loops:=[(0,[.reg 4 (.dat (.int .i64)),.ent 0 (nat_lit 154) (.flat ti49.ety)])]} (fn:=Tryz.f61) Tryz.func61 (by kernel_rfl) (by kernel_rfl) ?_
 rintro ⟨a0,⟨⟩⟩ K ⟨r,h,hK⟩
 change laws_toPortS a0=some r at h
 unfold laws_toPortS at h
 conv=>whnf
 refine vPre h (fun hp0 h=>?_)
 conv=>whnf
 refine vPre h (fun hp1 h=>?_)
 conv=>whnf
 refine vPre h (fun hp2 h=>?_)
 conv=>whnf
 refine vPre h (fun hp3 h=>?_)
 conv=>whnf
 refine vLoop h ?_
 rintro I4 μ4 ⟨i0,l0,⟨⟩⟩ zs4 h hI4 hR4
 change laws_toPortS_loop0 a0 i0 l0=some zs4 at h
 unfold laws_toPortS_loop0 at h
 conv=>whnf
 refine vIfD h (fun h=>?_) (fun h=>?_)
 conv=>whnf
 refine vAt h (fun x0 he5a he5b he5x h=>?_)
 conv=>whnf
 refine vBind h (fun toPort0 hb6 h=>?_)
 conv=>whnf
 refine vAt h (fun x1 he7a he7b he7x h=>?_)
 conv=>whnf
 refine ⟨by kernel_rfl,?_⟩
 conv=>whnf
 refine ⟨by decide,?_⟩
 conv=>whnf
 refine ⟨he7a,he7b,vAgain he7x ?_⟩
 conv=>whnf
 cases h
 exact ⟨⟨rfl,rfl⟩,hI4 _ rfl⟩
 conv=>whnf
 cases h
 obtain rfl:=hR4 _ rfl
 exact hK
theorem w103 (q0:SoundC Tryz.prog 236 c102):SoundC Tryz.prog 221 c103:=by
 refine fn_sound tab_ok (gam_cons q0 gam_nil) mixed {} (fn:=Tryz.f221) Tryz.func221 (by kernel_rfl) (by kernel_rfl) ?_
 rintro ⟨s0,f0,⟨⟩⟩ K ⟨r,h,hK⟩
 change slices_ContainsFunc_Simpl_Arc_impl_Arc_at_impl_Cell_areArcs_c1 s0 f0=some r at h
 unfold slices_ContainsFunc_Simpl_Arc_impl_Arc_at_impl_Cell_areArcs_c1 at h
 conv=>whnf
 refine vBind h (fun c1_0 hb0 h=>?_)
 conv=>whnf
 cases h
 exact hK
theorem w135 (q0:SoundC Tryz.prog 186 c134):SoundC Tryz.prog 185 c135:=by
 refine fn_sound tab_ok (gam_cons q0 gam_nil) mixed {loops:=[(0,[.reg 17 (.dat (.int .i64))])]} (fn:=Tryz.f185) Tryz.func185 (by kernel_rfl) (by kernel_rfl) ?_
 rintro ⟨s1_0,s2_0,eq0,⟨⟩⟩ K ⟨r,h,hK⟩
 change slices_EqualFunc_Simpl_Pin_Simpl_Pin_impl_Pin_impl_Pin_at_impl_fitsSwap_c1 s1_0 s2_0 eq0=some r at h
 unfold slices_EqualFunc_Simpl_Pin_Simpl_Pin_impl_Pin_impl_Pin_at_impl_fitsSwap_c1 at h
 conv=>whnf
 refine vNots ?_
 refine vIfD h (fun h=>?_) (fun h=>?_)
 conv=>whnf
 refine vLoop h ?_
 rintro I0 μ0 ⟨v0,⟨⟩⟩ zs0 h hI0 hR0
 change slices_EqualFunc_Simpl_Pin_Simpl_Pin_impl_Pin_impl_Pin_at_impl_fitsSwap_c1_loop0 s1_0 s2_0 v0=some zs0 at h
 unfold slices_EqualFunc_Simpl_Pin_Simpl_Pin_impl_Pin_impl_Pin_at_impl_fitsSwap_c1_loop0 at h
 conv=>whnf
 refine vIfD h (fun h=>?_) (fun h=>?_)
 conv=>whnf
 refine vAt h (fun x0 he1a he1b he1x h=>?_)
 conv=>whnf
 refine vAt h (fun x1 he2a he2b he2x h=>?_)
 conv=>whnf
 refine vBind h (fun c1_0 hb3 h=>?_)
 conv=>whnf
 refine vNots ?_
 refine vIfB h (fun h=>?_) (fun h=>?_)
 conv=>whnf
 cases h
 exact ⟨⟨rfl,rfl⟩,hI0 _ rfl⟩
 conv=>whnf
 cases h
 obtain rfl:=hR0 _ rfl
 exact hK
 conv=>whnf
 cases h
 obtain rfl:=hR0 _ rfl
 exact hK
 conv=>whnf
 cases h
 exact hK
theorem w163 (q0:SoundC Tryz.prog 119 c162):SoundC Tryz.prog 118 c163:=by
 refine fn_sound tab_ok (gam_cons q0 gam_nil) mixed {loops:=[(0,[.reg 8 (.dat (.int .i64))])]} (fn:=Tryz.f118) Tryz.func118 (by kernel_rfl) (by kernel_rfl) ?_
 rintro ⟨s0,f0,⟨⟩⟩ K ⟨r,h,hK⟩
 change slices_IndexFunc_Simpl_place_impl_place_at_impl_Design_placeOf_c1 s0 f0=some r at h
 unfold slices_IndexFunc_Simpl_place_impl_place_at_impl_Design_placeOf_c1 at h
 conv=>whnf
 refine vLoop h ?_
 rintro I0 μ0 ⟨v0,⟨⟩⟩ zs0 h hI0 hR0
 change slices_IndexFunc_Simpl_place_impl_place_at_impl_Design_placeOf_c1_loop0 s0 f0 v0=some zs0 at h
 unfold slices_IndexFunc_Simpl_place_impl_place_at_impl_Design_placeOf_c1_loop0 at h
 conv=>whnf
 refine vIfD h (fun h=>?_) (fun h=>?_)
 conv=>whnf
 refine vAt h (fun x0 he1a he1b he1x h=>?_)
 conv=>whnf
 refine vBind h (fun c1_0 hb2 h=>?_)
 conv=>whnf
 refine vIfB h (fun h=>?_) (fun h=>?_)
 conv=>whnf
 cases h
 obtain rfl:=hR0 _ rfl
 exact hK
 conv=>whnf
 cases h
 exact ⟨⟨rfl,rfl⟩,hI0 _ rfl⟩
 conv=>whnf
 cases h
 obtain rfl:=hR0 _ rfl
 exact hK
theorem w117 (q0:SoundC Tryz.prog 181 c116):SoundC Tryz.prog 204 c117:=by
 refine fn_sound tab_ok (gam_cons q0 gam_nil) mixed {loops:=[(0,[.reg 8 (.dat (.int .i64))])]} (fn:=Tryz.f204) Tryz.func204 (by kernel_rfl) (by kernel_rfl) ?_
 rintro ⟨s0,f0,⟨⟩⟩ K ⟨r,h,hK⟩
 change slices_IndexFunc_Sint64_int64_at_impl_Design_isInstance_c1 s0 f0=some r at h
 unfold slices_IndexFunc_Sint64_int64_at_impl_Design_isInstance_c1 at h
 conv=>whnf
 refine vLoop h ?_
 rintro I0 μ0 ⟨v0,⟨⟩⟩ zs0 h hI0 hR0
 change slices_IndexFunc_Sint64_int64_at_impl_Design_isInstance_c1_loop0 s0 f0 v0=some zs0 at h
 unfold slices_IndexFunc_Sint64_int64_at_impl_Design_isInstance_c1_loop0 at h
 conv=>whnf
 refine vIfD h (fun h=>?_) (fun h=>?_)
 conv=>whnf
 refine vAt h (fun x0 he1a he1b he1x h=>?_)
 conv=>whnf
 refine vBind h (fun c1_0 hb2 h=>?_)
 conv=>whnf
 refine vIfB h (fun h=>?_) (fun h=>?_)
 conv=>whnf
 cases h
 obtain rfl:=hR0 _ rfl
 exact hK
 conv=>whnf
 cases h
 exact ⟨⟨rfl,rfl⟩,hI0 _ rfl⟩
 conv=>whnf
 cases h
 obtain rfl:=hR0 _ rfl
 exact hK
theorem w53 (q0:SoundC Tryz.prog 135 c50) (q1:SoundC Tryz.prog 136 c51) (q2:SoundC Tryz.prog 137 c52):SoundC Tryz.prog 97 c53:=by
 refine fn_sound tab_ok (gam_cons q0 (gam_cons q1 (gam_cons q2 gam_nil))) mixed {loops:=[(0,[.reg 5 (.own (.ol 9 (.flat (.str)))),.reg 6 (.dat (.int .i64))]),(2,[.reg 7 (.own (.ol 9 (.flat (.str)))),.reg 8 (.dat (.int .i64))]),(4,[.reg 10 (.dat (.int .i64)),.ent 6 (nat_lit 2) (.flat ti33.ety)]),(6,[.reg 12 (.dat (.int .i64)),.ent 6 (nat_lit 2) (.flat ti33.ety)]),(8,[.reg 13 (.dat (.int .i64))])]} (fn:=Tryz.f97) Tryz.func97 (by kernel_rfl) (by kernel_rfl) ?_
 rintro ⟨a0,a1,⟨⟩⟩ K ⟨r,h,hK⟩
 change spec_IsDesign a0 a1=some r at h
 unfold spec_IsDesign at h
 conv=>whnf
 refine vBind h (fun IsLibrary0 hb0 h=>?_)
 conv=>whnf
 refine vNot ?_
 refine vIfB h (fun h=>?_) (fun h=>?_)
 conv=>whnf
 refine vIfDs h (fun h=>?_) (fun h=>?_)
 conv=>whnf
 cases h
 exact hK
 conv=>whnf
 refine vIfDs h (fun h=>?_) (fun h=>?_)
 conv=>whnf
 cases h
 exact hK
 conv=>whnf
 refine vIfDs h (fun h=>?_) (fun h=>?_)
 conv=>whnf
 cases h
 exact hK
 conv=>whnf
 refine vBind h (fun l05Parts0 hb1 h=>?_)
 conv=>whnf
 refine vNots ?_
 refine vIfB h (fun h=>?_) (fun h=>?_)
 conv=>whnf
 refine vLoop h ?_
 rintro I2 μ2 ⟨v0,v1,⟨⟩⟩ zs2 h hI2 hR2
 change spec_IsDesign_loop4 a1 v0 v1=some zs2 at h
 unfold spec_IsDesign_loop4 at h
 conv=>whnf
 refine vIfD h (fun h=>?_) (fun h=>?_)
 conv=>whnf
 refine vAt h (fun x0 he3a he3b he3x h=>?_)
 conv=>whnf
 refine vPre h (fun hp4 h=>?_)
 conv=>whnf
 cases h
 exact ⟨⟨rfl,rfl⟩,hI2 _ rfl⟩
 conv=>whnf
 refine vLoop h ?_
 rintro I5 μ5 ⟨v2,v3,⟨⟩⟩ zs5 h hI5 hR5
 change spec_IsDesign_loop3 a1 v0 v2 v3=some zs5 at h
 unfold spec_IsDesign_loop3 at h
 conv=>whnf
 refine vIfD h (fun h=>?_) (fun h=>?_)
 conv=>whnf
 refine vAt h (fun x0 he6a he6b he6x h=>?_)
 conv=>whnf
 refine vPre h (fun hp7 h=>?_)
 conv=>whnf
 cases h
 exact ⟨⟨rfl,rfl⟩,hI5 _ rfl⟩
 conv=>whnf
 refine vBind h (fun l05Names0 hb8 h=>?_)
 conv=>whnf
 refine vNot ?_
 refine vIfB h (fun h=>?_) (fun h=>?_)
 conv=>whnf
 refine vBind h (fun l05Names1 hb9 h=>?_)
 conv=>whnf
 refine vNot ?_
 refine vIfB h (fun h=>?_) (fun h=>?_)
 conv=>whnf
 refine vBind h (fun l05Names2 hb10 h=>?_)
 conv=>whnf
 refine vNots ?_
 refine vIfB h (fun h=>?_) (fun h=>?_)
 conv=>whnf
 refine vPre h (fun hp11 h=>?_)
 conv=>whnf
 refine vPre h (fun hp12 h=>?_)
 conv=>whnf
 refine vPre h (fun hp13 h=>?_)
 conv=>whnf
 refine vPre h (fun hp14 h=>?_)
 conv=>whnf
 refine vLoop h ?_
 rintro I15 μ15 ⟨v4,l0,⟨⟩⟩ zs15 h hI15 hR15
 change spec_IsDesign_loop2 a1 v4 l0=some zs15 at h
 unfold spec_IsDesign_loop2 at h
 conv=>whnf
 refine vIfD h (fun h=>?_) (fun h=>?_)
 conv=>whnf
 refine vAt h (fun x0 he16a he16b he16x h=>?_)
 conv=>whnf
 refine vAt h (fun x1 he17a he17b he17x h=>?_)
 conv=>whnf
 refine vAt h (fun x2 he18a he18b he18x h=>?_)
 conv=>whnf
 refine ⟨by kernel_rfl,?_⟩
 conv=>whnf
 refine ⟨he18a,he18b,vAgain he18x ?_⟩
 conv=>whnf
 refine ⟨he18a,he18b,vAgain he18x ?_⟩
 conv=>whnf
 refine ⟨by kernel_rfl,?_⟩
 conv=>whnf
 refine ⟨by decide,?_⟩
 conv=>whnf
 refine ⟨he18a,he18b,vAgain he18x ?_⟩
 conv=>whnf
 cases h
 exact ⟨⟨rfl,rfl⟩,hI15 _ rfl⟩
 conv=>whnf
 refine vLoop h ?_
 rintro I19 μ19 ⟨v5,l1,⟨⟩⟩ zs19 h hI19 hR19
 change spec_IsDesign_loop1 a1 v5 l1=some zs19 at h
 unfold spec_IsDesign_loop1 at h
 conv=>whnf
 refine vIfD h (fun h=>?_) (fun h=>?_)
 conv=>whnf
 refine vAt h (fun x0 he20a he20b he20x h=>?_)
 conv=>whnf
 refine vIfD h (fun h=>?_) (fun h=>?_)
 conv=>whnf
 refine ⟨he20a,he20b,vAgain he20x ?_⟩
 conv=>whnf
 refine vAt h (fun x1 he21a he21b he21x h=>?_)
 conv=>whnf
 refine ⟨by kernel_rfl,?_⟩
 conv=>whnf
 refine ⟨he21a,he21b,vAgain he21x ?_⟩
 conv=>whnf
 refine ⟨he21a,he21b,vAgain he21x ?_⟩
 conv=>whnf
 refine ⟨by kernel_rfl,?_⟩
 conv=>whnf
 refine ⟨by decide,?_⟩
 conv=>whnf
 refine ⟨he21a,he21b,vAgain he21x ?_⟩
 conv=>whnf
 cases h
 exact ⟨⟨rfl,rfl⟩,hI19 _ rfl⟩
 conv=>whnf
 cases h
 exact ⟨⟨rfl,rfl⟩,hI19 _ rfl⟩
 conv=>whnf
 refine vLoop h ?_
 rintro I22 μ22 ⟨v6,⟨⟩⟩ zs22 h hI22 hR22
 change spec_IsDesign_loop0 l1 v6=some zs22 at h
 unfold spec_IsDesign_loop0 at h
 conv=>whnf
 refine vIfD h (fun h=>?_) (fun h=>?_)
 conv=>whnf
 refine vAt h (fun x0 he23a he23b he23x h=>?_)
 conv=>whnf
 refine ⟨by kernel_rfl,?_⟩
 conv=>whnf
 refine ⟨he23a,he23b,vAgain he23x ?_⟩
 conv=>whnf
 refine vNots ?_
 refine vIfD h (fun h=>?_) (fun h=>?_)
 conv=>whnf
 cases h
 exact ⟨⟨rfl,rfl⟩,hI22 _ rfl⟩
 conv=>whnf
 cases h
 obtain rfl:=hR22 _ rfl
 obtain rfl:=hR19 _ rfl
 obtain rfl:=hR15 _ rfl
 obtain rfl:=hR5 _ rfl
 obtain rfl:=hR2 _ rfl
 exact hK
 conv=>whnf
 cases h
 obtain rfl:=hR22 _ rfl
 obtain rfl:=hR19 _ rfl
 obtain rfl:=hR15 _ rfl
 obtain rfl:=hR5 _ rfl
 obtain rfl:=hR2 _ rfl
 exact hK
 conv=>whnf
 cases h
 obtain rfl:=hR5 _ rfl
 obtain rfl:=hR2 _ rfl
 exact hK
 conv=>whnf
 cases h
 obtain rfl:=hR5 _ rfl
 obtain rfl:=hR2 _ rfl
 exact hK
 conv=>whnf
 cases h
 obtain rfl:=hR5 _ rfl
 obtain rfl:=hR2 _ rfl
 exact hK
 conv=>whnf
 cases h
 exact hK
 conv=>whnf
 cases h
 exact hK
theorem w41:SoundC Tryz.prog 99 c41:=by
 refine fn_sound tab_ok gam_nil mixed {} (fn:=Tryz.f99) Tryz.func99 (by kernel_rfl) (by kernel_rfl) ?_
 rintro ⟨n0,low0,high0,⟨⟩⟩ K ⟨r,h,hK⟩
 change spec_l01In n0 low0 high0=some r at h
 unfold spec_l01In at h
 conv=>whnf
 refine vIfD h (fun h=>?_) (fun h=>?_)
 conv=>whnf
 cases h
 exact hK
 conv=>whnf
 cases h
 exact hK
theorem w70:SoundC Tryz.prog 106 c70:=by
 refine fn_sound tab_ok gam_nil mixed {} (fn:=Tryz.f106) Tryz.func106 (by kernel_rfl) (by kernel_rfl) ?_
 rintro ⟨list0,⟨⟩⟩ K ⟨r,h,hK⟩
 change spec_l02Ints list0=some r at h
 unfold spec_l02Ints at h
 conv=>whnf
 refine vPre h (fun hp0 h=>?_)
 conv=>whnf
 cases h
 exact hK
theorem w48:SoundC Tryz.prog 198 c48:=by
 refine fn_sound tab_ok gam_nil mixed {loops:=[(0,[.reg 4 (.dat (.int .i64)),.ent 1 (nat_lit 2) (.flat ti33.ety)])]} (fn:=Tryz.f198) Tryz.func198 (by kernel_rfl) (by kernel_rfl) ?_
 rintro ⟨c0,⟨⟩⟩ K ⟨r,h,hK⟩
 change spec_l03Kinds c0=some r at h
 unfold spec_l03Kinds at h
 conv=>whnf
 refine ⟨by decide,?_⟩
 conv=>whnf
 refine ⟨by decide,?_⟩
 conv=>whnf
 refine ⟨by decide,?_⟩
 conv=>whnf
 refine ⟨by decide,?_⟩
 conv=>whnf
 refine vLoop h ?_
 rintro I0 μ0 ⟨i0,l0,⟨⟩⟩ zs0 h hI0 hR0
 change spec_l03Kinds_loop0 c0 i0 l0=some zs0 at h
 unfold spec_l03Kinds_loop0 at h
 conv=>whnf
 refine vIfD h (fun h=>?_) (fun h=>?_)
 conv=>whnf
 refine vAt h (fun x0 he1a he1b he1x h=>?_)
 conv=>whnf
 refine vAt h (fun x1 he2a he2b he2x h=>?_)
 conv=>whnf
 refine ⟨by kernel_rfl,?_⟩
 conv=>whnf
 refine ⟨he2a,he2b,vAgain he2x ?_⟩
 conv=>whnf
 refine ⟨he2a,he2b,vAgain he2x ?_⟩
 conv=>whnf
 refine ⟨by kernel_rfl,?_⟩
 conv=>whnf
 refine ⟨by decide,?_⟩
 conv=>whnf
 refine ⟨he2a,he2b,vAgain he2x ?_⟩
 conv=>whnf
 cases h
 exact ⟨⟨rfl,rfl⟩,hI0 _ rfl⟩
 conv=>whnf
 cases h
 obtain rfl:=hR0 _ rfl
 exact hK
theorem w58:SoundC Tryz.prog 51 c58:=by
 refine fn_sound tab_ok gam_nil mixed {} (fn:=Tryz.f51) Tryz.func51 (by kernel_rfl) (by kernel_rfl) ?_
 rintro ⟨a0,⟨⟩⟩ K ⟨r,h,hK⟩
 change spec_l08Blank a0=some r at h
 unfold spec_l08Blank at h
 conv=>whnf
 refine vIfD h (fun h=>?_) (fun h=>?_)
 conv=>whnf
 refine vIfD h (fun h=>?_) (fun h=>?_)
 conv=>whnf
 refine vIfD h (fun h=>?_) (fun h=>?_)
 conv=>whnf
 refine vIfD h (fun h=>?_) (fun h=>?_)
 conv=>whnf
 cases h
 exact hK
 conv=>whnf
 cases h
 exact hK
 conv=>whnf
 cases h
 exact hK
 conv=>whnf
 cases h
 exact hK
 conv=>whnf
 refine vIfD h (fun h=>?_) (fun h=>?_)
 conv=>whnf
 refine vIfD h (fun h=>?_) (fun h=>?_)
 conv=>whnf
 refine vIfD h (fun h=>?_) (fun h=>?_)
 conv=>whnf
 cases h
 exact hK
 conv=>whnf
 cases h
 exact hK
 conv=>whnf
 cases h
 exact hK
 conv=>whnf
 refine vIfD h (fun h=>?_) (fun h=>?_)
 conv=>whnf
 refine vIfD h (fun h=>?_) (fun h=>?_)
 conv=>whnf
 refine vIfD h (fun h=>?_) (fun h=>?_)
 conv=>whnf
 refine vIfD h (fun h=>?_) (fun h=>?_)
 conv=>whnf
 refine vIfD h (fun h=>?_) (fun h=>?_)
 conv=>whnf
 refine vIfD h (fun h=>?_) (fun h=>?_)
 conv=>whnf
 cases h
 exact hK
 conv=>whnf
 cases h
 exact hK
 conv=>whnf
 cases h
 exact hK
 conv=>whnf
 cases h
 exact hK
 conv=>whnf
 cases h
 exact hK
 conv=>whnf
 cases h
 exact hK
 conv=>whnf
 refine vIfD h (fun h=>?_) (fun h=>?_)
 conv=>whnf
 refine vIfD h (fun h=>?_) (fun h=>?_)
 conv=>whnf
 refine vIfD h (fun h=>?_) (fun h=>?_)
 conv=>whnf
 cases h
 exact hK
 conv=>whnf
 cases h
 exact hK
 conv=>whnf
 cases h
 exact hK
 conv=>whnf
 refine vIfD h (fun h=>?_) (fun h=>?_)
 conv=>whnf
 refine vIfD h (fun h=>?_) (fun h=>?_)
 conv=>whnf
 refine vIfD h (fun h=>?_) (fun h=>?_)
 conv=>whnf
 refine vIfD h (fun h=>?_) (fun h=>?_)
 conv=>whnf
 cases h
 exact hK
 conv=>whnf
 cases h
 exact hK
 conv=>whnf
 cases h
 exact hK
 conv=>whnf
 cases h
 exact hK
 conv=>whnf
 cases h
 exact hK
end Go.Proofs.YtpkjjgdhmafonaaGreatDoor
