/-
  The functions keep their contracts, if what they call does. Printed by program.
-/
import Derived.Test.YtpkjjgdhmafonaaGreatDoorM
import Derived.KernelRfl
namespace Go.Proofs.YtpkjjgdhmafonaaGreatDoor
open Go Go.Sx
set_option maxRecDepth 100000
set_option maxHeartbeats 3200000
set_option linter.unusedVariables false
set_option linter.unusedSimpArgs false
theorem w160 (q0:SoundC Tryz.prog 65 c124):SoundC Tryz.prog 89 c160:=by
 refine fn_sound tabD_ok (gam_cons q0 gam_nil) mixed {loops:=[(0,[.reg 13 (.dat (.int .i64)),.ent 4 (nat_lit 40) (Dp.pair (Dp.ol (2:Go.TypeId) (Dp.flat (Ty.int IntKind.i64))) (Dp.pair (Dp.ol (2:Go.TypeId) (Dp.flat (Ty.int IntKind.i64))) (Dp.pair (Dp.ol (2:Go.TypeId) (Dp.flat (Ty.int IntKind.i64))) (Dp.pair (Dp.ol (2:Go.TypeId) (Dp.flat (Ty.int IntKind.i64))) (Dp.flat Ty.unit)))))]),(2,[.reg 30 (.dat (.int .i64)),.ent 4 (nat_lit 40) (Dp.pair (Dp.ol (2:Go.TypeId) (Dp.flat (Ty.int IntKind.i64))) (Dp.pair (Dp.ol (2:Go.TypeId) (Dp.flat (Ty.int IntKind.i64))) (Dp.pair (Dp.ol (2:Go.TypeId) (Dp.flat (Ty.int IntKind.i64))) (Dp.pair (Dp.ol (2:Go.TypeId) (Dp.flat (Ty.int IntKind.i64))) (Dp.flat Ty.unit)))))])],draws:=[(9,[0,1,3,7,0,16,63,127],.op 0 (.op 1 (.op 2 (.op 3 (.op 4 (.op 5 (.op 6 (.op 7 (.done))))))))),(10,[0,0,2,6,14,0,0,64,0,256,960,2016,4064,8190,16383,32767,65535],.op 0 (.op 1 (.op 2 (.op 3 (.op 5 (.op 6 (.op 7 (.op 8 (.op 9 (.op 10 (.alt 4 (.alt 11 (.alt 12 (.alt 13 (.op 14 (.op 15 (.alt 16 (.done) (.done)))) (.done)) (.done)) (.done)) (.alt 11 (.alt 4 (.alt 12 (.alt 13 (.op 14 (.op 15 (.alt 16 (.done) (.done)))) (.done)) (.done)) (.alt 12 (.alt 4 (.alt 13 (.op 14 (.op 15 (.alt 16 (.done) (.done)))) (.done)) (.done)) (.done))) (.done)))))))))))))]} (fn:=Tryz.f89) Tryz.func89 (by kernel_rfl) (by kernel_rfl) ?_
 rintro ⟨b0,nodes0,⟨⟩⟩ K ⟨r,h,hK⟩
 change impl_Block_connect b0 nodes0=some r at h
 unfold impl_Block_connect at h
 conv=>whnf
 intro fp0
 conv=>whnf
 intro fp1
 conv=>whnf
 intro fp2
 conv=>whnf
 refine vLoop h ?_
 rintro I3 μ3 ⟨v0,l0,⟨⟩⟩ zs3 h hI3 hR3
 change impl_Block_connect_loop1 b0 nodes0 v0 l0=some zs3 at h
 unfold impl_Block_connect_loop1 at h
 conv=>whnf
 intro fp4
 conv=>whnf
 refine vIfD h (fun h=>?_) (fun h=>?_)
 conv=>whnf
 refine vAt h (fun x0 he5a he5b he5x h=>?_)
 conv=>whnf
 refine ⟨he5a,he5b,vAgain he5x ?_⟩
 conv=>whnf
 intro fp6
 conv=>whnf
 cases h
 exact ⟨⟨rfl,rfl⟩,hI3 _ rfl⟩
 conv=>whnf
 refine vBind h (fun places0 hb7 h=>?_)
 conv=>whnf
 refine vLoop h ?_
 rintro I8 μ8 ⟨v1,l1,⟨⟩⟩ zs8 h hI8 hR8
 change impl_Block_connect_loop0 b0 nodes0 places0 v1 l1=some zs8 at h
 unfold impl_Block_connect_loop0 at h
 conv=>whnf
 intro fp9
 conv=>whnf
 refine vIfD h (fun h=>?_) (fun h=>?_)
 conv=>whnf
 refine vAt h (fun x0 he10a he10b he10x h=>?_)
 conv=>whnf
 refine ⟨by kernel_rfl,?_⟩
 conv=>whnf
 refine ⟨he10a,he10b,vAgain he10x ?_⟩
 conv=>whnf
 refine vNots ?_
 refine vIfB h (fun h=>?_) (fun h=>?_)
 conv=>whnf
 cases h
 exact ⟨⟨rfl,rfl⟩,hI8 _ rfl⟩
 conv=>whnf
 refine ⟨by kernel_rfl,?_⟩
 conv=>whnf
 refine vAt h (fun x1 he11a he11b he11x h=>?_)
 conv=>whnf
 refine ⟨by kernel_rfl,?_⟩
 conv=>whnf
 refine ⟨?_,?_⟩
 conv=>whnf
 refine ⟨he11a,he11b,vAgain he11x ?_⟩
 conv=>whnf
 intro fp12
 conv=>whnf
 refine vPre h (fun hp13 h=>?_)
 conv=>whnf
 refine .inl ⟨rfl,?_⟩
 conv=>whnf
 cases h
 exact ⟨⟨rfl,rfl⟩,hI8 _ rfl⟩
 obtain ⟨hp13,h⟩:=guardE h
 conv=>whnf
 refine ⟨?_,?_⟩
 conv=>whnf
 refine ⟨he11a,he11b,vAgain he11x ?_⟩
 conv=>whnf
 intro fp14
 conv=>whnf
 refine ⟨hp13,?_⟩
 conv=>whnf
 refine .inl ⟨rfl,?_⟩
 conv=>whnf
 cases h
 exact ⟨⟨rfl,rfl⟩,hI8 _ rfl⟩
 conv=>whnf
 refine ⟨he11a,he11b,vAgain he11x ?_⟩
 conv=>whnf
 intro fp15
 conv=>whnf
 refine ⟨hp13,?_⟩
 conv=>whnf
 refine .inl ⟨rfl,?_⟩
 conv=>whnf
 cases h
 exact ⟨⟨rfl,rfl⟩,hI8 _ rfl⟩
 conv=>whnf
 cases h
 obtain rfl:=hR8 _ rfl
 obtain rfl:=hR3 _ rfl
 exact hK
theorem w101:SoundC Tryz.prog 222 c101:=by
 refine fn_sound tab_ok gam_nil mixed {} (fn:=Tryz.f222) Tryz.func222 (by kernel_rfl) (by kernel_rfl) ?_
 rintro ⟨o0,a0,⟨⟩⟩ K ⟨r,h,hK⟩
 change impl_Cell_areArcs_c1 o0 a0=some r at h
 unfold impl_Cell_areArcs_c1 at h
 conv=>whnf
 refine vIfD h (fun h=>?_) (fun h=>?_)
 conv=>whnf
 refine vIfD h (fun h=>?_) (fun h=>?_)
 conv=>whnf
 cases h
 exact hK
 conv=>whnf
 cases h
 exact hK
 conv=>whnf
 cases h
 exact hK
theorem w95:SoundC Tryz.prog 247 c95:=by
 refine fn_sound tab_ok gam_nil mixed {} (fn:=Tryz.f247) Tryz.func247 (by kernel_rfl) (by kernel_rfl) ?_
 rintro ⟨p0,⟨⟩⟩ K ⟨r,h,hK⟩
 change impl_Cell_clock_c1 p0=some r at h
 unfold impl_Cell_clock_c1 at h
 conv=>whnf
 cases h
 exact hK
theorem w112 (q0:SoundC Tryz.prog 179 c79):SoundC Tryz.prog 143 c112:=by
 refine fn_sound tab_ok (gam_cons q0 gam_nil) mixed {loops:=[(0,[.reg 3 (.own (.ol 9 (.flat (.str)))),.reg 12 (.dat (.int .i64))]),(2,[.reg 4 (.own (.ol 9 (.flat (.str)))),.reg 25 (.dat (.int .i64))])]} (fn:=Tryz.f143) Tryz.func143 (by kernel_rfl) (by kernel_rfl) ?_
 rintro ⟨d0,⟨⟩⟩ K ⟨r,h,hK⟩
 change impl_Design_hasNames d0=some r at h
 unfold impl_Design_hasNames at h
 conv=>whnf
 refine vLoop h ?_
 rintro I0 μ0 ⟨instances0,v0,⟨⟩⟩ zs0 h hI0 hR0
 change impl_Design_hasNames_loop1 d0 instances0 v0=some zs0 at h
 unfold impl_Design_hasNames_loop1 at h
 conv=>whnf
 refine vIfD h (fun h=>?_) (fun h=>?_)
 conv=>whnf
 refine vAt h (fun x0 he1a he1b he1x h=>?_)
 conv=>whnf
 refine vPre h (fun hp2 h=>?_)
 conv=>whnf
 cases h
 exact ⟨⟨rfl,rfl⟩,hI0 _ rfl⟩
 conv=>whnf
 refine vLoop h ?_
 rintro I3 μ3 ⟨ports0,v1,⟨⟩⟩ zs3 h hI3 hR3
 change impl_Design_hasNames_loop0 d0 instances0 ports0 v1=some zs3 at h
 unfold impl_Design_hasNames_loop0 at h
 conv=>whnf
 refine vIfD h (fun h=>?_) (fun h=>?_)
 conv=>whnf
 refine vAt h (fun x0 he4a he4b he4x h=>?_)
 conv=>whnf
 refine vPre h (fun hp5 h=>?_)
 conv=>whnf
 cases h
 exact ⟨⟨rfl,rfl⟩,hI3 _ rfl⟩
 conv=>whnf
 refine vIfD h (fun h=>?_) (fun h=>?_)
 conv=>whnf
 refine vIfD h (fun h=>?_) (fun h=>?_)
 conv=>whnf
 refine vIfD h (fun h=>?_) (fun h=>?_)
 conv=>whnf
 refine vBind h (fun areNames0 hb6 h=>?_)
 conv=>whnf
 refine vIfB h (fun h=>?_) (fun h=>?_)
 conv=>whnf
 refine vBind h (fun areNames1 hb7 h=>?_)
 conv=>whnf
 refine vIfB h (fun h=>?_) (fun h=>?_)
 conv=>whnf
 refine vBind h (fun areNames2 hb8 h=>?_)
 conv=>whnf
 cases h
 obtain rfl:=hR3 _ rfl
 obtain rfl:=hR0 _ rfl
 exact hK
 conv=>whnf
 cases h
 obtain rfl:=hR3 _ rfl
 obtain rfl:=hR0 _ rfl
 exact hK
 conv=>whnf
 cases h
 obtain rfl:=hR3 _ rfl
 obtain rfl:=hR0 _ rfl
 exact hK
 conv=>whnf
 cases h
 obtain rfl:=hR3 _ rfl
 obtain rfl:=hR0 _ rfl
 exact hK
 conv=>whnf
 cases h
 obtain rfl:=hR3 _ rfl
 obtain rfl:=hR0 _ rfl
 exact hK
 conv=>whnf
 cases h
 obtain rfl:=hR3 _ rfl
 obtain rfl:=hR0 _ rfl
 exact hK
theorem w162:SoundC Tryz.prog 119 c162:=by
 refine fn_sound tab_ok gam_nil mixed {} (fn:=Tryz.f119) Tryz.func119 (by kernel_rfl) (by kernel_rfl) ?_
 rintro ⟨p0,a0,a1,⟨⟩⟩ K ⟨r,h,hK⟩
 change impl_Design_placeOf_c1 p0 a0 a1=some r at h
 unfold impl_Design_placeOf_c1 at h
 conv=>whnf
 refine vIfD h (fun h=>?_) (fun h=>?_)
 conv=>whnf
 cases h
 exact hK
 conv=>whnf
 cases h
 exact hK
theorem w165 (q2:SoundC Tryz.prog 65 c124) (q4:SoundC Tryz.prog 66 c156) (q0:SoundC Tryz.prog 67 c161) (q1:SoundC Tryz.prog 68 c164) (q3:SoundC Tryz.prog 69 c157) (q5:SoundC Tryz.prog 70 c155):SoundC Tryz.prog 30 c165:=by
 refine fn_sound tab_ok (gam_cons q2 (gam_cons q4 (gam_cons q0 (gam_cons q1 (gam_cons q3 (gam_cons q5 gam_nil)))))) mixed {draws:=[(4,[0,1,0,4,0,16,0,64,240,496,1008,2044,4092,8188,16383,32767],.op 0 (.op 1 (.op 2 (.op 3 (.op 4 (.op 6 (.op 7 (.alt 5 (.op 8 (.op 9 (.op 10 (.op 11 (.op 12 (.op 13 (.op 14 (.alt 15 (.done) (.done))))))))) (.done))))))))),(11,[0,1,0,4,0,16,63,0,128,0,512,2047,4095],.op 0 (.op 1 (.op 2 (.op 3 (.op 4 (.op 5 (.op 7 (.op 8 (.op 9 (.op 10 (.alt 6 (.op 11 (.alt 12 (.done) (.done))) (.done)))))))))))),(13,[0,1,0,4,15,31,0,127],.op 0 (.op 2 (.op 3 (.alt 1 (.op 4 (.op 5 (.alt 6 (.alt 7 (.done) (.done)) (.done)))) (.alt 6 (.alt 1 (.op 4 (.op 5 (.alt 7 (.done) (.done)))) (.done)) (.done)))))),(14,[0,1,0,4,0,16,0,64,0,256,960,2032,4095,8191],.op 0 (.op 2 (.op 4 (.op 6 (.op 7 (.op 8 (.op 9 (.op 10 (.alt 1 (.alt 3 (.alt 5 (.alt 11 (.op 12 (.alt 13 (.done) (.done))) (.done)) (.done)) (.alt 5 (.alt 3 (.alt 11 (.op 12 (.alt 13 (.done) (.done))) (.done)) (.alt 11 (.alt 3 (.op 12 (.alt 13 (.done) (.done))) (.done)) (.done))) (.done))) (.alt 3 (.alt 1 (.alt 5 (.alt 11 (.op 12 (.alt 13 (.done) (.done))) (.done)) (.done)) (.alt 5 (.alt 1 (.alt 11 (.op 12 (.alt 13 (.done) (.done))) (.done)) (.alt 11 (.alt 1 (.op 12 (.alt 13 (.done) (.done))) (.done)) (.done))) (.done))) (.alt 5 (.alt 1 (.alt 3 (.alt 11 (.op 12 (.alt 13 (.done) (.done))) (.done)) (.alt 11 (.alt 3 (.op 12 (.alt 13 (.done) (.done))) (.done)) (.done))) (.alt 3 (.alt 1 (.alt 11 (.op 12 (.alt 13 (.done) (.done))) (.done)) (.alt 11 (.alt 1 (.op 12 (.alt 13 (.done) (.done))) (.done)) (.done))) (.alt 11 (.alt 1 (.alt 3 (.op 12 (.alt 13 (.done) (.done))) (.done)) (.alt 3 (.alt 1 (.op 12 (.alt 13 (.done) (.done))) (.done)) (.done))) (.done)))) (.done)))))))))))),(15,[0,1,0,4,0,16,60,124,252,511,1023],.op 0 (.op 1 (.op 2 (.op 3 (.op 4 (.op 5 (.op 6 (.op 7 (.alt 8 (.op 9 (.alt 10 (.done) (.done))) (.done))))))))))]} (fn:=Tryz.f30) Tryz.func30 (by kernel_rfl) (by kernel_rfl) ?_
 rintro ⟨a0,a1,⟨⟩⟩ K ⟨r,h,hK⟩
 change impl_Edit_inverse a0 a1=some r at h
 unfold impl_Edit_inverse at h
 conv=>whnf
 refine vIfD h (fun h=>?_) (fun h=>?_)
 conv=>whnf
 refine ⟨by kernel_rfl,?_⟩
 conv=>whnf
 refine vBind h (fun places0 hb0 h=>?_)
 conv=>whnf
 refine vAt h (fun x0 he1a he1b he1x h=>?_)
 conv=>whnf
 refine ⟨by kernel_rfl,?_⟩
 conv=>whnf
 refine ⟨he1a,he1b,vAgain he1x ?_⟩
 conv=>whnf
 refine vAt h (fun x1 he2a he2b he2x h=>?_)
 conv=>whnf
 cases h
 exact hK
 conv=>whnf
 refine vIfD h (fun h=>?_) (fun h=>?_)
 conv=>whnf
 cases h
 exact hK
 conv=>whnf
 refine vIfD h (fun h=>?_) (fun h=>?_)
 conv=>whnf
 refine vBind h (fun clone0 hb3 h=>?_)
 conv=>whnf
 intro fp4
 conv=>whnf
 intro fp5
 conv=>whnf
 intro fp6
 conv=>whnf
 refine vBind h (fun unbuffer0 hb7 h=>?_)
 conv=>whnf
 intro fp8
 conv=>whnf
 intro fp9
 conv=>whnf
 intro fp10
 conv=>whnf
 refine vAt h (fun x0 he11a he11b he11x h=>?_)
 conv=>whnf
 refine ⟨by kernel_rfl,?_⟩
 conv=>whnf
 refine vBind h (fun placeOf0 hb12 h=>?_)
 conv=>whnf
 cases h
 exact hK
 conv=>whnf
 refine vIfD h (fun h=>?_) (fun h=>?_)
 conv=>whnf
 refine ⟨by kernel_rfl,?_⟩
 conv=>whnf
 refine ⟨?_,?_⟩
 conv=>whnf
 refine vBind h (fun places0 hb13 h=>?_)
 conv=>whnf
 refine vAt h (fun x0 he14a he14b he14x h=>?_)
 conv=>whnf
 refine ⟨by kernel_rfl,?_⟩
 conv=>whnf
 refine ⟨he14a,he14b,vAgain he14x ?_⟩
 conv=>whnf
 refine ⟨by kernel_rfl,?_⟩
 conv=>whnf
 refine ⟨?_,?_⟩
 conv=>whnf
 refine ⟨?_,?_⟩
 conv=>whnf
 refine vBind h (fun nodesOf0 hb15 h=>?_)
 conv=>whnf
 cases h
 exact hK
 obtain ⟨nodesOf0,hb15,h⟩:=Option.bind_eq_some_iff.1 h
 conv=>whnf
 refine ⟨_,hb15,?_⟩
 conv=>whnf
 refine ⟨?_,?_⟩
 conv=>whnf
 cases h
 exact hK
 conv=>whnf
 cases h
 exact hK
 obtain ⟨nodesOf0,hb15,h⟩:=Option.bind_eq_some_iff.1 h
 conv=>whnf
 refine ⟨?_,?_⟩
 conv=>whnf
 refine ⟨?_,?_⟩
 conv=>whnf
 refine ⟨_,hb15,?_⟩
 conv=>whnf
 cases h
 exact hK
 conv=>whnf
 refine ⟨_,hb15,?_⟩
 conv=>whnf
 refine ⟨?_,?_⟩
 conv=>whnf
 cases h
 exact hK
 conv=>whnf
 cases h
 exact hK
 conv=>whnf
 refine ⟨_,hb15,?_⟩
 conv=>whnf
 refine ⟨?_,?_⟩
 conv=>whnf
 refine ⟨?_,?_⟩
 conv=>whnf
 cases h
 exact hK
 conv=>whnf
 cases h
 exact hK
 conv=>whnf
 refine ⟨?_,?_⟩
 conv=>whnf
 refine ⟨?_,?_⟩
 conv=>whnf
 cases h
 exact hK
 conv=>whnf
 cases h
 exact hK
 conv=>whnf
 refine ⟨?_,?_⟩
 conv=>whnf
 cases h
 exact hK
 conv=>whnf
 cases h
 exact hK
 obtain ⟨places0,hb13,h⟩:=Option.bind_eq_some_iff.1 h
 obtain ⟨x0,he14a,he14b,he14x,h⟩:=atE h
 obtain ⟨nodesOf0,hb15,h⟩:=Option.bind_eq_some_iff.1 h
 conv=>whnf
 refine ⟨_,hb13,?_⟩
 conv=>whnf
 refine ⟨he14a,he14b,vAgain he14x ?_⟩
 conv=>whnf
 refine ⟨by kernel_rfl,?_⟩
 conv=>whnf
 refine ⟨he14a,he14b,vAgain he14x ?_⟩
 conv=>whnf
 refine ⟨by kernel_rfl,?_⟩
 conv=>whnf
 refine ⟨?_,?_⟩
 conv=>whnf
 refine ⟨?_,?_⟩
 conv=>whnf
 refine ⟨_,hb15,?_⟩
 conv=>whnf
 cases h
 exact hK
 conv=>whnf
 refine ⟨_,hb15,?_⟩
 conv=>whnf
 refine ⟨?_,?_⟩
 conv=>whnf
 cases h
 exact hK
 conv=>whnf
 cases h
 exact hK
 conv=>whnf
 refine ⟨?_,?_⟩
 conv=>whnf
 refine ⟨?_,?_⟩
 conv=>whnf
 refine ⟨_,hb15,?_⟩
 conv=>whnf
 cases h
 exact hK
 conv=>whnf
 refine ⟨_,hb15,?_⟩
 conv=>whnf
 refine ⟨?_,?_⟩
 conv=>whnf
 cases h
 exact hK
 conv=>whnf
 cases h
 exact hK
 conv=>whnf
 refine ⟨_,hb15,?_⟩
 conv=>whnf
 refine ⟨?_,?_⟩
 conv=>whnf
 refine ⟨?_,?_⟩
 conv=>whnf
 cases h
 exact hK
 conv=>whnf
 cases h
 exact hK
 conv=>whnf
 refine ⟨?_,?_⟩
 conv=>whnf
 refine ⟨?_,?_⟩
 conv=>whnf
 cases h
 exact hK
 conv=>whnf
 cases h
 exact hK
 conv=>whnf
 refine ⟨?_,?_⟩
 conv=>whnf
 cases h
 exact hK
 conv=>whnf
 cases h
 exact hK
 conv=>whnf
 refine ⟨by kernel_rfl,?_⟩
 conv=>whnf
 refine vAt h (fun x0 he16a he16b he16x h=>?_)
 conv=>whnf
 refine vBind h (fun clone0 hb17 h=>?_)
 conv=>whnf
 cases h
 exact hK
theorem w80 (q2:SoundC Tryz.prog 149 c74) (q0:SoundC Tryz.prog 219 c76) (q1:SoundC Tryz.prog 179 c79):SoundC Tryz.prog 200 c80:=by
 refine fn_sound tab_ok (gam_cons q2 (gam_cons q0 (gam_cons q1 gam_nil))) mixed {loops:=[(0,[.reg 3 (.own (.ol 9 (.flat (.str)))),.reg 8 (.dat (.int .i64))])]} (fn:=Tryz.f200) Tryz.func200 (by kernel_rfl) (by kernel_rfl) ?_
 rintro ⟨list0,⟨⟩⟩ K ⟨r,h,hK⟩
 change impl_arePins list0=some r at h
 unfold impl_arePins at h
 conv=>whnf
 refine vLoop h ?_
 rintro I0 μ0 ⟨names0,v0,⟨⟩⟩ zs0 h hI0 hR0
 change impl_arePins_loop0 list0 names0 v0=some zs0 at h
 unfold impl_arePins_loop0 at h
 conv=>whnf
 refine vIfD h (fun h=>?_) (fun h=>?_)
 conv=>whnf
 refine vAt h (fun x0 he1a he1b he1x h=>?_)
 conv=>whnf
 refine vPre h (fun hp2 h=>?_)
 conv=>whnf
 refine vIfD h (fun h=>?_) (fun h=>?_)
 conv=>whnf
 refine vNot ?_
 refine vIfD h (fun h=>?_) (fun h=>?_)
 conv=>whnf
 refine vNot ?_
 refine vIfD h (fun h=>?_) (fun h=>?_)
 conv=>whnf
 refine vIfB h (fun h=>?_) (fun h=>?_)
 conv=>whnf
 cases h
 obtain rfl:=hR0 _ rfl
 exact hK
 conv=>whnf
 cases h
 exact ⟨⟨rfl,rfl⟩,hI0 _ rfl⟩
 conv=>whnf
 cases h
 obtain rfl:=hR0 _ rfl
 exact hK
 conv=>whnf
 cases h
 obtain rfl:=hR0 _ rfl
 exact hK
 conv=>whnf
 refine vNot ?_
 refine vIfD h (fun h=>?_) (fun h=>?_)
 conv=>whnf
 refine vBind h (fun within0 hb3 h=>?_)
 conv=>whnf
 refine vNots ?_
 refine vIfB h (fun h=>?_) (fun h=>?_)
 conv=>whnf
 cases h
 exact ⟨⟨rfl,rfl⟩,hI0 _ rfl⟩
 conv=>whnf
 cases h
 obtain rfl:=hR0 _ rfl
 exact hK
 conv=>whnf
 cases h
 obtain rfl:=hR0 _ rfl
 exact hK
 conv=>whnf
 refine vBind h (fun Pin0 hb4 h=>?_)
 conv=>whnf
 refine vBind h (fun within0 hb5 h=>?_)
 conv=>whnf
 refine vIfB h (fun h=>?_) (fun h=>?_)
 conv=>whnf
 refine vBind h (fun areNames0 hb6 h=>?_)
 conv=>whnf
 cases h
 obtain rfl:=hR0 _ rfl
 exact hK
 conv=>whnf
 cases h
 obtain rfl:=hR0 _ rfl
 exact hK
theorem w83 (q0:SoundC Tryz.prog 149 c74):SoundC Tryz.prog 183 c83:=by
 refine fn_sound tab_ok (gam_cons q0 gam_nil) mixed {} (fn:=Tryz.f183) Tryz.func183 (by kernel_rfl) (by kernel_rfl) ?_
 rintro ⟨n0,a0,a1,⟨⟩⟩ K ⟨r,h,hK⟩
 change impl_areWithin_c1 n0 a0 a1=some r at h
 unfold impl_areWithin_c1 at h
 conv=>whnf
 refine vBind h (fun within0 hb0 h=>?_)
 conv=>whnf
 cases h
 exact hK
theorem w87:SoundC Tryz.prog 254 c87:=by
 refine fn_sound tab_ok gam_nil mixed {loops:=[(0,[.reg 3 (.dat (.int .i64))])],draws:=[(4,[0,0,2,7,15,0,0,96,224,511],.op 0 (.op 1 (.op 2 (.op 3 (.op 4 (.op 5 (.op 6 (.op 7 (.op 8 (.op 9 (.done)))))))))))]} (fn:=Tryz.f254) Tryz.func254 (by kernel_rfl) (by kernel_rfl) ?_
 rintro ⟨list0,⟨⟩⟩ K ⟨r,h,hK⟩
 change impl_isIncreasing list0=some r at h
 unfold impl_isIncreasing at h
 conv=>whnf
 refine vLoop h ?_
 rintro I0 μ0 ⟨i0,⟨⟩⟩ zs0 h hI0 hR0
 change impl_isIncreasing_loop0 list0 i0=some zs0 at h
 unfold impl_isIncreasing_loop0 at h
 conv=>whnf
 refine vIfD h (fun h=>?_) (fun h=>?_)
 conv=>whnf
 refine ⟨by kernel_rfl,?_⟩
 conv=>whnf
 refine vAt h (fun x0 he1a he1b he1x h=>?_)
 conv=>whnf
 refine vAt h (fun x1 he2a he2b he2x h=>?_)
 conv=>whnf
 refine vIfD h (fun h=>?_) (fun h=>?_)
 conv=>whnf
 cases h
 obtain rfl:=hR0 _ rfl
 exact hK
 conv=>whnf
 cases h
 exact ⟨⟨rfl,rfl⟩,hI0 _ rfl⟩
 conv=>whnf
 cases h
 obtain rfl:=hR0 _ rfl
 exact hK
theorem w76:SoundC Tryz.prog 219 c76:=by
 refine fn_sound tab_ok gam_nil mixed {} (fn:=Tryz.f219) Tryz.func219 (by kernel_rfl) (by kernel_rfl) ?_
 rintro ⟨list0,⟨⟩⟩ K ⟨r,h,hK⟩
 change impl_length_impl_Pin list0=some r at h
 unfold impl_length_impl_Pin at h
 conv=>whnf
 cases h
 exact hK
theorem w174 (q0:SoundC Tryz.prog 214 c173):SoundC Tryz.prog 193 c174:=by
 refine fn_sound tab_ok (gam_cons q0 gam_nil) mixed {} (fn:=Tryz.f193) Tryz.func193 (by kernel_rfl) (by kernel_rfl) ?_
 rintro ⟨a0,b0,⟨⟩⟩ K ⟨r,h,hK⟩
 change laws_eqArc a0 b0=some r at h
 unfold laws_eqArc at h
 conv=>whnf
 refine vNots ?_
 refine vIfD h (fun h=>?_) (fun h=>?_)
 conv=>whnf
 refine vNots ?_
 refine vIfD h (fun h=>?_) (fun h=>?_)
 conv=>whnf
 refine vNots ?_
 refine vIfD h (fun h=>?_) (fun h=>?_)
 conv=>whnf
 refine vNots ?_
 refine vIfD h (fun h=>?_) (fun h=>?_)
 conv=>whnf
 refine vBind h (fun eqTableS0 hb0 h=>?_)
 conv=>whnf
 refine vNots ?_
 refine vIfB h (fun h=>?_) (fun h=>?_)
 conv=>whnf
 refine vBind h (fun eqTableS1 hb1 h=>?_)
 conv=>whnf
 refine vNots ?_
 refine vIfB h (fun h=>?_) (fun h=>?_)
 conv=>whnf
 cases h
 exact hK
 conv=>whnf
 cases h
 exact hK
 conv=>whnf
 cases h
 exact hK
 conv=>whnf
 cases h
 exact hK
 conv=>whnf
 cases h
 exact hK
 conv=>whnf
 cases h
 exact hK
 conv=>whnf
 cases h
 exact hK
theorem w169 (q0:SoundC Tryz.prog 31 c168):SoundC Tryz.prog 11 c169:=by
 refine fn_sound tab_ok (gam_cons q0 gam_nil) mixed {} (fn:=Tryz.f11) Tryz.func11 (by kernel_rfl) (by kernel_rfl) ?_
 rintro ⟨a0,b0,⟨⟩⟩ K ⟨r,h,hK⟩
 change laws_eqEdit a0 b0=some r at h
 unfold laws_eqEdit at h
 conv=>whnf
 refine vNots ?_
 refine vIfD h (fun h=>?_) (fun h=>?_)
 conv=>whnf
 refine vNots ?_
 refine vIfD h (fun h=>?_) (fun h=>?_)
 conv=>whnf
 refine vNots ?_
 refine vIfD h (fun h=>?_) (fun h=>?_)
 conv=>whnf
 refine vNots ?_
 refine vIfD h (fun h=>?_) (fun h=>?_)
 conv=>whnf
 refine vNots ?_
 refine vIfD h (fun h=>?_) (fun h=>?_)
 conv=>whnf
 refine vNots ?_
 refine vIfD h (fun h=>?_) (fun h=>?_)
 conv=>whnf
 refine vBind h (fun eqWire0 hb0 h=>?_)
 conv=>whnf
 refine vNots ?_
 refine vIfB h (fun h=>?_) (fun h=>?_)
 conv=>whnf
 cases h
 exact hK
 conv=>whnf
 cases h
 exact hK
 conv=>whnf
 cases h
 exact hK
 conv=>whnf
 cases h
 exact hK
 conv=>whnf
 cases h
 exact hK
 conv=>whnf
 cases h
 exact hK
 conv=>whnf
 cases h
 exact hK
 conv=>whnf
 cases h
 exact hK
theorem w167:SoundC Tryz.prog 71 c167:=by
 refine fn_sound tab_ok gam_nil mixed {loops:=[(0,[.reg 5 (.dat (.int .i64))])],draws:=[(6,[0,0,3,7,0,0,48,112,255],.op 0 (.op 1 (.op 2 (.op 3 (.op 4 (.op 5 (.op 6 (.op 7 (.op 8 (.done))))))))))]} (fn:=Tryz.f71) Tryz.func71 (by kernel_rfl) (by kernel_rfl) ?_
 rintro ⟨a0,b0,⟨⟩⟩ K ⟨r,h,hK⟩
 change laws_eqInt64S a0 b0=some r at h
 unfold laws_eqInt64S at h
 conv=>whnf
 refine vNots ?_
 refine vIfD h (fun h=>?_) (fun h=>?_)
 conv=>whnf
 refine vLoop h ?_
 rintro I0 μ0 ⟨i0,⟨⟩⟩ zs0 h hI0 hR0
 change laws_eqInt64S_loop0 a0 b0 i0=some zs0 at h
 unfold laws_eqInt64S_loop0 at h
 conv=>whnf
 refine vIfD h (fun h=>?_) (fun h=>?_)
 conv=>whnf
 refine ⟨by kernel_rfl,?_⟩
 conv=>whnf
 refine vAt h (fun x0 he1a he1b he1x h=>?_)
 conv=>whnf
 refine vAt h (fun x1 he2a he2b he2x h=>?_)
 conv=>whnf
 refine vNots ?_
 refine vIfD h (fun h=>?_) (fun h=>?_)
 conv=>whnf
 cases h
 exact ⟨⟨rfl,rfl⟩,hI0 _ rfl⟩
 conv=>whnf
 cases h
 obtain rfl:=hR0 _ rfl
 exact hK
 conv=>whnf
 cases h
 obtain rfl:=hR0 _ rfl
 exact hK
 conv=>whnf
 cases h
 exact hK
theorem w178 (q0:SoundC Tryz.prog 72 c177):SoundC Tryz.prog 32 c178:=by
 refine fn_sound tab_ok (gam_cons q0 gam_nil) mixed {} (fn:=Tryz.f32) Tryz.func32 (by kernel_rfl) (by kernel_rfl) ?_
 rintro ⟨a0,b0,⟨⟩⟩ K ⟨r,h,hK⟩
 change laws_eqLibrary a0 b0=some r at h
 unfold laws_eqLibrary at h
 conv=>whnf
 refine vBind h (fun eqCellS0 hb0 h=>?_)
 conv=>whnf
 refine vNots ?_
 refine vIfB h (fun h=>?_) (fun h=>?_)
 conv=>whnf
 cases h
 exact hK
 conv=>whnf
 cases h
 exact hK
theorem w185 (q0:SoundC Tryz.prog 31 c168):SoundC Tryz.prog 34 c185:=by
 refine fn_sound tab_ok (gam_cons q0 gam_nil) mixed {loops:=[(0,[.reg 5 (.dat (.int .i64))])],draws:=[(6,[0,0,3,7,0,0,48,112,255,511],.op 0 (.op 1 (.op 2 (.op 3 (.op 4 (.op 5 (.op 6 (.op 7 (.alt 8 (.op 9 (.done)) (.done))))))))))]} (fn:=Tryz.f34) Tryz.func34 (by kernel_rfl) (by kernel_rfl) ?_
 rintro ⟨a0,b0,⟨⟩⟩ K ⟨r,h,hK⟩
 change laws_eqWireS a0 b0=some r at h
 unfold laws_eqWireS at h
 conv=>whnf
 refine vNots ?_
 refine vIfD h (fun h=>?_) (fun h=>?_)
 conv=>whnf
 refine vLoop h ?_
 rintro I0 μ0 ⟨i0,⟨⟩⟩ zs0 h hI0 hR0
 change laws_eqWireS_loop0 a0 b0 i0=some zs0 at h
 unfold laws_eqWireS_loop0 at h
 conv=>whnf
 refine vIfD h (fun h=>?_) (fun h=>?_)
 conv=>whnf
 refine ⟨by kernel_rfl,?_⟩
 conv=>whnf
 refine vAt h (fun x0 he1a he1b he1x h=>?_)
 conv=>whnf
 refine vAt h (fun x1 he2a he2b he2x h=>?_)
 conv=>whnf
 refine vBind h (fun eqWire0 hb3 h=>?_)
 conv=>whnf
 refine vNots ?_
 refine vIfB h (fun h=>?_) (fun h=>?_)
 conv=>whnf
 cases h
 exact ⟨⟨rfl,rfl⟩,hI0 _ rfl⟩
 conv=>whnf
 cases h
 obtain rfl:=hR0 _ rfl
 exact hK
 conv=>whnf
 cases h
 obtain rfl:=hR0 _ rfl
 exact hK
 conv=>whnf
 cases h
 exact hK
theorem w196 (q0:SoundC Tryz.prog 124 c187):SoundC Tryz.prog 79 c196:=by
 refine fn_sound tabD_ok (gam_cons q0 gam_nil) mixed {loops:=[(0,[.reg 1 (.dat (.int .i64)),.reg 5 (.dat (.int .i64)),.ent 0 (nat_lit 154) (.flat tPort)])]} (fn:=Tryz.f79) Tryz.func79 (by kernel_rfl) (by kernel_rfl) ?_
 rintro ⟨a0,k0,⟨⟩⟩ K ⟨r,h,hK⟩
 change laws_markPortS a0 k0=some r at h
 unfold laws_markPortS at h
 conv=>whnf
 refine vLoop h ?_
 rintro I0 μ0 ⟨k1,i0,l0,⟨⟩⟩ zs0 h hI0 hR0
 change laws_markPortS_loop0 k1 i0 l0=some zs0 at h
 unfold laws_markPortS_loop0 at h
 conv=>whnf
 refine vIfD h (fun h=>?_) (fun h=>?_)
 conv=>whnf
 refine vBind h (fun markText0 hb1 h=>?_)
 conv=>whnf
 refine vAt h (fun x0 he2a he2b he2x h=>?_)
 conv=>whnf
 refine ⟨by kernel_rfl,?_⟩
 conv=>whnf
 refine ⟨by decide,?_⟩
 conv=>whnf
 refine ⟨he2a,he2b,vAgain he2x ?_⟩
 conv=>whnf
 refine vAt h (fun x1 he3a he3b he3x h=>?_)
 conv=>whnf
 refine ⟨by kernel_rfl,?_⟩
 conv=>whnf
 refine ⟨by decide,?_⟩
 conv=>whnf
 refine ⟨he3a,he3b,vAgain he3x ?_⟩
 conv=>whnf
 refine vAt h (fun x2 he4a he4b he4x h=>?_)
 conv=>whnf
 refine ⟨by kernel_rfl,?_⟩
 conv=>whnf
 refine ⟨by decide,?_⟩
 conv=>whnf
 refine ⟨he4a,he4b,vAgain he4x ?_⟩
 conv=>whnf
 cases h
 exact ⟨⟨rfl,rfl⟩,hI0 _ rfl⟩
 conv=>whnf
 cases h
 obtain rfl:=hR0 _ rfl
 exact hK
theorem w18 (q0:SoundC Tryz.prog 19 c9) (q1:SoundC Tryz.prog 20 c15) (q2:SoundC Tryz.prog 21 c17):SoundC Tryz.prog 5 c18:=by
 refine fn_sound tab_ok (gam_cons q0 (gam_cons q1 (gam_cons q2 gam_nil))) mixed {} (fn:=Tryz.f5) Tryz.func5 (by kernel_rfl) (by kernel_rfl) ?_
 rintro ⟨a0,left0,⟨⟩⟩ K ⟨r,h,hK⟩
 change laws_szBlock a0 left0=some r at h
 unfold laws_szBlock at h
 conv=>whnf
 refine vBind h (fun szLibrary0 hb0 h=>?_)
 conv=>whnf
 refine vIfD h (fun h=>?_) (fun h=>?_)
 conv=>whnf
 cases h
 exact hK
 conv=>whnf
 refine vBind h (fun szDesign0 hb1 h=>?_)
 conv=>whnf
 refine vIfD h (fun h=>?_) (fun h=>?_)
 conv=>whnf
 cases h
 exact hK
 conv=>whnf
 refine vBind h (fun szWireS0 hb2 h=>?_)
 conv=>whnf
 refine vIfD h (fun h=>?_) (fun h=>?_)
 conv=>whnf
 cases h
 exact hK
 conv=>whnf
 cases h
 exact hK
theorem w19 (q0:SoundC Tryz.prog 22 c16):SoundC Tryz.prog 6 c19:=by
 refine fn_sound tab_ok (gam_cons q0 gam_nil) mixed {} (fn:=Tryz.f6) Tryz.func6 (by kernel_rfl) (by kernel_rfl) ?_
 rintro ⟨a0,left0,⟨⟩⟩ K ⟨r,h,hK⟩
 change laws_szEdit a0 left0=some r at h
 unfold laws_szEdit at h
 conv=>whnf
 refine vIfD h (fun h=>?_) (fun h=>?_)
 conv=>whnf
 cases h
 exact hK
 conv=>whnf
 refine vBind h (fun szWire0 hb0 h=>?_)
 conv=>whnf
 refine vIfD h (fun h=>?_) (fun h=>?_)
 conv=>whnf
 cases h
 exact hK
 conv=>whnf
 cases h
 exact hK
theorem w10 (q0:SoundC Tryz.prog 49 c2):SoundC Tryz.prog 95 c10:=by
 refine fn_sound tab_ok (gam_cons q0 gam_nil) mixed {} (fn:=Tryz.f95) Tryz.func95 (by kernel_rfl) (by kernel_rfl) ?_
 rintro ⟨a0,left0,⟨⟩⟩ K ⟨r,h,hK⟩
 change laws_szInstance a0 left0=some r at h
 unfold laws_szInstance at h
 conv=>whnf
 refine vIfD h (fun h=>?_) (fun h=>?_)
 conv=>whnf
 cases h
 exact hK
 conv=>whnf
 refine vBind h (fun szInt64S0 hb0 h=>?_)
 conv=>whnf
 refine vIfD h (fun h=>?_) (fun h=>?_)
 conv=>whnf
 cases h
 exact hK
 conv=>whnf
 cases h
 exact hK
theorem w0:SoundC Tryz.prog 173 c0:=by
 refine fn_sound tab_ok gam_nil mixed {} (fn:=Tryz.f173) Tryz.func173 (by kernel_rfl) (by kernel_rfl) ?_
 rintro ⟨a0,left0,⟨⟩⟩ K ⟨r,h,hK⟩
 change laws_szPin a0 left0=some r at h
 unfold laws_szPin at h
 conv=>whnf
 refine vIfD h (fun h=>?_) (fun h=>?_)
 conv=>whnf
 cases h
 exact hK
 conv=>whnf
 cases h
 exact hK
theorem w1 (q0:SoundC Tryz.prog 173 c0):SoundC Tryz.prog 133 c1:=by
 refine fn_sound tab_ok (gam_cons q0 gam_nil) mixed {loops:=[(0,[.reg 1 (.dat (.int .i64)),.reg 5 (.dat (.int .i64))])]} (fn:=Tryz.f133) Tryz.func133 (by kernel_rfl) (by kernel_rfl) ?_
 rintro ⟨a0,left0,⟨⟩⟩ K ⟨r,h,hK⟩
 change laws_szPinS a0 left0=some r at h
 unfold laws_szPinS at h
 conv=>whnf
 refine vIfD h (fun h=>?_) (fun h=>?_)
 conv=>whnf
 cases h
 exact hK
 conv=>whnf
 refine vLoop h ?_
 rintro I0 μ0 ⟨left1,i0,⟨⟩⟩ zs0 h hI0 hR0
 change laws_szPinS_loop0 a0 left1 i0=some zs0 at h
 unfold laws_szPinS_loop0 at h
 conv=>whnf
 refine vIfD h (fun h=>?_) (fun h=>?_)
 conv=>whnf
 refine vAt h (fun x0 he1a he1b he1x h=>?_)
 conv=>whnf
 refine vBind h (fun szPin0 hb2 h=>?_)
 conv=>whnf
 refine vIfD h (fun h=>?_) (fun h=>?_)
 conv=>whnf
 cases h
 obtain rfl:=hR0 _ rfl
 exact hK
 conv=>whnf
 cases h
 exact ⟨⟨rfl,rfl⟩,hI0 _ rfl⟩
 conv=>whnf
 cases h
 obtain rfl:=hR0 _ rfl
 exact hK
theorem w20:SoundC Tryz.prog 176 c20:=by
 refine fn_sound tab_ok gam_nil mixed {} (fn:=Tryz.f176) Tryz.func176 (by kernel_rfl) (by kernel_rfl) ?_
 rintro ⟨a0,⟨⟩⟩ K ⟨r,h,hK⟩
 change laws_toPin a0=some r at h
 unfold laws_toPin at h
 conv=>whnf
 cases h
 exact hK
theorem w37 (q0:SoundC Tryz.prog 28 c36):SoundC Tryz.prog 27 c37:=by
 refine fn_sound tabD_ok (gam_cons q0 gam_nil) mixed {loops:=[(0,[.reg 4 (.dat (.int .i64)),.ent 0 (nat_lit 40) dWire])]} (fn:=Tryz.f27) Tryz.func27 (by kernel_rfl) (by kernel_rfl) ?_
 rintro ⟨a0,⟨⟩⟩ K ⟨r,h,hK⟩
 change laws_toWireS a0=some r at h
 unfold laws_toWireS at h
 conv=>whnf
 refine vPre h (fun hp0 h=>?_)
 conv=>whnf
 refine vPre h (fun hp1 h=>?_)
 conv=>whnf
 refine vPre h (fun hp2 h=>?_)
 conv=>whnf
 refine vPre h (fun hp3 h=>?_)
 conv=>whnf
 intro fp4
 conv=>whnf
 refine vLoop h ?_
 rintro I5 μ5 ⟨i0,l0,⟨⟩⟩ zs5 h hI5 hR5
 change laws_toWireS_loop0 a0 i0 l0=some zs5 at h
 unfold laws_toWireS_loop0 at h
 conv=>whnf
 intro fp6
 conv=>whnf
 refine vIfD h (fun h=>?_) (fun h=>?_)
 conv=>whnf
 refine vAt h (fun x0 he7a he7b he7x h=>?_)
 conv=>whnf
 refine vBind h (fun toWire0 hb8 h=>?_)
 conv=>whnf
 refine vAt h (fun x1 he9a he9b he9x h=>?_)
 conv=>whnf
 refine ⟨he9a,he9b,vAgain he9x ?_⟩
 conv=>whnf
 intro fp10
 conv=>whnf
 cases h
 exact ⟨⟨rfl,rfl⟩,hI5 _ rfl⟩
 conv=>whnf
 cases h
 obtain rfl:=hR5 _ rfl
 exact hK
theorem w148:SoundC Tryz.prog 163 c148:=by
 refine fn_sound tab_ok gam_nil mixed {} (fn:=Tryz.f163) Tryz.func163 (by kernel_rfl) (by kernel_rfl) ?_
 rintro ⟨s0,⟨⟩⟩ K ⟨r,h,hK⟩
 change slices_Clone_Simpl_Arc_impl_Arc s0=some r at h
 unfold slices_Clone_Simpl_Arc_impl_Arc at h
 conv=>whnf
 refine ⟨fun hd=>?_,?_⟩
 have h:=vSame (T:=(some ([]:List TArc))) h (by simp [hd,guardO])
 conv=>whnf
 cases h
 exact hK
 conv=>whnf
 refine vPre h (fun hp0 h=>?_)
 conv=>whnf
 cases h
 exact hK
theorem w118 (q0:SoundC Tryz.prog 204 c117):SoundC Tryz.prog 180 c118:=by
 refine fn_sound tab_ok (gam_cons q0 gam_nil) mixed {} (fn:=Tryz.f180) Tryz.func180 (by kernel_rfl) (by kernel_rfl) ?_
 rintro ⟨s0,f0,⟨⟩⟩ K ⟨r,h,hK⟩
 change slices_ContainsFunc_Sint64_int64_at_impl_Design_isInstance_c1 s0 f0=some r at h
 unfold slices_ContainsFunc_Sint64_int64_at_impl_Design_isInstance_c1 at h
 conv=>whnf
 refine vBind h (fun c1_0 hb0 h=>?_)
 conv=>whnf
 cases h
 exact hK
theorem w102 (q0:SoundC Tryz.prog 222 c101):SoundC Tryz.prog 236 c102:=by
 refine fn_sound tab_ok (gam_cons q0 gam_nil) mixed {loops:=[(0,[.reg 8 (.dat (.int .i64))])]} (fn:=Tryz.f236) Tryz.func236 (by kernel_rfl) (by kernel_rfl) ?_
 rintro ⟨s0,f0,⟨⟩⟩ K ⟨r,h,hK⟩
 change slices_IndexFunc_Simpl_Arc_impl_Arc_at_impl_Cell_areArcs_c1 s0 f0=some r at h
 unfold slices_IndexFunc_Simpl_Arc_impl_Arc_at_impl_Cell_areArcs_c1 at h
 conv=>whnf
 refine vLoop h ?_
 rintro I0 μ0 ⟨v0,⟨⟩⟩ zs0 h hI0 hR0
 change slices_IndexFunc_Simpl_Arc_impl_Arc_at_impl_Cell_areArcs_c1_loop0 s0 f0 v0=some zs0 at h
 unfold slices_IndexFunc_Simpl_Arc_impl_Arc_at_impl_Cell_areArcs_c1_loop0 at h
 conv=>whnf
 refine vIfD h (fun h=>?_) (fun h=>?_)
 conv=>whnf
 refine vAt h (fun x0 he1a he1b he1x h=>?_)
 conv=>whnf
 refine vBind h (fun c1_0 hb2 h=>?_)
 conv=>whnf
 refine vIfB h (fun h=>?_) (fun h=>?_)
 conv=>whnf
 cases h
 obtain rfl:=hR0 _ rfl
 exact hK
 conv=>whnf
 cases h
 exact ⟨⟨rfl,rfl⟩,hI0 _ rfl⟩
 conv=>whnf
 cases h
 obtain rfl:=hR0 _ rfl
 exact hK
theorem w139 (q0:SoundC Tryz.prog 190 c138):SoundC Tryz.prog 189 c139:=by
 refine fn_sound tab_ok (gam_cons q0 gam_nil) mixed {loops:=[(0,[.reg 8 (.dat (.int .i64))])]} (fn:=Tryz.f189) Tryz.func189 (by kernel_rfl) (by kernel_rfl) ?_
 rintro ⟨s0,f0,⟨⟩⟩ K ⟨r,h,hK⟩
 change slices_IndexFunc_Simpl_Instance_impl_Instance_at_impl_InstanceNamed_c1 s0 f0=some r at h
 unfold slices_IndexFunc_Simpl_Instance_impl_Instance_at_impl_InstanceNamed_c1 at h
 conv=>whnf
 refine vLoop h ?_
 rintro I0 μ0 ⟨v0,⟨⟩⟩ zs0 h hI0 hR0
 change slices_IndexFunc_Simpl_Instance_impl_Instance_at_impl_InstanceNamed_c1_loop0 s0 f0 v0=some zs0 at h
 unfold slices_IndexFunc_Simpl_Instance_impl_Instance_at_impl_InstanceNamed_c1_loop0 at h
 conv=>whnf
 refine vIfD h (fun h=>?_) (fun h=>?_)
 conv=>whnf
 refine vAt h (fun x0 he1a he1b he1x h=>?_)
 conv=>whnf
 refine vBind h (fun c1_0 hb2 h=>?_)
 conv=>whnf
 refine vIfB h (fun h=>?_) (fun h=>?_)
 conv=>whnf
 cases h
 obtain rfl:=hR0 _ rfl
 exact hK
 conv=>whnf
 cases h
 exact ⟨⟨rfl,rfl⟩,hI0 _ rfl⟩
 conv=>whnf
 cases h
 obtain rfl:=hR0 _ rfl
 exact hK
theorem w121 (q0:SoundC Tryz.prog 147 c120):SoundC Tryz.prog 182 c121:=by
 refine fn_sound tab_ok (gam_cons q0 gam_nil) mixed {loops:=[(0,[.reg 8 (.dat (.int .i64))])]} (fn:=Tryz.f182) Tryz.func182 (by kernel_rfl) (by kernel_rfl) ?_
 rintro ⟨s0,f0,⟨⟩⟩ K ⟨r,h,hK⟩
 change slices_IndexFunc_Sint_int_at_impl_IsDesign_c1 s0 f0=some r at h
 unfold slices_IndexFunc_Sint_int_at_impl_IsDesign_c1 at h
 conv=>whnf
 refine vLoop h ?_
 rintro I0 μ0 ⟨v0,⟨⟩⟩ zs0 h hI0 hR0
 change slices_IndexFunc_Sint_int_at_impl_IsDesign_c1_loop0 s0 v0=some zs0 at h
 unfold slices_IndexFunc_Sint_int_at_impl_IsDesign_c1_loop0 at h
 conv=>whnf
 refine vIfD h (fun h=>?_) (fun h=>?_)
 conv=>whnf
 refine vAt h (fun x0 he1a he1b he1x h=>?_)
 conv=>whnf
 refine vBind h (fun c1_0 hb2 h=>?_)
 conv=>whnf
 refine vIfB h (fun h=>?_) (fun h=>?_)
 conv=>whnf
 cases h
 obtain rfl:=hR0 _ rfl
 exact hK
 conv=>whnf
 cases h
 exact ⟨⟨rfl,rfl⟩,hI0 _ rfl⟩
 conv=>whnf
 cases h
 obtain rfl:=hR0 _ rfl
 exact hK
theorem w90:SoundC Tryz.prog 245 c90:=by
 refine fn_sound tab_ok gam_nil mixed {loops:=[(0,[.reg 3 (.dat (.int .i64)),.reg 4 (.dat (.int .i64))])]} (fn:=Tryz.f245) Tryz.func245 (by kernel_rfl) (by kernel_rfl) ?_
 rintro ⟨x0,⟨⟩⟩ K ⟨r,h,hK⟩
 change slices_Min_Sint64_int64 x0=some r at h
 unfold slices_Min_Sint64_int64 at h
 conv=>whnf
 refine vIfD h (fun h=>?_) (fun h=>?_)
 conv=>whnf
 cases h
 conv=>whnf
 refine vAt h (fun x1 he0a he0b he0x h=>?_)
 conv=>whnf
 refine vLoop h ?_
 rintro I1 μ1 ⟨m0,i0,⟨⟩⟩ zs1 h hI1 hR1
 change slices_Min_Sint64_int64_loop0 x0 m0 i0=some zs1 at h
 unfold slices_Min_Sint64_int64_loop0 at h
 conv=>whnf
 refine vIfD h (fun h=>?_) (fun h=>?_)
 conv=>whnf
 refine vAt h (fun x2 he2a he2b he2x h=>?_)
 conv=>whnf
 cases h
 exact ⟨⟨rfl,rfl⟩,hI1 _ rfl⟩
 conv=>whnf
 cases h
 obtain rfl:=hR1 _ rfl
 exact hK
theorem w62:SoundC Tryz.prog 103 c62:=by
 refine fn_sound tab_ok gam_nil mixed {loops:=[(0,[.reg 5 (.dat (.int .i64))])]} (fn:=Tryz.f103) Tryz.func103 (by kernel_rfl) (by kernel_rfl) ?_
 rintro ⟨d0,name0,⟨⟩⟩ K ⟨r,h,hK⟩
 change spec_InstanceNamed d0 name0=some r at h
 unfold spec_InstanceNamed at h
 conv=>whnf
 refine vLoop h ?_
 rintro I0 μ0 ⟨i0,⟨⟩⟩ zs0 h hI0 hR0
 change spec_InstanceNamed_loop0 d0 name0 i0=some zs0 at h
 unfold spec_InstanceNamed_loop0 at h
 conv=>whnf
 refine vIfD h (fun h=>?_) (fun h=>?_)
 conv=>whnf
 refine vAt h (fun x0 he1a he1b he1x h=>?_)
 conv=>whnf
 refine vIfD h (fun h=>?_) (fun h=>?_)
 conv=>whnf
 cases h
 obtain rfl:=hR0 _ rfl
 exact hK
 conv=>whnf
 cases h
 exact ⟨⟨rfl,rfl⟩,hI0 _ rfl⟩
 conv=>whnf
 cases h
 obtain rfl:=hR0 _ rfl
 exact hK
theorem w73 (q1:SoundC Tryz.prog 23 c68) (q0:SoundC Tryz.prog 24 c72):SoundC Tryz.prog 7 c73:=by
 refine fn_sound tab_ok (gam_cons q1 (gam_cons q0 gam_nil)) mixed {} (fn:=Tryz.f7) Tryz.func7 (by kernel_rfl) (by kernel_rfl) ?_
 rintro ⟨b0,e0,⟨⟩⟩ K ⟨r,h,hK⟩
 change spec_InverseEdit b0 e0=some r at h
 unfold spec_InverseEdit at h
 conv=>whnf
 refine vBind h (fun EditCode0 hb0 h=>?_)
 conv=>whnf
 refine vNots ?_
 refine vIfD h (fun h=>?_) (fun h=>?_)
 conv=>whnf
 refine vBind h (fun l08Inverse0 hb1 h=>?_)
 conv=>whnf
 cases h
 exact hK
 conv=>whnf
 cases h
 exact hK
theorem w50 (q0:SoundC Tryz.prog 175 c49):SoundC Tryz.prog 135 c50:=by
 refine fn_sound tab_ok (gam_cons q0 gam_nil) mixed {loops:=[(0,[.reg 3 (.dat (.int .i64))]),(2,[.reg 4 (.dat (.int .i64))])],draws:=[(9,[0,1,0,7,15,31,0,64,0,448,960,1984,4095],.op 0 (.op 1 (.op 2 (.op 3 (.op 4 (.op 5 (.op 6 (.op 7 (.op 8 (.op 9 (.op 10 (.op 11 (.op 12 (.done))))))))))))))]} (fn:=Tryz.f135) Tryz.func135 (by kernel_rfl) (by kernel_rfl) ?_
 rintro ⟨l0,⟨⟩⟩ K ⟨r,h,hK⟩
 change spec_IsLibrary l0=some r at h
 unfold spec_IsLibrary at h
 conv=>whnf
 refine vLoop h ?_
 rintro I0 μ0 ⟨i0,⟨⟩⟩ zs0 h hI0 hR0
 change spec_IsLibrary_loop1 l0 i0=some zs0 at h
 unfold spec_IsLibrary_loop1 at h
 conv=>whnf
 refine vIfD h (fun h=>?_) (fun h=>?_)
 conv=>whnf
 refine vAt h (fun x0 he1a he1b he1x h=>?_)
 conv=>whnf
 refine vBind h (fun IsCell0 hb2 h=>?_)
 conv=>whnf
 refine vNots ?_
 refine vIfB h (fun h=>?_) (fun h=>?_)
 conv=>whnf
 refine vLoop h ?_
 rintro I3 μ3 ⟨k0,⟨⟩⟩ zs3 h hI3 hR3
 change spec_IsLibrary_loop0 l0 i0 x0 k0=some zs3 at h
 unfold spec_IsLibrary_loop0 at h
 conv=>whnf
 refine vIfD h (fun h=>?_) (fun h=>?_)
 conv=>whnf
 refine ⟨by kernel_rfl,?_⟩
 conv=>whnf
 refine vAt h (fun x1 he4a he4b he4x h=>?_)
 conv=>whnf
 refine ⟨he1a,he1b,vAgain he1x ?_⟩
 conv=>whnf
 refine vIfD h (fun h=>?_) (fun h=>?_)
 conv=>whnf
 cases h
 obtain rfl:=hR3 _ rfl
 obtain rfl:=hR0 _ rfl
 exact hK
 conv=>whnf
 cases h
 exact ⟨⟨rfl,rfl⟩,hI3 _ rfl⟩
 conv=>whnf
 cases h
 obtain rfl:=hR3 _ rfl
 exact ⟨⟨rfl,rfl⟩,hI0 _ rfl⟩
 conv=>whnf
 cases h
 obtain rfl:=hR0 _ rfl
 exact hK
 conv=>whnf
 cases h
 obtain rfl:=hR0 _ rfl
 exact hK
theorem w44 (q0:SoundC Tryz.prog 251 c43) (q1:SoundC Tryz.prog 99 c41):SoundC Tryz.prog 241 c44:=by
 refine fn_sound tab_ok (gam_cons q0 (gam_cons q1 gam_nil)) mixed {loops:=[(0,[.reg 3 (.dat (.int .i64))])]} (fn:=Tryz.f241) Tryz.func241 (by kernel_rfl) (by kernel_rfl) ?_
 rintro ⟨t0,⟨⟩⟩ K ⟨r,h,hK⟩
 change spec_IsTable t0=some r at h
 unfold spec_IsTable at h
 conv=>whnf
 refine vBind h (fun l02Axis0 hb0 h=>?_)
 conv=>whnf
 refine vNot ?_
 refine vIfB h (fun h=>?_) (fun h=>?_)
 conv=>whnf
 refine vBind h (fun l02Axis1 hb1 h=>?_)
 conv=>whnf
 refine vNot ?_
 refine vIfB h (fun h=>?_) (fun h=>?_)
 conv=>whnf
 refine vNots ?_
 refine vIfD h (fun h=>?_) (fun h=>?_)
 conv=>whnf
 refine vLoop h ?_
 rintro I2 μ2 ⟨i0,⟨⟩⟩ zs2 h hI2 hR2
 change spec_IsTable_loop0 t0 i0=some zs2 at h
 unfold spec_IsTable_loop0 at h
 conv=>whnf
 refine vIfD h (fun h=>?_) (fun h=>?_)
 conv=>whnf
 refine vAt h (fun x0 he3a he3b he3x h=>?_)
 conv=>whnf
 refine vBind h (fun l01In0 hb4 h=>?_)
 conv=>whnf
 refine vNots ?_
 refine vIfB h (fun h=>?_) (fun h=>?_)
 conv=>whnf
 cases h
 exact ⟨⟨rfl,rfl⟩,hI2 _ rfl⟩
 conv=>whnf
 cases h
 obtain rfl:=hR2 _ rfl
 exact hK
 conv=>whnf
 cases h
 obtain rfl:=hR2 _ rfl
 exact hK
 conv=>whnf
 cases h
 exact hK
 conv=>whnf
 cases h
 exact hK
 conv=>whnf
 cases h
 exact hK
theorem w56 (q0:SoundC Tryz.prog 99 c41):SoundC Tryz.prog 98 c56:=by
 refine fn_sound tab_ok (gam_cons q0 gam_nil) mixed {loops:=[(0,[.reg 6 (.dat (.int .i64))]),(2,[.reg 7 (.dat (.int .i64))])]} (fn:=Tryz.f98) Tryz.func98 (by kernel_rfl) (by kernel_rfl) ?_
 rintro ⟨a0,a1,⟨⟩⟩ K ⟨r,h,hK⟩
 change spec_IsWire a0 a1=some r at h
 unfold spec_IsWire at h
 conv=>whnf
 refine vIfDs h (fun h=>?_) (fun h=>?_)
 conv=>whnf
 cases h
 exact hK
 conv=>whnf
 refine vIfDs h (fun h=>?_) (fun h=>?_)
 conv=>whnf
 cases h
 exact hK
 conv=>whnf
 refine vNot ?_
 refine vIfD h (fun h=>?_) (fun h=>?_)
 conv=>whnf
 refine vNot ?_
 refine vIfD h (fun h=>?_) (fun h=>?_)
 conv=>whnf
 refine vNots ?_
 refine vIfD h (fun h=>?_) (fun h=>?_)
 conv=>whnf
 refine vLoop h ?_
 rintro I0 μ0 ⟨v0,⟨⟩⟩ zs0 h hI0 hR0
 change spec_IsWire_loop1 a0 v0=some zs0 at h
 unfold spec_IsWire_loop1 at h
 conv=>whnf
 refine vIfD h (fun h=>?_) (fun h=>?_)
 conv=>whnf
 refine vAt h (fun x0 he1a he1b he1x h=>?_)
 conv=>whnf
 refine vBind h (fun l01In0 hb2 h=>?_)
 conv=>whnf
 refine vNot ?_
 refine vIfB h (fun h=>?_) (fun h=>?_)
 conv=>whnf
 refine vAt h (fun x1 he3a he3b he3x h=>?_)
 conv=>whnf
 refine vBind h (fun l01In1 hb4 h=>?_)
 conv=>whnf
 refine vNots ?_
 refine vIfB h (fun h=>?_) (fun h=>?_)
 conv=>whnf
 refine vIfD h (fun h=>?_) (fun h=>?_)
 conv=>whnf
 refine vAt h (fun x2 he5a he5b he5x h=>?_)
 conv=>whnf
 refine vNot ?_
 refine vIfD h (fun h=>?_) (fun h=>?_)
 conv=>whnf
 refine ⟨he3a,he3b,vAgain he3x ?_⟩
 conv=>whnf
 refine vNot ?_
 refine vIfD h (fun h=>?_) (fun h=>?_)
 conv=>whnf
 refine vIfD h (fun h=>?_) (fun h=>?_)
 conv=>whnf
 refine ⟨he5a,he5b,vAgain he5x ?_⟩
 conv=>whnf
 refine vBind h (fun l01In2 hb6 h=>?_)
 conv=>whnf
 refine vNots ?_
 refine vIfB h (fun h=>?_) (fun h=>?_)
 conv=>whnf
 cases h
 exact ⟨⟨rfl,rfl⟩,hI0 _ rfl⟩
 conv=>whnf
 cases h
 obtain rfl:=hR0 _ rfl
 exact hK
 conv=>whnf
 cases h
 exact ⟨⟨rfl,rfl⟩,hI0 _ rfl⟩
 conv=>whnf
 cases h
 obtain rfl:=hR0 _ rfl
 exact hK
 conv=>whnf
 cases h
 obtain rfl:=hR0 _ rfl
 exact hK
 conv=>whnf
 refine vIfD h (fun h=>?_) (fun h=>?_)
 conv=>whnf
 refine vAt h (fun x2 he7a he7b he7x h=>?_)
 conv=>whnf
 refine vBind h (fun l01In2 hb8 h=>?_)
 conv=>whnf
 refine vNots ?_
 refine vIfB h (fun h=>?_) (fun h=>?_)
 conv=>whnf
 cases h
 exact ⟨⟨rfl,rfl⟩,hI0 _ rfl⟩
 conv=>whnf
 cases h
 obtain rfl:=hR0 _ rfl
 exact hK
 conv=>whnf
 cases h
 exact ⟨⟨rfl,rfl⟩,hI0 _ rfl⟩
 conv=>whnf
 cases h
 obtain rfl:=hR0 _ rfl
 exact hK
 conv=>whnf
 cases h
 obtain rfl:=hR0 _ rfl
 exact hK
 conv=>whnf
 refine vLoop h ?_
 rintro I9 μ9 ⟨v1,⟨⟩⟩ zs9 h hI9 hR9
 change spec_IsWire_loop0 a0 v1=some zs9 at h
 unfold spec_IsWire_loop0 at h
 conv=>whnf
 refine vIfD h (fun h=>?_) (fun h=>?_)
 conv=>whnf
 refine vAt h (fun x0 he10a he10b he10x h=>?_)
 conv=>whnf
 refine vBind h (fun l01In0 hb11 h=>?_)
 conv=>whnf
 refine vNots ?_
 refine vIfB h (fun h=>?_) (fun h=>?_)
 conv=>whnf
 cases h
 exact ⟨⟨rfl,rfl⟩,hI9 _ rfl⟩
 conv=>whnf
 cases h
 obtain rfl:=hR9 _ rfl
 obtain rfl:=hR0 _ rfl
 exact hK
 conv=>whnf
 cases h
 obtain rfl:=hR9 _ rfl
 obtain rfl:=hR0 _ rfl
 exact hK
 conv=>whnf
 cases h
 exact hK
 conv=>whnf
 cases h
 exact hK
 conv=>whnf
 cases h
 exact hK
theorem w45 (q0:SoundC Tryz.prog 241 c44):SoundC Tryz.prog 231 c45:=by
 refine fn_sound tab_ok (gam_cons q0 gam_nil) mixed {loops:=[(0,[.reg 5 (.dat (.int .i64)),.cell 2 0 (.int .i64),.cell 2 1 (.int .i64)])],draws:=[(3,[0,1,3,7,0,16,48,112,255,0,1023],.op 0 (.op 1 (.op 2 (.op 3 (.op 4 (.op 5 (.op 6 (.op 7 (.op 8 (.alt 9 (.alt 10 (.done) (.done)) (.done))))))))))),(7,[0,1,0,4,0,28,60,127,255,511],.op 0 (.op 1 (.op 2 (.op 3 (.op 4 (.op 5 (.op 6 (.op 7 (.op 8 (.alt 9 (.done) (.done))))))))))),(8,[0,1,0,4,0,28,60,127,255,511],.op 0 (.op 1 (.op 2 (.op 3 (.op 4 (.op 5 (.op 6 (.op 7 (.op 8 (.alt 9 (.done) (.done)))))))))))]} (fn:=Tryz.f231) Tryz.func231 (by kernel_rfl) (by kernel_rfl) ?_
 rintro ⟨t0,⟨⟩⟩ K ⟨r,h,hK⟩
 change spec_TableBounds t0=some r at h
 unfold spec_TableBounds at h
 conv=>whnf
 refine vBind h (fun IsTable0 hb0 h=>?_)
 conv=>whnf
 refine vNots ?_
 refine vIfB h (fun h=>?_) (fun h=>?_)
 conv=>whnf
 refine ⟨by kernel_rfl,?_⟩
 conv=>whnf
 refine vAt h (fun x0 he1a he1b he1x h=>?_)
 conv=>whnf
 refine ⟨he1a,he1b,vAgain he1x ?_⟩
 conv=>whnf
 refine vLoop h ?_
 rintro I2 μ2 ⟨i0,c0,c1,⟨⟩⟩ zs2 h hI2 hR2
 change spec_TableBounds_loop0 t0 i0 c0 c1=some zs2 at h
 unfold spec_TableBounds_loop0 at h
 conv=>whnf
 refine vIfD h (fun h=>?_) (fun h=>?_)
 conv=>whnf
 refine ⟨by kernel_rfl,?_⟩
 conv=>whnf
 refine vAt h (fun x1 he3a he3b he3x h=>?_)
 conv=>whnf
 refine ⟨by kernel_rfl,?_⟩
 conv=>whnf
 refine ⟨he3a,he3b,vAgain he3x ?_⟩
 conv=>whnf
 cases h
 exact ⟨⟨rfl,rfl⟩,hI2 _ rfl⟩
 conv=>whnf
 cases h
 obtain rfl:=hR2 _ rfl
 exact hK
 conv=>whnf
 cases h
 exact hK
theorem w42 (q0:SoundC Tryz.prog 102 c40) (q1:SoundC Tryz.prog 99 c41):SoundC Tryz.prog 196 c42:=by
 refine fn_sound tab_ok (gam_cons q0 (gam_cons q1 gam_nil)) mixed {loops:=[(0,[.reg 5 (.dat (.int .i64)),.reg 6 (.dat (.int .i64))]),(2,[.reg 8 (.dat (.int .i64))])],draws:=[(12,[0,1,0,7,15,31,0,64,255],.op 0 (.op 1 (.op 2 (.op 3 (.op 4 (.op 5 (.op 6 (.op 7 (.op 8 (.done))))))))))]} (fn:=Tryz.f196) Tryz.func196 (by kernel_rfl) (by kernel_rfl) ?_
 rintro ⟨a0,⟨⟩⟩ K ⟨r,h,hK⟩
 change spec_l03Pins a0=some r at h
 unfold spec_l03Pins at h
 conv=>whnf
 refine vIfDs h (fun h=>?_) (fun h=>?_)
 conv=>whnf
 cases h
 exact hK
 conv=>whnf
 refine vIfD h (fun h=>?_) (fun h=>?_)
 conv=>whnf
 cases h
 exact hK
 conv=>whnf
 refine vLoop h ?_
 rintro I0 μ0 ⟨v0,v1,⟨⟩⟩ zs0 h hI0 hR0
 change spec_l03Pins_loop1 a0 v0 v1=some zs0 at h
 unfold spec_l03Pins_loop1 at h
 conv=>whnf
 refine vIfD h (fun h=>?_) (fun h=>?_)
 conv=>whnf
 refine vAt h (fun x0 he1a he1b he1x h=>?_)
 conv=>whnf
 refine vLoop h ?_
 rintro I2 μ2 ⟨v2,⟨⟩⟩ zs2 h hI2 hR2
 change spec_l03Pins_loop0 a0 v0 v1 x0 v2=some zs2 at h
 unfold spec_l03Pins_loop0 at h
 conv=>whnf
 refine vIfD h (fun h=>?_) (fun h=>?_)
 conv=>whnf
 refine ⟨by kernel_rfl,?_⟩
 conv=>whnf
 refine vAt h (fun x1 he3a he3b he3x h=>?_)
 conv=>whnf
 refine vIfD h (fun h=>?_) (fun h=>?_)
 conv=>whnf
 cases h
 obtain rfl:=hR2 _ rfl
 obtain rfl:=hR0 _ rfl
 exact hK
 conv=>whnf
 cases h
 exact ⟨⟨rfl,rfl⟩,hI2 _ rfl⟩
 conv=>whnf
 refine vBind h (fun l03Name0 hb4 h=>?_)
 conv=>whnf
 refine vNot ?_
 refine vIfB h (fun h=>?_) (fun h=>?_)
 conv=>whnf
 refine vBind h (fun l01In0 hb5 h=>?_)
 conv=>whnf
 refine vNots ?_
 refine vIfB h (fun h=>?_) (fun h=>?_)
 conv=>whnf
 refine vIfD h (fun h=>?_) (fun h=>?_)
 conv=>whnf
 refine vNot ?_
 refine vIfD h (fun h=>?_) (fun h=>?_)
 conv=>whnf
 refine vNot ?_
 refine vIfD h (fun h=>?_) (fun h=>?_)
 conv=>whnf
 refine vIfBs h (fun h=>?_) (fun h=>?_)
 conv=>whnf
 cases h
 obtain rfl:=hR2 _ rfl
 obtain rfl:=hR0 _ rfl
 exact hK
 conv=>whnf
 refine vIfD h (fun h=>?_) (fun h=>?_)
 conv=>whnf
 refine vNots ?_
 refine vIfD h (fun h=>?_) (fun h=>?_)
 conv=>whnf
 refine vIfB h (fun h=>?_) (fun h=>?_)
 conv=>whnf
 cases h
 obtain rfl:=hR2 _ rfl
 exact ⟨⟨rfl,rfl⟩,hI0 _ rfl⟩
 conv=>whnf
 cases h
 obtain rfl:=hR2 _ rfl
 exact ⟨⟨rfl,rfl⟩,hI0 _ rfl⟩
 conv=>whnf
 cases h
 obtain rfl:=hR2 _ rfl
 obtain rfl:=hR0 _ rfl
 exact hK
 conv=>whnf
 refine vIfB h (fun h=>?_) (fun h=>?_)
 conv=>whnf
 cases h
 obtain rfl:=hR2 _ rfl
 exact ⟨⟨rfl,rfl⟩,hI0 _ rfl⟩
 conv=>whnf
 cases h
 obtain rfl:=hR2 _ rfl
 exact ⟨⟨rfl,rfl⟩,hI0 _ rfl⟩
 conv=>whnf
 cases h
 obtain rfl:=hR2 _ rfl
 obtain rfl:=hR0 _ rfl
 exact hK
 conv=>whnf
 cases h
 obtain rfl:=hR2 _ rfl
 obtain rfl:=hR0 _ rfl
 exact hK
 conv=>whnf
 refine vIfD h (fun h=>?_) (fun h=>?_)
 conv=>whnf
 refine vNots ?_
 refine vIfD h (fun h=>?_) (fun h=>?_)
 conv=>whnf
 refine vIfB h (fun h=>?_) (fun h=>?_)
 conv=>whnf
 cases h
 obtain rfl:=hR2 _ rfl
 exact ⟨⟨rfl,rfl⟩,hI0 _ rfl⟩
 conv=>whnf
 cases h
 obtain rfl:=hR2 _ rfl
 exact ⟨⟨rfl,rfl⟩,hI0 _ rfl⟩
 conv=>whnf
 cases h
 obtain rfl:=hR2 _ rfl
 obtain rfl:=hR0 _ rfl
 exact hK
 conv=>whnf
 refine vIfB h (fun h=>?_) (fun h=>?_)
 conv=>whnf
 cases h
 obtain rfl:=hR2 _ rfl
 exact ⟨⟨rfl,rfl⟩,hI0 _ rfl⟩
 conv=>whnf
 cases h
 obtain rfl:=hR2 _ rfl
 exact ⟨⟨rfl,rfl⟩,hI0 _ rfl⟩
 conv=>whnf
 cases h
 obtain rfl:=hR2 _ rfl
 obtain rfl:=hR0 _ rfl
 exact hK
 conv=>whnf
 cases h
 obtain rfl:=hR2 _ rfl
 obtain rfl:=hR0 _ rfl
 exact hK
 conv=>whnf
 cases h
 obtain rfl:=hR0 _ rfl
 exact hK
theorem w63:SoundC Tryz.prog 138 c63:=by
 refine fn_sound tab_ok gam_nil mixed {loops:=[(0,[.reg 5 (.dat (.int .i64))])]} (fn:=Tryz.f138) Tryz.func138 (by kernel_rfl) (by kernel_rfl) ?_
 rintro ⟨list0,word0,⟨⟩⟩ K ⟨r,h,hK⟩
 change spec_l04Index list0 word0=some r at h
 unfold spec_l04Index at h
 conv=>whnf
 refine vLoop h ?_
 rintro I0 μ0 ⟨i0,⟨⟩⟩ zs0 h hI0 hR0
 change spec_l04Index_loop0 list0 word0 i0=some zs0 at h
 unfold spec_l04Index_loop0 at h
 conv=>whnf
 refine vIfD h (fun h=>?_) (fun h=>?_)
 conv=>whnf
 refine vAt h (fun x0 he1a he1b he1x h=>?_)
 conv=>whnf
 refine vIfD h (fun h=>?_) (fun h=>?_)
 conv=>whnf
 cases h
 obtain rfl:=hR0 _ rfl
 exact hK
 conv=>whnf
 cases h
 exact ⟨⟨rfl,rfl⟩,hI0 _ rfl⟩
 conv=>whnf
 cases h
 obtain rfl:=hR0 _ rfl
 exact hK
theorem w54:SoundC Tryz.prog 54 c54:=by
 refine fn_sound tab_ok gam_nil mixed {loops:=[(0,[.reg 3 (.own (.ol 98 (.flat (tl05Place)))),.reg 4 (.dat (.int .i64))]),(2,[.reg 3 (.own (.ol 98 (.flat (tl05Place)))),.reg 6 (.dat (.int .i64))]),(4,[.reg 3 (.own (.ol 98 (.flat (tl05Place)))),.reg 7 (.dat (.int .i64))])],draws:=[(13,[0,0,0,4,0,28,60,124,0,256,0,1792,3840,7936,16128,32766,65534,131071,262143],.op 0 (.op 1 (.op 2 (.op 3 (.op 4 (.op 5 (.op 6 (.op 7 (.op 8 (.op 9 (.op 10 (.op 11 (.op 12 (.op 13 (.op 14 (.op 15 (.alt 16 (.alt 17 (.op 18 (.done)) (.done)) (.done))))))))))))))))))]} (fn:=Tryz.f54) Tryz.func54 (by kernel_rfl) (by kernel_rfl) ?_
 rintro ⟨a0,⟨⟩⟩ K ⟨r,h,hK⟩
 change spec_l05Places a0=some r at h
 unfold spec_l05Places at h
 conv=>whnf
 refine vLoop h ?_
 rintro I0 μ0 ⟨v0,v1,⟨⟩⟩ zs0 h hI0 hR0
 change spec_l05Places_loop2 a0 v0 v1=some zs0 at h
 unfold spec_l05Places_loop2 at h
 conv=>whnf
 refine vIfD h (fun h=>?_) (fun h=>?_)
 conv=>whnf
 refine vAt h (fun x0 he1a he1b he1x h=>?_)
 conv=>whnf
 refine vLoop h ?_
 rintro I2 μ2 ⟨v2,v3,⟨⟩⟩ zs2 h hI2 hR2
 change spec_l05Places_loop0 v1 x0 v2 v3=some zs2 at h
 unfold spec_l05Places_loop0 at h
 conv=>whnf
 refine vIfD h (fun h=>?_) (fun h=>?_)
 conv=>whnf
 refine vAt h (fun x1 he3a he3b he3x h=>?_)
 conv=>whnf
 refine vPre h (fun hp4 h=>?_)
 conv=>whnf
 cases h
 exact ⟨⟨rfl,rfl⟩,hI2 _ rfl⟩
 conv=>whnf
 cases h
 obtain rfl:=hR2 _ rfl
 exact ⟨⟨rfl,rfl⟩,hI0 _ rfl⟩
 conv=>whnf
 refine vLoop h ?_
 rintro I5 μ5 ⟨v2,v3,⟨⟩⟩ zs5 h hI5 hR5
 change spec_l05Places_loop1 a0 v2 v3=some zs5 at h
 unfold spec_l05Places_loop1 at h
 conv=>whnf
 refine vIfD h (fun h=>?_) (fun h=>?_)
 conv=>whnf
 refine ⟨by kernel_rfl,?_⟩
 conv=>whnf
 refine vAt h (fun x0 he6a he6b he6x h=>?_)
 conv=>whnf
 refine ⟨he6a,he6b,vAgain he6x ?_⟩
 conv=>whnf
 refine vPre h (fun hp7 h=>?_)
 conv=>whnf
 cases h
 exact ⟨⟨rfl,rfl⟩,hI5 _ rfl⟩
 conv=>whnf
 cases h
 obtain rfl:=hR5 _ rfl
 obtain rfl:=hR0 _ rfl
 exact hK
end Go.Proofs.YtpkjjgdhmafonaaGreatDoor
