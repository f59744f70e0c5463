/-
  The functions keep their contracts, if what they call does. Printed by program.
-/
import Derived.Test.YtpkjjgdhmafonaaGreatDoorM
import Derived.KernelRfl
namespace Go.Proofs.YtpkjjgdhmafonaaGreatDoor
open Go Go.Sx
set_option maxRecDepth 100000
set_option maxHeartbeats 3200000
set_option linter.unusedVariables false
set_option linter.unusedSimpArgs false
theorem w142 (q0:SoundC Tryz.prog 117 c114) (q1:SoundC Tryz.prog 157 c137):SoundC Tryz.prog 161 c142:=by
 refine fn_sound tab_ok (gam_cons q0 (gam_cons q1 gam_nil)) mixed {draws:=[(6,[0,1,3,0,8,31,63,127,255,511,1023,2047,4095,8191,1023,32767,65535,131071,262143,524287,1048575,2097151,262143,8388607,16777215,33554431,67108863,134217727,67108863,536870911,1073741823,67108863,2214592511,8589934591,17179869183],.op 0 (.op 1 (.op 2 (.op 3 (.op 4 (.op 5 (.op 6 (.alt 7 (.op 8 (.op 9 (.op 10 (.op 11 (.op 12 (.op 13 (.op 14 (.op 15 (.op 16 (.op 17 (.op 18 (.op 19 (.op 20 (.op 21 (.op 22 (.op 23 (.op 24 (.op 25 (.op 26 (.op 27 (.op 28 (.op 29 (.op 30 (.op 31 (.op 32 (.op 33 (.op 34 (.done)))))))))))))))))))))))))))) (.done)))))))))]} (fn:=Tryz.f161) Tryz.func161 (by kernel_rfl) (by kernel_rfl) ?_
 rintro ⟨a0,⟨⟩⟩ K ⟨r,h,hK⟩
 change impl_Block_canUnbuffer a0=some r at h
 unfold impl_Block_canUnbuffer at h
 conv=>whnf
 refine vIfD h (fun h=>?_) (fun h=>?_)
 conv=>whnf
 cases h
 exact hK
 conv=>whnf
 refine vAt h (fun x0 he0a he0b he0x h=>?_)
 conv=>whnf
 refine vBind h (fun string0 hb1 h=>?_)
 conv=>whnf
 refine ⟨by kernel_rfl,?_⟩
 conv=>whnf
 refine vAt h (fun x1 he2a he2b he2x h=>?_)
 conv=>whnf
 refine vBind h (fun isBuffer0 hb3 h=>?_)
 conv=>whnf
 refine vNot ?_
 refine vIfB h (fun h=>?_) (fun h=>?_)
 conv=>whnf
 refine vAt h (fun x2 he4a he4b he4x h=>?_)
 conv=>whnf
 refine vNot ?_
 refine vIfD h (fun h=>?_) (fun h=>?_)
 conv=>whnf
 refine vAt h (fun x3 he5a he5b he5x h=>?_)
 conv=>whnf
 refine vIfDs h (fun h=>?_) (fun h=>?_)
 conv=>whnf
 cases h
 exact hK
 conv=>whnf
 refine vAt h (fun x4 he6a he6b he6x h=>?_)
 conv=>whnf
 refine vNots ?_
 refine vIfD h (fun h=>?_) (fun h=>?_)
 conv=>whnf
 refine vAt h (fun x5 he7a he7b he7x h=>?_)
 conv=>whnf
 refine vIfD h (fun h=>?_) (fun h=>?_)
 conv=>whnf
 refine vIfD h (fun h=>?_) (fun h=>?_)
 conv=>whnf
 refine vAt h (fun x6 he8a he8b he8x h=>?_)
 conv=>whnf
 cases h
 exact hK
 conv=>whnf
 cases h
 exact hK
 conv=>whnf
 cases h
 exact hK
 conv=>whnf
 cases h
 exact hK
 conv=>whnf
 cases h
 exact hK
 conv=>whnf
 cases h
 exact hK
theorem w116 (q0:SoundC Tryz.prog 145 c115):SoundC Tryz.prog 181 c116:=by
 refine fn_sound tab_ok (gam_cons q0 gam_nil) mixed {} (fn:=Tryz.f181) Tryz.func181 (by kernel_rfl) (by kernel_rfl) ?_
 rintro ⟨net0,a0,⟨⟩⟩ K ⟨r,h,hK⟩
 change impl_Design_isInstance_c1 net0 a0=some r at h
 unfold impl_Design_isInstance_c1 at h
 conv=>whnf
 refine vBind h (fun isNet0 hb0 h=>?_)
 conv=>whnf
 cases h
 exact hK
theorem w141 (q0:SoundC Tryz.prog 191 c77):SoundC Tryz.prog 160 c141:=by
 refine fn_sound tab_ok (gam_cons q0 gam_nil) mixed {} (fn:=Tryz.f160) Tryz.func160 (by kernel_rfl) (by kernel_rfl) ?_
 rintro ⟨d0,name0,⟨⟩⟩ K ⟨r,h,hK⟩
 change impl_Design_netNamed d0 name0=some r at h
 unfold impl_Design_netNamed at h
 conv=>whnf
 refine vBind h (fun string0 hb0 h=>?_)
 conv=>whnf
 cases h
 exact hK
theorem w133 (q7:SoundC Tryz.prog 149 c74) (q5:SoundC Tryz.prog 153 c128) (q6:SoundC Tryz.prog 152 c131) (q2:SoundC Tryz.prog 65 c124) (q0:SoundC Tryz.prog 154 c132) (q1:SoundC Tryz.prog 155 c113) (q3:SoundC Tryz.prog 145 c115) (q4:SoundC Tryz.prog 148 c82):SoundC Tryz.prog 112 c133:=by
 refine fn_sound tab_ok (gam_cons q7 (gam_cons q5 (gam_cons q6 (gam_cons q2 (gam_cons q0 (gam_cons q1 (gam_cons q3 (gam_cons q4 gam_nil)))))))) mixed {draws:=[(1,[0,1,3,7,15,31,31,95,255,511,1023],.op 0 (.op 1 (.alt 2 (.op 3 (.op 4 (.op 5 (.op 6 (.alt 7 (.alt 8 (.op 9 (.op 10 (.done))) (.done)) (.done)))))) (.done)))),(3,[0,1,0,4,12,28,60,127,255],.op 0 (.op 1 (.op 2 (.op 3 (.alt 4 (.alt 5 (.op 6 (.alt 7 (.op 8 (.done)) (.done))) (.done)) (.done)))))),(7,[0,1,3,7,3,19,51,115,243,511,1023,2047],.op 0 (.op 1 (.op 2 (.op 3 (.op 4 (.op 5 (.op 6 (.alt 7 (.op 8 (.alt 9 (.op 10 (.op 11 (.done))) (.done))) (.done))))))))),(9,[0,1,3,7,3,19,63,127,255,511,1023,511,2559,511,8703,31231,63999,129535,260607,522751,1048575,2097151,4194303],.op 0 (.op 1 (.op 2 (.op 3 (.op 4 (.op 5 (.alt 6 (.op 7 (.op 8 (.op 9 (.op 10 (.op 11 (.op 12 (.op 13 (.op 14 (.op 15 (.op 16 (.op 17 (.alt 18 (.op 19 (.alt 20 (.op 21 (.op 22 (.done))) (.done))) (.done))))))))))))) (.done))))))))]} (fn:=Tryz.f112) Tryz.func112 (by kernel_rfl) (by kernel_rfl) ?_
 rintro ⟨a0,a1,⟨⟩⟩ K ⟨r,h,hK⟩
 change impl_Edit_isInRange a0 a1=some r at h
 unfold impl_Edit_isInRange at h
 conv=>whnf
 refine ⟨by kernel_rfl,?_⟩
 conv=>whnf
 refine vBind h (fun within0 hb0 h=>?_)
 conv=>whnf
 refine vNot ?_
 refine vIfB h (fun h=>?_) (fun h=>?_)
 conv=>whnf
 refine vBind h (fun own0 hb1 h=>?_)
 conv=>whnf
 refine vBind h (fun sameEdit0 hb2 h=>?_)
 conv=>whnf
 refine vNots ?_
 refine vIfB h (fun h=>?_) (fun h=>?_)
 conv=>whnf
 refine ⟨by kernel_rfl,?_⟩
 conv=>whnf
 refine vBind h (fun places0 hb3 h=>?_)
 conv=>whnf
 refine vBind h (fun place0 hb4 h=>?_)
 conv=>whnf
 refine vBind h (fun within1 hb5 h=>?_)
 conv=>whnf
 refine vIfD h (fun h=>?_) (fun h=>?_)
 conv=>whnf
 refine vIfD h (fun h=>?_) (fun h=>?_)
 conv=>whnf
 refine ⟨by kernel_rfl,?_⟩
 conv=>whnf
 refine vIfB h (fun h=>?_) (fun h=>?_)
 conv=>whnf
 refine vBind h (fun Cell0 hb6 h=>?_)
 conv=>whnf
 refine vBind h (fun within2 hb7 h=>?_)
 conv=>whnf
 cases h
 exact hK
 conv=>whnf
 cases h
 exact hK
 conv=>whnf
 refine vIfD h (fun h=>?_) (fun h=>?_)
 conv=>whnf
 refine ⟨by kernel_rfl,?_⟩
 conv=>whnf
 refine vIfB h (fun h=>?_) (fun h=>?_)
 conv=>whnf
 refine vBind h (fun isNet0 hb8 h=>?_)
 conv=>whnf
 refine vIfB h (fun h=>?_) (fun h=>?_)
 conv=>whnf
 refine vAt h (fun x0 he9a he9b he9x h=>?_)
 conv=>whnf
 refine vBind h (fun int64_0 hb10 h=>?_)
 conv=>whnf
 refine vBind h (fun within2 hb11 h=>?_)
 conv=>whnf
 cases h
 exact hK
 conv=>whnf
 cases h
 exact hK
 conv=>whnf
 cases h
 exact hK
 conv=>whnf
 refine vIfD h (fun h=>?_) (fun h=>?_)
 conv=>whnf
 refine vBind h (fun isNet0 hb12 h=>?_)
 conv=>whnf
 cases h
 exact hK
 conv=>whnf
 cases h
 exact hK
 conv=>whnf
 refine vIfD h (fun h=>?_) (fun h=>?_)
 conv=>whnf
 refine ⟨by kernel_rfl,?_⟩
 conv=>whnf
 refine vIfB h (fun h=>?_) (fun h=>?_)
 conv=>whnf
 refine vBind h (fun Cell0 hb13 h=>?_)
 conv=>whnf
 refine vBind h (fun within2 hb14 h=>?_)
 conv=>whnf
 cases h
 exact hK
 conv=>whnf
 cases h
 exact hK
 conv=>whnf
 refine vIfD h (fun h=>?_) (fun h=>?_)
 conv=>whnf
 refine ⟨by kernel_rfl,?_⟩
 conv=>whnf
 refine vIfB h (fun h=>?_) (fun h=>?_)
 conv=>whnf
 refine vBind h (fun isNet0 hb15 h=>?_)
 conv=>whnf
 refine vIfB h (fun h=>?_) (fun h=>?_)
 conv=>whnf
 refine vAt h (fun x0 he16a he16b he16x h=>?_)
 conv=>whnf
 refine vBind h (fun int64_0 hb17 h=>?_)
 conv=>whnf
 refine vBind h (fun within2 hb18 h=>?_)
 conv=>whnf
 cases h
 exact hK
 conv=>whnf
 cases h
 exact hK
 conv=>whnf
 cases h
 exact hK
 conv=>whnf
 refine vIfD h (fun h=>?_) (fun h=>?_)
 conv=>whnf
 refine vBind h (fun isNet0 hb19 h=>?_)
 conv=>whnf
 cases h
 exact hK
 conv=>whnf
 cases h
 exact hK
 conv=>whnf
 cases h
 exact hK
 conv=>whnf
 cases h
 exact hK
theorem w166 (q1:SoundC Tryz.prog 29 c145) (q0:SoundC Tryz.prog 30 c165):SoundC Tryz.prog 10 c166:=by
 refine fn_sound tab_ok (gam_cons q1 (gam_cons q0 gam_nil)) mixed {} (fn:=Tryz.f10) Tryz.func10 (by kernel_rfl) (by kernel_rfl) ?_
 rintro ⟨b0,e0,⟨⟩⟩ K ⟨r,h,hK⟩
 change impl_InverseEdit b0 e0=some r at h
 unfold impl_InverseEdit at h
 conv=>whnf
 refine vBind h (fun EditCode0 hb0 h=>?_)
 conv=>whnf
 refine vNots ?_
 refine vIfD h (fun h=>?_) (fun h=>?_)
 conv=>whnf
 refine vBind h (fun inverse0 hb1 h=>?_)
 conv=>whnf
 cases h
 exact hK
 conv=>whnf
 cases h
 exact hK
theorem w127 (q1:SoundC Tryz.prog 110 c123) (q0:SoundC Tryz.prog 65 c124) (q2:SoundC Tryz.prog 111 c126):SoundC Tryz.prog 63 c127:=by
 refine fn_sound tab_ok (gam_cons q1 (gam_cons q0 (gam_cons q2 gam_nil))) mixed {loops:=[(0,[.reg 32 (.dat (.int .i64)),.ent 1 (nat_lit 2) (.flat ti33.ety)]),(2,[.reg 50 (.dat (.int .i64))])],draws:=[(13,[0,0,0,6,14,31,63],.op 0 (.op 1 (.op 2 (.op 3 (.op 4 (.alt 5 (.op 6 (.done)) (.done)))))))]} (fn:=Tryz.f63) Tryz.func63 (by kernel_rfl) (by kernel_rfl) ?_
 rintro ⟨b0,⟨⟩⟩ K ⟨r,h,hK⟩
 change impl_IsBlock b0=some r at h
 unfold impl_IsBlock at h
 conv=>whnf
 refine vBind h (fun IsDesign0 hb0 h=>?_)
 conv=>whnf
 refine vNot ?_
 refine vIfB h (fun h=>?_) (fun h=>?_)
 conv=>whnf
 refine vNots ?_
 refine vIfD h (fun h=>?_) (fun h=>?_)
 conv=>whnf
 refine vPre h (fun hp1 h=>?_)
 conv=>whnf
 refine vPre h (fun hp2 h=>?_)
 conv=>whnf
 refine vPre h (fun hp3 h=>?_)
 conv=>whnf
 refine vPre h (fun hp4 h=>?_)
 conv=>whnf
 refine vBind h (fun places0 hb5 h=>?_)
 conv=>whnf
 refine vLoop h ?_
 rintro I6 μ6 ⟨v0,l0,⟨⟩⟩ zs6 h hI6 hR6
 change impl_IsBlock_loop1 b0 places0 v0 l0=some zs6 at h
 unfold impl_IsBlock_loop1 at h
 conv=>whnf
 refine vIfD h (fun h=>?_) (fun h=>?_)
 conv=>whnf
 refine vAt h (fun x0 he7a he7b he7x h=>?_)
 conv=>whnf
 refine ⟨by kernel_rfl,?_⟩
 conv=>whnf
 refine ⟨he7a,he7b,vAgain he7x ?_⟩
 conv=>whnf
 refine vNots ?_
 refine vIfB h (fun h=>?_) (fun h=>?_)
 conv=>whnf
 cases h
 exact ⟨⟨rfl,rfl⟩,hI6 _ rfl⟩
 conv=>whnf
 refine vAt h (fun x1 he8a he8b he8x h=>?_)
 conv=>whnf
 refine ⟨by kernel_rfl,?_⟩
 conv=>whnf
 refine ⟨he8a,he8b,vAgain he8x ?_⟩
 conv=>whnf
 refine ⟨he8a,he8b,vAgain he8x ?_⟩
 conv=>whnf
 refine ⟨by kernel_rfl,?_⟩
 conv=>whnf
 refine ⟨by decide,?_⟩
 conv=>whnf
 refine ⟨he8a,he8b,vAgain he8x ?_⟩
 conv=>whnf
 cases h
 exact ⟨⟨rfl,rfl⟩,hI6 _ rfl⟩
 conv=>whnf
 refine vLoop h ?_
 rintro I9 μ9 ⟨v1,⟨⟩⟩ zs9 h hI9 hR9
 change impl_IsBlock_loop0 b0 l0 v1=some zs9 at h
 unfold impl_IsBlock_loop0 at h
 conv=>whnf
 refine vIfD h (fun h=>?_) (fun h=>?_)
 conv=>whnf
 refine vAt h (fun x0 he10a he10b he10x h=>?_)
 conv=>whnf
 refine ⟨by kernel_rfl,?_⟩
 conv=>whnf
 refine vAt h (fun x1 he11a he11b he11x h=>?_)
 conv=>whnf
 refine ⟨by kernel_rfl,?_⟩
 conv=>whnf
 refine ⟨he11a,he11b,vAgain he11x ?_⟩
 conv=>whnf
 refine vBind h (fun IsWire0 hb12 h=>?_)
 conv=>whnf
 refine vNots ?_
 refine vIfB h (fun h=>?_) (fun h=>?_)
 conv=>whnf
 cases h
 exact ⟨⟨rfl,rfl⟩,hI9 _ rfl⟩
 conv=>whnf
 cases h
 obtain rfl:=hR9 _ rfl
 obtain rfl:=hR6 _ rfl
 exact hK
 conv=>whnf
 cases h
 obtain rfl:=hR9 _ rfl
 obtain rfl:=hR6 _ rfl
 exact hK
 conv=>whnf
 cases h
 exact hK
 conv=>whnf
 cases h
 exact hK
theorem w110 (q3:SoundC Tryz.prog 158 c75) (q2:SoundC Tryz.prog 200 c80) (q1:SoundC Tryz.prog 201 c104) (q4:SoundC Tryz.prog 149 c74) (q0:SoundC Tryz.prog 202 c109):SoundC Tryz.prog 178 c110:=by
 refine fn_sound tab_ok (gam_cons q3 (gam_cons q2 (gam_cons q1 (gam_cons q4 (gam_cons q0 gam_nil))))) mixed {} (fn:=Tryz.f178) Tryz.func178 (by kernel_rfl) (by kernel_rfl) ?_
 rintro ⟨c0,⟨⟩⟩ K ⟨r,h,hK⟩
 change impl_IsCell c0=some r at h
 unfold impl_IsCell at h
 conv=>whnf
 refine vBind h (fun isName0 hb0 h=>?_)
 conv=>whnf
 refine vIfB h (fun h=>?_) (fun h=>?_)
 conv=>whnf
 refine vBind h (fun arePins0 hb1 h=>?_)
 conv=>whnf
 refine vIfB h (fun h=>?_) (fun h=>?_)
 conv=>whnf
 refine vBind h (fun areArcs0 hb2 h=>?_)
 conv=>whnf
 refine vIfB h (fun h=>?_) (fun h=>?_)
 conv=>whnf
 refine vBind h (fun within0 hb3 h=>?_)
 conv=>whnf
 refine vIfB h (fun h=>?_) (fun h=>?_)
 conv=>whnf
 refine vBind h (fun within1 hb4 h=>?_)
 conv=>whnf
 refine vIfB h (fun h=>?_) (fun h=>?_)
 conv=>whnf
 refine vBind h (fun isOfKind0 hb5 h=>?_)
 conv=>whnf
 cases h
 exact hK
 conv=>whnf
 cases h
 exact hK
 conv=>whnf
 cases h
 exact hK
 conv=>whnf
 cases h
 exact hK
 conv=>whnf
 cases h
 exact hK
 conv=>whnf
 cases h
 exact hK
theorem w125 (q0:SoundC Tryz.prog 149 c74):SoundC Tryz.prog 150 c125:=by
 refine fn_sound tab_ok (gam_cons q0 gam_nil) mixed {loops:=[(0,[.reg 8 (.dat (.int .i64))])]} (fn:=Tryz.f150) Tryz.func150 (by kernel_rfl) (by kernel_rfl) ?_
 rintro ⟨w0,⟨⟩⟩ K ⟨r,h,hK⟩
 change impl_Wire_isTree w0=some r at h
 unfold impl_Wire_isTree at h
 conv=>whnf
 refine vLoop h ?_
 rintro I0 μ0 ⟨v0,⟨⟩⟩ zs0 h hI0 hR0
 change impl_Wire_isTree_loop0 w0 v0=some zs0 at h
 unfold impl_Wire_isTree_loop0 at h
 conv=>whnf
 refine vIfD h (fun h=>?_) (fun h=>?_)
 conv=>whnf
 refine vAt h (fun x0 he1a he1b he1x h=>?_)
 conv=>whnf
 refine vIfD h (fun h=>?_) (fun h=>?_)
 conv=>whnf
 refine vNot ?_
 refine vIfD h (fun h=>?_) (fun h=>?_)
 conv=>whnf
 refine vAt h (fun x1 he2a he2b he2x h=>?_)
 conv=>whnf
 refine vNot ?_
 refine vIfD h (fun h=>?_) (fun h=>?_)
 conv=>whnf
 refine vIfD h (fun h=>?_) (fun h=>?_)
 conv=>whnf
 refine vBind h (fun within0 hb3 h=>?_)
 conv=>whnf
 refine vNots ?_
 refine vIfB h (fun h=>?_) (fun h=>?_)
 conv=>whnf
 cases h
 exact ⟨⟨rfl,rfl⟩,hI0 _ rfl⟩
 conv=>whnf
 cases h
 obtain rfl:=hR0 _ rfl
 exact hK
 conv=>whnf
 cases h
 exact ⟨⟨rfl,rfl⟩,hI0 _ rfl⟩
 conv=>whnf
 cases h
 obtain rfl:=hR0 _ rfl
 exact hK
 conv=>whnf
 cases h
 obtain rfl:=hR0 _ rfl
 exact hK
 conv=>whnf
 refine vIfD h (fun h=>?_) (fun h=>?_)
 conv=>whnf
 refine vBind h (fun within0 hb4 h=>?_)
 conv=>whnf
 refine vNots ?_
 refine vIfB h (fun h=>?_) (fun h=>?_)
 conv=>whnf
 cases h
 exact ⟨⟨rfl,rfl⟩,hI0 _ rfl⟩
 conv=>whnf
 cases h
 obtain rfl:=hR0 _ rfl
 exact hK
 conv=>whnf
 cases h
 exact ⟨⟨rfl,rfl⟩,hI0 _ rfl⟩
 conv=>whnf
 cases h
 obtain rfl:=hR0 _ rfl
 exact hK
theorem w79 (q1:SoundC Tryz.prog 158 c75) (q0:SoundC Tryz.prog 203 c78):SoundC Tryz.prog 179 c79:=by
 refine fn_sound tab_ok (gam_cons q1 (gam_cons q0 gam_nil)) mixed {loops:=[(0,[.reg 7 (.dat (.int .i64))])]} (fn:=Tryz.f179) Tryz.func179 (by kernel_rfl) (by kernel_rfl) ?_
 rintro ⟨list0,⟨⟩⟩ K ⟨r,h,hK⟩
 change impl_areNames list0=some r at h
 unfold impl_areNames at h
 conv=>whnf
 refine vLoop h ?_
 rintro I0 μ0 ⟨v0,⟨⟩⟩ zs0 h hI0 hR0
 change impl_areNames_loop0 list0 v0=some zs0 at h
 unfold impl_areNames_loop0 at h
 conv=>whnf
 refine vIfD h (fun h=>?_) (fun h=>?_)
 conv=>whnf
 refine vAt h (fun x0 he1a he1b he1x h=>?_)
 conv=>whnf
 refine vBind h (fun isName0 hb2 h=>?_)
 conv=>whnf
 refine vNot ?_
 refine vIfB h (fun h=>?_) (fun h=>?_)
 conv=>whnf
 refine ⟨by decide,?_⟩
 conv=>whnf
 refine vPre h (fun hp3 h=>?_)
 conv=>whnf
 refine vPre h (fun hp4 h=>?_)
 conv=>whnf
 refine vBind h (fun string0 hb5 h=>?_)
 conv=>whnf
 refine vIfB h (fun h=>?_) (fun h=>?_)
 conv=>whnf
 cases h
 obtain rfl:=hR0 _ rfl
 exact hK
 conv=>whnf
 cases h
 exact ⟨⟨rfl,rfl⟩,hI0 _ rfl⟩
 conv=>whnf
 cases h
 obtain rfl:=hR0 _ rfl
 exact hK
 conv=>whnf
 cases h
 obtain rfl:=hR0 _ rfl
 exact hK
theorem w75 (q2:SoundC Tryz.prog 149 c74) (q1:SoundC Tryz.prog 187 c_strings_Trim) (q0:SoundC Tryz.prog 188 c_strings_IndexByte):SoundC Tryz.prog 158 c75:=by
 refine fn_sound tab_ok (gam_cons q2 (gam_cons q1 (gam_cons q0 gam_nil))) mixed {} (fn:=Tryz.f158) Tryz.func158 (by kernel_rfl) (by kernel_rfl) ?_
 rintro ⟨s0,⟨⟩⟩ K ⟨r,h,hK⟩
 change impl_isName s0=some r at h
 unfold impl_isName at h
 conv=>whnf
 refine vBind h (fun within0 hb0 h=>?_)
 conv=>whnf
 refine vIfB h (fun h=>?_) (fun h=>?_)
 conv=>whnf
 refine vPre h (fun hp1 h=>?_)
 conv=>whnf
 refine ⟨by decide,?_⟩
 conv=>whnf
 refine ⟨by kernel_rfl,?_⟩
 conv=>whnf
 refine vIfD h (fun h=>?_) (fun h=>?_)
 conv=>whnf
 refine vAt h (fun x0 he2a he2b he2x h=>?_)
 conv=>whnf
 cases h
 exact hK
 conv=>whnf
 cases h
 exact hK
 conv=>whnf
 cases h
 exact hK
theorem w132:SoundC Tryz.prog 154 c132:=by
 refine fn_sound tab_ok gam_nil mixed {} (fn:=Tryz.f154) Tryz.func154 (by kernel_rfl) (by kernel_rfl) ?_
 rintro ⟨list0,⟨⟩⟩ K ⟨r,h,hK⟩
 change impl_length_impl_place list0=some r at h
 unfold impl_length_impl_place at h
 conv=>whnf
 cases h
 exact hK
theorem w82:SoundC Tryz.prog 148 c82:=by
 refine fn_sound tab_ok gam_nil mixed {} (fn:=Tryz.f148) Tryz.func148 (by kernel_rfl) (by kernel_rfl) ?_
 rintro ⟨list0,⟨⟩⟩ K ⟨r,h,hK⟩
 change impl_length_int64 list0=some r at h
 unfold impl_length_int64 at h
 conv=>whnf
 cases h
 exact hK
theorem w131 (q0:SoundC Tryz.prog 184 c130):SoundC Tryz.prog 152 c131:=by
 refine fn_sound tab_ok (gam_cons q0 gam_nil) mixed {} (fn:=Tryz.f152) Tryz.func152 (by kernel_rfl) (by kernel_rfl) ?_
 rintro ⟨a0,b0,⟨⟩⟩ K ⟨r,h,hK⟩
 change impl_sameEdit a0 b0=some r at h
 unfold impl_sameEdit at h
 conv=>whnf
 refine vIfD h (fun h=>?_) (fun h=>?_)
 conv=>whnf
 refine vIfD h (fun h=>?_) (fun h=>?_)
 conv=>whnf
 refine vIfD h (fun h=>?_) (fun h=>?_)
 conv=>whnf
 refine vIfD h (fun h=>?_) (fun h=>?_)
 conv=>whnf
 refine vIfD h (fun h=>?_) (fun h=>?_)
 conv=>whnf
 refine vIfD h (fun h=>?_) (fun h=>?_)
 conv=>whnf
 refine vBind h (fun sameWire0 hb0 h=>?_)
 conv=>whnf
 cases h
 exact hK
 conv=>whnf
 cases h
 exact hK
 conv=>whnf
 cases h
 exact hK
 conv=>whnf
 cases h
 exact hK
 conv=>whnf
 cases h
 exact hK
 conv=>whnf
 cases h
 exact hK
 conv=>whnf
 cases h
 exact hK
theorem w74:SoundC Tryz.prog 149 c74:=by
 refine fn_sound tab_ok gam_nil mixed {} (fn:=Tryz.f149) Tryz.func149 (by kernel_rfl) (by kernel_rfl) ?_
 rintro ⟨x0,low0,high0,⟨⟩⟩ K ⟨r,h,hK⟩
 change impl_within x0 low0 high0=some r at h
 unfold impl_within at h
 conv=>whnf
 refine vIfD h (fun h=>?_) (fun h=>?_)
 conv=>whnf
 cases h
 exact hK
 conv=>whnf
 cases h
 exact hK
theorem w184 (q0:SoundC Tryz.prog 73 c180) (q1:SoundC Tryz.prog 74 c181) (q2:SoundC Tryz.prog 75 c183):SoundC Tryz.prog 33 c184:=by
 refine fn_sound tab_ok (gam_cons q0 (gam_cons q1 (gam_cons q2 gam_nil))) mixed {} (fn:=Tryz.f33) Tryz.func33 (by kernel_rfl) (by kernel_rfl) ?_
 rintro ⟨a0,b0,⟨⟩⟩ K ⟨r,h,hK⟩
 change laws_eqDesign a0 b0=some r at h
 unfold laws_eqDesign at h
 conv=>whnf
 refine vBind h (fun eqInstanceS0 hb0 h=>?_)
 conv=>whnf
 refine vNots ?_
 refine vIfB h (fun h=>?_) (fun h=>?_)
 conv=>whnf
 refine vBind h (fun eqStringS0 hb1 h=>?_)
 conv=>whnf
 refine vNots ?_
 refine vIfB h (fun h=>?_) (fun h=>?_)
 conv=>whnf
 refine vBind h (fun eqPortS0 hb2 h=>?_)
 conv=>whnf
 refine vNots ?_
 refine vIfB h (fun h=>?_) (fun h=>?_)
 conv=>whnf
 cases h
 exact hK
 conv=>whnf
 cases h
 exact hK
 conv=>whnf
 cases h
 exact hK
 conv=>whnf
 cases h
 exact hK
theorem w170:SoundC Tryz.prog 192 c170:=by
 refine fn_sound tab_ok gam_nil mixed {} (fn:=Tryz.f192) Tryz.func192 (by kernel_rfl) (by kernel_rfl) ?_
 rintro ⟨a0,b0,⟨⟩⟩ K ⟨r,h,hK⟩
 change laws_eqPin a0 b0=some r at h
 unfold laws_eqPin at h
 conv=>whnf
 refine vNots ?_
 refine vIfD h (fun h=>?_) (fun h=>?_)
 conv=>whnf
 refine vNots ?_
 refine vIfD h (fun h=>?_) (fun h=>?_)
 conv=>whnf
 refine vNots ?_
 refine vIfD h (fun h=>?_) (fun h=>?_)
 conv=>whnf
 refine vNots ?_
 refine vIfB h (fun h=>?_) (fun h=>?_)
 conv=>whnf
 cases h
 exact hK
 conv=>whnf
 cases h
 exact hK
 conv=>whnf
 cases h
 exact hK
 conv=>whnf
 cases h
 exact hK
 conv=>whnf
 cases h
 exact hK
theorem w171 (q0:SoundC Tryz.prog 192 c170):SoundC Tryz.prog 168 c171:=by
 refine fn_sound tab_ok (gam_cons q0 gam_nil) mixed {loops:=[(0,[.reg 5 (.dat (.int .i64))])],draws:=[(6,[0,0,3,7,0,0,48,112,255,511],.op 0 (.op 1 (.op 2 (.op 3 (.op 4 (.op 5 (.op 6 (.op 7 (.alt 8 (.op 9 (.done)) (.done))))))))))]} (fn:=Tryz.f168) Tryz.func168 (by kernel_rfl) (by kernel_rfl) ?_
 rintro ⟨a0,b0,⟨⟩⟩ K ⟨r,h,hK⟩
 change laws_eqPinS a0 b0=some r at h
 unfold laws_eqPinS at h
 conv=>whnf
 refine vNots ?_
 refine vIfD h (fun h=>?_) (fun h=>?_)
 conv=>whnf
 refine vLoop h ?_
 rintro I0 μ0 ⟨i0,⟨⟩⟩ zs0 h hI0 hR0
 change laws_eqPinS_loop0 a0 b0 i0=some zs0 at h
 unfold laws_eqPinS_loop0 at h
 conv=>whnf
 refine vIfD h (fun h=>?_) (fun h=>?_)
 conv=>whnf
 refine ⟨by kernel_rfl,?_⟩
 conv=>whnf
 refine vAt h (fun x0 he1a he1b he1x h=>?_)
 conv=>whnf
 refine vAt h (fun x1 he2a he2b he2x h=>?_)
 conv=>whnf
 refine vBind h (fun eqPin0 hb3 h=>?_)
 conv=>whnf
 refine vNots ?_
 refine vIfB h (fun h=>?_) (fun h=>?_)
 conv=>whnf
 cases h
 exact ⟨⟨rfl,rfl⟩,hI0 _ rfl⟩
 conv=>whnf
 cases h
 obtain rfl:=hR0 _ rfl
 exact hK
 conv=>whnf
 cases h
 obtain rfl:=hR0 _ rfl
 exact hK
 conv=>whnf
 cases h
 exact hK
theorem w183 (q0:SoundC Tryz.prog 123 c182):SoundC Tryz.prog 75 c183:=by
 refine fn_sound tab_ok (gam_cons q0 gam_nil) mixed {loops:=[(0,[.reg 5 (.dat (.int .i64))])],draws:=[(6,[0,0,3,7,0,0,48,112,255,511],.op 0 (.op 1 (.op 2 (.op 3 (.op 4 (.op 5 (.op 6 (.op 7 (.alt 8 (.op 9 (.done)) (.done))))))))))]} (fn:=Tryz.f75) Tryz.func75 (by kernel_rfl) (by kernel_rfl) ?_
 rintro ⟨a0,b0,⟨⟩⟩ K ⟨r,h,hK⟩
 change laws_eqPortS a0 b0=some r at h
 unfold laws_eqPortS at h
 conv=>whnf
 refine vNots ?_
 refine vIfD h (fun h=>?_) (fun h=>?_)
 conv=>whnf
 refine vLoop h ?_
 rintro I0 μ0 ⟨i0,⟨⟩⟩ zs0 h hI0 hR0
 change laws_eqPortS_loop0 a0 b0 i0=some zs0 at h
 unfold laws_eqPortS_loop0 at h
 conv=>whnf
 refine vIfD h (fun h=>?_) (fun h=>?_)
 conv=>whnf
 refine ⟨by kernel_rfl,?_⟩
 conv=>whnf
 refine vAt h (fun x0 he1a he1b he1x h=>?_)
 conv=>whnf
 refine vAt h (fun x1 he2a he2b he2x h=>?_)
 conv=>whnf
 refine vBind h (fun eqPort0 hb3 h=>?_)
 conv=>whnf
 refine vNots ?_
 refine vIfB h (fun h=>?_) (fun h=>?_)
 conv=>whnf
 cases h
 exact ⟨⟨rfl,rfl⟩,hI0 _ rfl⟩
 conv=>whnf
 cases h
 obtain rfl:=hR0 _ rfl
 exact hK
 conv=>whnf
 cases h
 obtain rfl:=hR0 _ rfl
 exact hK
 conv=>whnf
 cases h
 exact hK
theorem w181:SoundC Tryz.prog 74 c181:=by
 refine fn_sound tab_ok gam_nil mixed {loops:=[(0,[.reg 5 (.dat (.int .i64))])],draws:=[(6,[0,0,3,7,0,0,48,112,255],.op 0 (.op 1 (.op 2 (.op 3 (.op 4 (.op 5 (.op 6 (.op 7 (.op 8 (.done))))))))))]} (fn:=Tryz.f74) Tryz.func74 (by kernel_rfl) (by kernel_rfl) ?_
 rintro ⟨a0,b0,⟨⟩⟩ K ⟨r,h,hK⟩
 change laws_eqStringS a0 b0=some r at h
 unfold laws_eqStringS at h
 conv=>whnf
 refine vNots ?_
 refine vIfD h (fun h=>?_) (fun h=>?_)
 conv=>whnf
 refine vLoop h ?_
 rintro I0 μ0 ⟨i0,⟨⟩⟩ zs0 h hI0 hR0
 change laws_eqStringS_loop0 a0 b0 i0=some zs0 at h
 unfold laws_eqStringS_loop0 at h
 conv=>whnf
 refine vIfD h (fun h=>?_) (fun h=>?_)
 conv=>whnf
 refine ⟨by kernel_rfl,?_⟩
 conv=>whnf
 refine vAt h (fun x0 he1a he1b he1x h=>?_)
 conv=>whnf
 refine vAt h (fun x1 he2a he2b he2x h=>?_)
 conv=>whnf
 refine vNots ?_
 refine vIfD h (fun h=>?_) (fun h=>?_)
 conv=>whnf
 cases h
 exact ⟨⟨rfl,rfl⟩,hI0 _ rfl⟩
 conv=>whnf
 cases h
 obtain rfl:=hR0 _ rfl
 exact hK
 conv=>whnf
 cases h
 obtain rfl:=hR0 _ rfl
 exact hK
 conv=>whnf
 cases h
 exact hK
theorem w202:SoundC Tryz.prog 81 c202:=by
 refine fn_sound tab_ok gam_nil mixed {loops:=[(0,[.reg 1 (.dat (.int .i64)),.reg 5 (.dat (.int .i64))])]} (fn:=Tryz.f81) Tryz.func81 (by kernel_rfl) (by kernel_rfl) ?_
 rintro ⟨a0,k0,⟨⟩⟩ K ⟨r,h,hK⟩
 change laws_heldInt64S a0 k0=some r at h
 unfold laws_heldInt64S at h
 conv=>whnf
 refine vLoop h ?_
 rintro I0 μ0 ⟨k1,i0,⟨⟩⟩ zs0 h hI0 hR0
 change laws_heldInt64S_loop0 a0 k1 i0=some zs0 at h
 unfold laws_heldInt64S_loop0 at h
 conv=>whnf
 refine vIfD h (fun h=>?_) (fun h=>?_)
 conv=>whnf
 refine vAt h (fun x0 he1a he1b he1x h=>?_)
 conv=>whnf
 refine vNots ?_
 refine vIfD h (fun h=>?_) (fun h=>?_)
 conv=>whnf
 cases h
 exact ⟨⟨rfl,rfl⟩,hI0 _ rfl⟩
 conv=>whnf
 cases h
 obtain rfl:=hR0 _ rfl
 exact hK
 conv=>whnf
 cases h
 obtain rfl:=hR0 _ rfl
 exact hK
theorem w188 (q0:SoundC Tryz.prog 124 c187):SoundC Tryz.prog 125 c188:=by
 refine fn_sound tabD_ok (gam_cons q0 gam_nil) mixed {loops:=[(0,[.reg 1 (.dat (.int .i64)),.reg 5 (.dat (.int .i64)),.ent 0 (nat_lit 180) (.flat tPin)])]} (fn:=Tryz.f125) Tryz.func125 (by kernel_rfl) (by kernel_rfl) ?_
 rintro ⟨a0,k0,⟨⟩⟩ K ⟨r,h,hK⟩
 change laws_markPinS a0 k0=some r at h
 unfold laws_markPinS at h
 conv=>whnf
 refine vLoop h ?_
 rintro I0 μ0 ⟨k1,i0,l0,⟨⟩⟩ zs0 h hI0 hR0
 change laws_markPinS_loop0 k1 i0 l0=some zs0 at h
 unfold laws_markPinS_loop0 at h
 conv=>whnf
 refine vIfD h (fun h=>?_) (fun h=>?_)
 conv=>whnf
 refine vBind h (fun markText0 hb1 h=>?_)
 conv=>whnf
 refine vAt h (fun x0 he2a he2b he2x h=>?_)
 conv=>whnf
 refine ⟨by kernel_rfl,?_⟩
 conv=>whnf
 refine ⟨by decide,?_⟩
 conv=>whnf
 refine ⟨he2a,he2b,vAgain he2x ?_⟩
 conv=>whnf
 refine vAt h (fun x1 he3a he3b he3x h=>?_)
 conv=>whnf
 refine ⟨by kernel_rfl,?_⟩
 conv=>whnf
 refine ⟨by decide,?_⟩
 conv=>whnf
 refine ⟨he3a,he3b,vAgain he3x ?_⟩
 conv=>whnf
 refine vAt h (fun x2 he4a he4b he4x h=>?_)
 conv=>whnf
 refine ⟨by kernel_rfl,?_⟩
 conv=>whnf
 refine ⟨by decide,?_⟩
 conv=>whnf
 refine ⟨he4a,he4b,vAgain he4x ?_⟩
 conv=>whnf
 refine ⟨by decide,?_⟩
 conv=>whnf
 refine vAt h (fun x3 he5a he5b he5x h=>?_)
 conv=>whnf
 refine ⟨by kernel_rfl,?_⟩
 conv=>whnf
 refine ⟨by decide,?_⟩
 conv=>whnf
 refine ⟨he5a,he5b,vAgain he5x ?_⟩
 conv=>whnf
 cases h
 exact ⟨⟨rfl,rfl⟩,hI0 _ rfl⟩
 conv=>whnf
 cases h
 obtain rfl:=hR0 _ rfl
 exact hK
theorem w187:SoundC Tryz.prog 124 c187:=by
 refine fn_sound tab_ok gam_nil mixed {loops:=[(0,[.reg 0 (.dat (.int .i64)),.reg 3 (.dat (.str))])]} (fn:=Tryz.f124) Tryz.func124 (by kernel_rfl) (by kernel_rfl) ?_
 rintro ⟨k0,⟨⟩⟩ K ⟨r,h,hK⟩
 change laws_markText k0=some r at h
 unfold laws_markText at h
 conv=>whnf
 refine vIfD h (fun h=>?_) (fun h=>?_)
 conv=>whnf
 cases h
 exact hK
 conv=>whnf
 refine vLoop h ?_
 rintro I0 μ0 ⟨k1,out0,⟨⟩⟩ zs0 h hI0 hR0
 change laws_markText_loop0 k1 out0=some zs0 at h
 unfold laws_markText_loop0 at h
 conv=>whnf
 refine vIfD h (fun h=>?_) (fun h=>?_)
 conv=>whnf
 refine ⟨by decide,?_⟩
 conv=>whnf
 refine vPre h (fun hp1 h=>?_)
 conv=>whnf
 refine ⟨by decide,?_⟩
 conv=>whnf
 cases h
 exact ⟨⟨rfl,rfl⟩,hI0 _ rfl⟩
 conv=>whnf
 refine vPre h (fun hp2 h=>?_)
 conv=>whnf
 cases h
 obtain rfl:=hR0 _ rfl
 exact hK
theorem w200 (q0:SoundC Tryz.prog 80 c189):SoundC Tryz.prog 38 c200:=by
 refine fn_sound tabD_ok (gam_cons q0 gam_nil) mixed {} (fn:=Tryz.f38) Tryz.func38 (by kernel_rfl) (by kernel_rfl) ?_
 rintro ⟨a0,k0,⟨⟩⟩ K ⟨r,h,hK⟩
 change laws_markWire a0 k0=some r at h
 unfold laws_markWire at h
 conv=>whnf
 refine vBind h (fun markInt64S0 hb0 h=>?_)
 conv=>whnf
 refine vBind h (fun markInt64S1 hb1 h=>?_)
 conv=>whnf
 refine vBind h (fun markInt64S2 hb2 h=>?_)
 conv=>whnf
 refine vBind h (fun markInt64S3 hb3 h=>?_)
 conv=>whnf
 cases h
 exact hK
theorem w11 (q0:SoundC Tryz.prog 95 c10):SoundC Tryz.prog 46 c11:=by
 refine fn_sound tab_ok (gam_cons q0 gam_nil) mixed {loops:=[(0,[.reg 1 (.dat (.int .i64)),.reg 5 (.dat (.int .i64))])]} (fn:=Tryz.f46) Tryz.func46 (by kernel_rfl) (by kernel_rfl) ?_
 rintro ⟨a0,left0,⟨⟩⟩ K ⟨r,h,hK⟩
 change laws_szInstanceS a0 left0=some r at h
 unfold laws_szInstanceS at h
 conv=>whnf
 refine vIfD h (fun h=>?_) (fun h=>?_)
 conv=>whnf
 cases h
 exact hK
 conv=>whnf
 refine vLoop h ?_
 rintro I0 μ0 ⟨left1,i0,⟨⟩⟩ zs0 h hI0 hR0
 change laws_szInstanceS_loop0 a0 left1 i0=some zs0 at h
 unfold laws_szInstanceS_loop0 at h
 conv=>whnf
 refine vIfD h (fun h=>?_) (fun h=>?_)
 conv=>whnf
 refine vAt h (fun x0 he1a he1b he1x h=>?_)
 conv=>whnf
 refine vBind h (fun szInstance0 hb2 h=>?_)
 conv=>whnf
 refine vIfD h (fun h=>?_) (fun h=>?_)
 conv=>whnf
 cases h
 obtain rfl:=hR0 _ rfl
 exact hK
 conv=>whnf
 cases h
 exact ⟨⟨rfl,rfl⟩,hI0 _ rfl⟩
 conv=>whnf
 cases h
 obtain rfl:=hR0 _ rfl
 exact hK
theorem w26 (q0:SoundC Tryz.prog 177 c25):SoundC Tryz.prog 141 c26:=by
 refine fn_sound tabD_ok (gam_cons q0 gam_nil) mixed {loops:=[(0,[.reg 4 (.dat (.int .i64)),.ent 0 (nat_lit 200) dArc])]} (fn:=Tryz.f141) Tryz.func141 (by kernel_rfl) (by kernel_rfl) ?_
 rintro ⟨a0,⟨⟩⟩ K ⟨r,h,hK⟩
 change laws_toArcS a0=some r at h
 unfold laws_toArcS at h
 conv=>whnf
 refine vPre h (fun hp0 h=>?_)
 conv=>whnf
 refine vPre h (fun hp1 h=>?_)
 conv=>whnf
 refine vPre h (fun hp2 h=>?_)
 conv=>whnf
 refine vPre h (fun hp3 h=>?_)
 conv=>whnf
 intro fp4
 conv=>whnf
 refine vLoop h ?_
 rintro I5 μ5 ⟨i0,l0,⟨⟩⟩ zs5 h hI5 hR5
 change laws_toArcS_loop0 a0 i0 l0=some zs5 at h
 unfold laws_toArcS_loop0 at h
 conv=>whnf
 intro fp6
 conv=>whnf
 refine vIfD h (fun h=>?_) (fun h=>?_)
 conv=>whnf
 refine vAt h (fun x0 he7a he7b he7x h=>?_)
 conv=>whnf
 refine vBind h (fun toArc0 hb8 h=>?_)
 conv=>whnf
 intro fp9
 conv=>whnf
 intro fp10
 conv=>whnf
 refine vAt h (fun x1 he11a he11b he11x h=>?_)
 conv=>whnf
 refine ⟨he11a,he11b,vAgain he11x ?_⟩
 conv=>whnf
 intro fp12
 conv=>whnf
 intro fp13
 conv=>whnf
 intro fp14
 conv=>whnf
 cases h
 exact ⟨⟨rfl,rfl⟩,hI5 _ rfl⟩
 conv=>whnf
 cases h
 obtain rfl:=hR5 _ rfl
 exact hK
theorem w21 (q0:SoundC Tryz.prog 176 c20):SoundC Tryz.prog 140 c21:=by
 refine fn_sound tab_ok (gam_cons q0 gam_nil) mixed {loops:=[(0,[.reg 4 (.dat (.int .i64)),.ent 0 (nat_lit 180) (.flat ti147.ety)])]} (fn:=Tryz.f140) Tryz.func140 (by kernel_rfl) (by kernel_rfl) ?_
 rintro ⟨a0,⟨⟩⟩ K ⟨r,h,hK⟩
 change laws_toPinS a0=some r at h
 unfold laws_toPinS at h
 conv=>whnf
 refine vPre h (fun hp0 h=>?_)
 conv=>whnf
 refine vPre h (fun hp1 h=>?_)
 conv=>whnf
 refine vPre h (fun hp2 h=>?_)
 conv=>whnf
 refine vPre h (fun hp3 h=>?_)
 conv=>whnf
 refine vLoop h ?_
 rintro I4 μ4 ⟨i0,l0,⟨⟩⟩ zs4 h hI4 hR4
 change laws_toPinS_loop0 a0 i0 l0=some zs4 at h
 unfold laws_toPinS_loop0 at h
 conv=>whnf
 refine vIfD h (fun h=>?_) (fun h=>?_)
 conv=>whnf
 refine vAt h (fun x0 he5a he5b he5x h=>?_)
 conv=>whnf
 refine vBind h (fun toPin0 hb6 h=>?_)
 conv=>whnf
 refine vAt h (fun x1 he7a he7b he7x h=>?_)
 conv=>whnf
 refine ⟨by kernel_rfl,?_⟩
 conv=>whnf
 refine ⟨by decide,?_⟩
 conv=>whnf
 refine ⟨he7a,he7b,vAgain he7x ?_⟩
 conv=>whnf
 cases h
 exact ⟨⟨rfl,rfl⟩,hI4 _ rfl⟩
 conv=>whnf
 cases h
 obtain rfl:=hR4 _ rfl
 exact hK
theorem w32:SoundC Tryz.prog 60 c32:=by
 refine fn_sound tab_ok gam_nil mixed {loops:=[(0,[.reg 4 (.dat (.int .i64)),.ent 0 (nat_lit 9) (.flat ti26.ety)])]} (fn:=Tryz.f60) Tryz.func60 (by kernel_rfl) (by kernel_rfl) ?_
 rintro ⟨a0,⟨⟩⟩ K ⟨r,h,hK⟩
 change laws_toStringS a0=some r at h
 unfold laws_toStringS at h
 conv=>whnf
 refine vPre h (fun hp0 h=>?_)
 conv=>whnf
 refine vPre h (fun hp1 h=>?_)
 conv=>whnf
 refine vPre h (fun hp2 h=>?_)
 conv=>whnf
 refine vPre h (fun hp3 h=>?_)
 conv=>whnf
 refine vLoop h ?_
 rintro I4 μ4 ⟨i0,l0,⟨⟩⟩ zs4 h hI4 hR4
 change laws_toStringS_loop0 a0 i0 l0=some zs4 at h
 unfold laws_toStringS_loop0 at h
 conv=>whnf
 refine vIfD h (fun h=>?_) (fun h=>?_)
 conv=>whnf
 refine vAt h (fun x0 he5a he5b he5x h=>?_)
 conv=>whnf
 refine vAt h (fun x1 he6a he6b he6x h=>?_)
 conv=>whnf
 refine ⟨by kernel_rfl,?_⟩
 conv=>whnf
 refine ⟨by decide,?_⟩
 conv=>whnf
 refine ⟨he6a,he6b,vAgain he6x ?_⟩
 conv=>whnf
 cases h
 exact ⟨⟨rfl,rfl⟩,hI4 _ rfl⟩
 conv=>whnf
 cases h
 obtain rfl:=hR4 _ rfl
 exact hK
theorem w146:SoundC Tryz.prog 162 c146:=by
 refine fn_sound tab_ok gam_nil mixed {} (fn:=Tryz.f162) Tryz.func162 (by kernel_rfl) (by kernel_rfl) ?_
 rintro ⟨s0,⟨⟩⟩ K ⟨r,h,hK⟩
 change slices_Clone_Simpl_Pin_impl_Pin s0=some r at h
 unfold slices_Clone_Simpl_Pin_impl_Pin at h
 conv=>whnf
 refine ⟨fun hd=>?_,?_⟩
 have h:=vSame (T:=(some ([]:List TPin))) h (by simp [hd,guardO])
 conv=>whnf
 cases h
 exact hK
 conv=>whnf
 refine vPre h (fun hp0 h=>?_)
 conv=>whnf
 cases h
 exact hK
theorem w152:SoundC Tryz.prog 166 c152:=by
 refine fn_sound tab_ok gam_nil mixed {} (fn:=Tryz.f166) Tryz.func166 (by kernel_rfl) (by kernel_rfl) ?_
 rintro ⟨s0,⟨⟩⟩ K ⟨r,h,hK⟩
 change slices_Clone_Sstring_string s0=some r at h
 unfold slices_Clone_Sstring_string at h
 conv=>whnf
 refine ⟨fun hd=>?_,?_⟩
 have h:=vSame (T:=(some ([]:List (List UInt8)))) h (by simp [hd,guardO])
 conv=>whnf
 cases h
 exact hK
 conv=>whnf
 refine vPre h (fun hp0 h=>?_)
 conv=>whnf
 cases h
 exact hK
theorem w93 (q0:SoundC Tryz.prog 252 c92):SoundC Tryz.prog 242 c93:=by
 refine fn_sound tab_ok (gam_cons q0 gam_nil) mixed {} (fn:=Tryz.f242) Tryz.func242 (by kernel_rfl) (by kernel_rfl) ?_
 rintro ⟨s0,f0,⟨⟩⟩ K ⟨r,h,hK⟩
 change slices_ContainsFunc_Simpl_Table_impl_Table_at_impl_areTables_c1 s0 f0=some r at h
 unfold slices_ContainsFunc_Simpl_Table_impl_Table_at_impl_areTables_c1 at h
 conv=>whnf
 refine vBind h (fun c1_0 hb0 h=>?_)
 conv=>whnf
 cases h
 exact hK
theorem w85 (q0:SoundC Tryz.prog 204 c84):SoundC Tryz.prog 180 c85:=by
 refine fn_sound tab_ok (gam_cons q0 gam_nil) mixed {} (fn:=Tryz.f180) Tryz.func180 (by kernel_rfl) (by kernel_rfl) ?_
 rintro ⟨s0,f0,⟨⟩⟩ K ⟨r,h,hK⟩
 change slices_ContainsFunc_Sint64_int64_at_impl_areWithin_c1 s0 f0=some r at h
 unfold slices_ContainsFunc_Sint64_int64_at_impl_areWithin_c1 at h
 conv=>whnf
 refine vBind h (fun c1_0 hb0 h=>?_)
 conv=>whnf
 cases h
 exact hK
theorem w68 (q3:SoundC Tryz.prog 50 c57) (q0:SoundC Tryz.prog 51 c58) (q1:SoundC Tryz.prog 52 c59) (q2:SoundC Tryz.prog 53 c67):SoundC Tryz.prog 23 c68:=by
 refine fn_sound tab_ok (gam_cons q3 (gam_cons q0 (gam_cons q1 (gam_cons q2 gam_nil)))) mixed {} (fn:=Tryz.f23) Tryz.func23 (by kernel_rfl) (by kernel_rfl) ?_
 rintro ⟨b0,e0,⟨⟩⟩ K ⟨r,h,hK⟩
 change spec_EditCode b0 e0=some r at h
 unfold spec_EditCode at h
 conv=>whnf
 refine vBind h (fun IsBlock0 hb0 h=>?_)
 conv=>whnf
 refine vNots ?_
 refine vIfB h (fun h=>?_) (fun h=>?_)
 conv=>whnf
 refine vBind h (fun l08Blank0 hb1 h=>?_)
 conv=>whnf
 refine vNot ?_
 refine vIfB h (fun h=>?_) (fun h=>?_)
 conv=>whnf
 refine vBind h (fun l08Range0 hb2 h=>?_)
 conv=>whnf
 refine vNots ?_
 refine vIfB h (fun h=>?_) (fun h=>?_)
 conv=>whnf
 refine vBind h (fun l08State0 hb3 h=>?_)
 conv=>whnf
 refine vNots ?_
 refine vIfB h (fun h=>?_) (fun h=>?_)
 conv=>whnf
 refine vIfD h (fun h=>?_) (fun h=>?_)
 conv=>whnf
 refine vIfDs h (fun h=>?_) (fun h=>?_)
 conv=>whnf
 cases h
 exact hK
 conv=>whnf
 refine vIfD h (fun h=>?_) (fun h=>?_)
 conv=>whnf
 cases h
 exact hK
 conv=>whnf
 cases h
 exact hK
 conv=>whnf
 cases h
 exact hK
 conv=>whnf
 cases h
 exact hK
 conv=>whnf
 cases h
 exact hK
 conv=>whnf
 cases h
 exact hK
 conv=>whnf
 cases h
 exact hK
theorem w49 (q1:SoundC Tryz.prog 196 c42) (q2:SoundC Tryz.prog 102 c40) (q4:SoundC Tryz.prog 99 c41) (q3:SoundC Tryz.prog 197 c47) (q0:SoundC Tryz.prog 198 c48):SoundC Tryz.prog 175 c49:=by
 refine fn_sound tab_ok (gam_cons q1 (gam_cons q2 (gam_cons q4 (gam_cons q3 (gam_cons q0 gam_nil))))) mixed {loops:=[(0,[.reg 5 (.dat (.int .i64))]),(2,[.reg 7 (.dat (.int .i64))]),(5,[.reg 9 (.dat (.int .i64))])],draws:=[(13,[0,1,0,7,15,31,0,64,255,511,1023,2047,1023,8191,16383,32767,1023,66559,262143,524287,1048575,2097151,4194303,2097151,16777215,33554431,67108863,2097151,136314879,536870911,1073741823],.op 0 (.op 1 (.op 2 (.op 3 (.op 4 (.op 5 (.op 6 (.op 7 (.op 8 (.op 9 (.op 10 (.op 11 (.op 12 (.op 13 (.op 14 (.op 15 (.op 16 (.op 17 (.op 18 (.op 19 (.op 20 (.op 21 (.op 22 (.op 23 (.op 24 (.op 25 (.op 26 (.op 27 (.op 28 (.op 29 (.op 30 (.done)))))))))))))))))))))))))))))))),(25,[0,1,3,7,15,31,63,127,255,511,1023,2047,4095,511,8703,25087,57855,131071,262143,524287,1048575,2097151,4194303,8388607,16777215,33554431],.op 0 (.op 1 (.op 2 (.op 3 (.op 4 (.op 5 (.op 6 (.op 7 (.op 8 (.op 9 (.op 10 (.op 11 (.op 12 (.op 13 (.op 14 (.op 15 (.op 16 (.op 17 (.op 18 (.op 19 (.op 20 (.op 21 (.op 22 (.op 23 (.op 24 (.op 25 (.done)))))))))))))))))))))))))))]} (fn:=Tryz.f175) Tryz.func175 (by kernel_rfl) (by kernel_rfl) ?_
 rintro ⟨a0,⟨⟩⟩ K ⟨r,h,hK⟩
 change spec_IsCell a0=some r at h
 unfold spec_IsCell at h
 conv=>whnf
 refine vBind h (fun l03Pins0 hb0 h=>?_)
 conv=>whnf
 refine vNot ?_
 refine vIfB h (fun h=>?_) (fun h=>?_)
 conv=>whnf
 refine vBind h (fun l03Name0 hb1 h=>?_)
 conv=>whnf
 refine vNot ?_
 refine vIfB h (fun h=>?_) (fun h=>?_)
 conv=>whnf
 refine vIfDs h (fun h=>?_) (fun h=>?_)
 conv=>whnf
 cases h
 exact hK
 conv=>whnf
 refine vBind h (fun l01In0 hb2 h=>?_)
 conv=>whnf
 refine vNot ?_
 refine vIfB h (fun h=>?_) (fun h=>?_)
 conv=>whnf
 refine vBind h (fun l01In1 hb3 h=>?_)
 conv=>whnf
 refine vNots ?_
 refine vIfB h (fun h=>?_) (fun h=>?_)
 conv=>whnf
 refine vLoop h ?_
 rintro I4 μ4 ⟨v0,⟨⟩⟩ zs4 h hI4 hR4
 change spec_IsCell_loop2 a0 l03Pins0 v0=some zs4 at h
 unfold spec_IsCell_loop2 at h
 conv=>whnf
 refine vIfD h (fun h=>?_) (fun h=>?_)
 conv=>whnf
 refine vAt h (fun x0 he5a he5b he5x h=>?_)
 conv=>whnf
 refine vBind h (fun l03Arc0 hb6 h=>?_)
 conv=>whnf
 refine vNots ?_
 refine vIfB h (fun h=>?_) (fun h=>?_)
 conv=>whnf
 refine vLoop h ?_
 rintro I7 μ7 ⟨v1,⟨⟩⟩ zs7 h hI7 hR7
 change spec_IsCell_loop0 a0 v0 x0 v1=some zs7 at h
 unfold spec_IsCell_loop0 at h
 conv=>whnf
 refine vIfD h (fun h=>?_) (fun h=>?_)
 conv=>whnf
 refine ⟨by kernel_rfl,?_⟩
 conv=>whnf
 refine vAt h (fun x1 he8a he8b he8x h=>?_)
 conv=>whnf
 refine vIfD h (fun h=>?_) (fun h=>?_)
 conv=>whnf
 refine ⟨he8a,he8b,vAgain he8x ?_⟩
 conv=>whnf
 refine vIfD h (fun h=>?_) (fun h=>?_)
 conv=>whnf
 refine ⟨he8a,he8b,vAgain he8x ?_⟩
 conv=>whnf
 refine vIfD h (fun h=>?_) (fun h=>?_)
 conv=>whnf
 cases h
 obtain rfl:=hR7 _ rfl
 obtain rfl:=hR4 _ rfl
 exact hK
 conv=>whnf
 cases h
 exact ⟨⟨rfl,rfl⟩,hI7 _ rfl⟩
 conv=>whnf
 cases h
 exact ⟨⟨rfl,rfl⟩,hI7 _ rfl⟩
 conv=>whnf
 cases h
 exact ⟨⟨rfl,rfl⟩,hI7 _ rfl⟩
 conv=>whnf
 cases h
 obtain rfl:=hR7 _ rfl
 exact ⟨⟨rfl,rfl⟩,hI4 _ rfl⟩
 conv=>whnf
 cases h
 obtain rfl:=hR4 _ rfl
 exact hK
 conv=>whnf
 refine vBind h (fun l03Kinds0 hb9 h=>?_)
 conv=>whnf
 refine vIfD h (fun h=>?_) (fun h=>?_)
 conv=>whnf
 refine vLoop h ?_
 rintro I10 μ10 ⟨v1,⟨⟩⟩ zs10 h hI10 hR10
 change spec_IsCell_loop1 a0 l03Pins0 v1=some zs10 at h
 unfold spec_IsCell_loop1 at h
 conv=>whnf
 refine vIfD h (fun h=>?_) (fun h=>?_)
 conv=>whnf
 refine vAt h (fun x0 he11a he11b he11x h=>?_)
 conv=>whnf
 refine vBind h (fun l01In2 hb12 h=>?_)
 conv=>whnf
 refine vNots ?_
 refine vIfB h (fun h=>?_) (fun h=>?_)
 conv=>whnf
 cases h
 exact ⟨⟨rfl,rfl⟩,hI10 _ rfl⟩
 conv=>whnf
 cases h
 obtain rfl:=hR10 _ rfl
 obtain rfl:=hR4 _ rfl
 exact hK
 conv=>whnf
 refine vIfD h (fun h=>?_) (fun h=>?_)
 conv=>whnf
 refine vPre h (fun hp13 h=>?_)
 conv=>whnf
 cases h
 obtain rfl:=hR10 _ rfl
 obtain rfl:=hR4 _ rfl
 exact hK
 conv=>whnf
 cases h
 obtain rfl:=hR10 _ rfl
 obtain rfl:=hR4 _ rfl
 exact hK
 conv=>whnf
 refine vIfD h (fun h=>?_) (fun h=>?_)
 conv=>whnf
 refine ⟨by kernel_rfl,?_⟩
 conv=>whnf
 refine vIfD h (fun h=>?_) (fun h=>?_)
 conv=>whnf
 refine vAt h (fun x0 he14a he14b he14x h=>?_)
 conv=>whnf
 refine ⟨by kernel_rfl,?_⟩
 conv=>whnf
 refine ⟨he14a,he14b,vAgain he14x ?_⟩
 conv=>whnf
 refine vIfD h (fun h=>?_) (fun h=>?_)
 conv=>whnf
 refine vAt h (fun x1 he15a he15b he15x h=>?_)
 conv=>whnf
 refine ⟨by kernel_rfl,?_⟩
 conv=>whnf
 refine ⟨he15a,he15b,vAgain he15x ?_⟩
 conv=>whnf
 refine vAt h (fun x2 he16a he16b he16x h=>?_)
 conv=>whnf
 refine ⟨by kernel_rfl,?_⟩
 conv=>whnf
 refine ⟨he16a,he16b,vAgain he16x ?_⟩
 conv=>whnf
 refine vNots ?_
 refine vIfB h (fun h=>?_) (fun h=>?_)
 conv=>whnf
 cases h
 obtain rfl:=hR4 _ rfl
 exact hK
 conv=>whnf
 cases h
 obtain rfl:=hR4 _ rfl
 exact hK
 conv=>whnf
 cases h
 obtain rfl:=hR4 _ rfl
 exact hK
 conv=>whnf
 cases h
 obtain rfl:=hR4 _ rfl
 exact hK
 conv=>whnf
 refine vIfD h (fun h=>?_) (fun h=>?_)
 conv=>whnf
 refine vIfD h (fun h=>?_) (fun h=>?_)
 conv=>whnf
 refine vAt h (fun x0 he17a he17b he17x h=>?_)
 conv=>whnf
 refine ⟨by kernel_rfl,?_⟩
 conv=>whnf
 refine ⟨he17a,he17b,vAgain he17x ?_⟩
 conv=>whnf
 refine vIfD h (fun h=>?_) (fun h=>?_)
 conv=>whnf
 refine vAt h (fun x1 he18a he18b he18x h=>?_)
 conv=>whnf
 refine ⟨by kernel_rfl,?_⟩
 conv=>whnf
 refine ⟨he18a,he18b,vAgain he18x ?_⟩
 conv=>whnf
 refine vIfD h (fun h=>?_) (fun h=>?_)
 conv=>whnf
 refine vAt h (fun x2 he19a he19b he19x h=>?_)
 conv=>whnf
 refine ⟨by kernel_rfl,?_⟩
 conv=>whnf
 refine ⟨he19a,he19b,vAgain he19x ?_⟩
 conv=>whnf
 refine vIfD h (fun h=>?_) (fun h=>?_)
 conv=>whnf
 cases h
 obtain rfl:=hR4 _ rfl
 exact hK
 conv=>whnf
 cases h
 obtain rfl:=hR4 _ rfl
 exact hK
 conv=>whnf
 cases h
 obtain rfl:=hR4 _ rfl
 exact hK
 conv=>whnf
 cases h
 obtain rfl:=hR4 _ rfl
 exact hK
 conv=>whnf
 cases h
 obtain rfl:=hR4 _ rfl
 exact hK
 conv=>whnf
 cases h
 obtain rfl:=hR4 _ rfl
 exact hK
 conv=>whnf
 cases h
 exact hK
 conv=>whnf
 cases h
 exact hK
 conv=>whnf
 cases h
 exact hK
 conv=>whnf
 cases h
 exact hK
theorem w46 (q0:SoundC Tryz.prog 231 c45):SoundC Tryz.prog 217 c46:=by
 refine fn_sound tab_ok (gam_cons q0 gam_nil) mixed {loops:=[(0,[.reg 5 (.dat (.int .i64))])]} (fn:=Tryz.f217) Tryz.func217 (by kernel_rfl) (by kernel_rfl) ?_
 rintro ⟨list0,positive0,⟨⟩⟩ K ⟨r,h,hK⟩
 change spec_l03Tables list0 positive0=some r at h
 unfold spec_l03Tables at h
 conv=>whnf
 refine vNots ?_
 refine vIfD h (fun h=>?_) (fun h=>?_)
 conv=>whnf
 refine vLoop h ?_
 rintro I0 μ0 ⟨i0,⟨⟩⟩ zs0 h hI0 hR0
 change spec_l03Tables_loop0 list0 positive0 i0=some zs0 at h
 unfold spec_l03Tables_loop0 at h
 conv=>whnf
 refine vIfD h (fun h=>?_) (fun h=>?_)
 conv=>whnf
 refine vAt h (fun x0 he1a he1b he1x h=>?_)
 conv=>whnf
 refine vBind h (fun TableBounds0 hb2 h=>?_)
 conv=>whnf
 refine vNot ?_
 refine vIfD h (fun h=>?_) (fun h=>?_)
 conv=>whnf
 refine vIfB h (fun h=>?_) (fun h=>?_)
 conv=>whnf
 refine vIfD h (fun h=>?_) (fun h=>?_)
 conv=>whnf
 cases h
 obtain rfl:=hR0 _ rfl
 exact hK
 conv=>whnf
 cases h
 exact ⟨⟨rfl,rfl⟩,hI0 _ rfl⟩
 conv=>whnf
 cases h
 exact ⟨⟨rfl,rfl⟩,hI0 _ rfl⟩
 conv=>whnf
 cases h
 obtain rfl:=hR0 _ rfl
 exact hK
 conv=>whnf
 cases h
 obtain rfl:=hR0 _ rfl
 exact hK
 conv=>whnf
 cases h
 exact hK
theorem w61:SoundC Tryz.prog 101 c61:=by
 refine fn_sound tab_ok gam_nil mixed {} (fn:=Tryz.f101) Tryz.func101 (by kernel_rfl) (by kernel_rfl) ?_
 rintro ⟨c0,⟨⟩⟩ K ⟨r,h,hK⟩
 change spec_l08Buffer c0=some r at h
 unfold spec_l08Buffer at h
 conv=>whnf
 refine vIfD h (fun h=>?_) (fun h=>?_)
 conv=>whnf
 cases h
 exact hK
 conv=>whnf
 cases h
 exact hK
theorem w66 (q0:SoundC Tryz.prog 101 c61) (q1:SoundC Tryz.prog 55 c55) (q2:SoundC Tryz.prog 139 c65):SoundC Tryz.prog 105 c66:=by
 refine fn_sound tab_ok (gam_cons q0 (gam_cons q1 (gam_cons q2 gam_nil))) mixed {draws:=[(6,[0,1,3,0,8,31,63,127,255,511,1023,2047,4095,8191,1023,32767,65535,131071,262143,524287,1048575,262143,4194303,8388607,262143,17039359,67108863,134217727,268435455,536870911,1073741823,2147483647,4294967295,536870911,17179869183,34359738367],.op 0 (.op 1 (.op 2 (.op 3 (.op 4 (.op 5 (.op 6 (.alt 7 (.op 8 (.op 9 (.op 10 (.op 11 (.op 12 (.op 13 (.op 14 (.op 15 (.op 16 (.op 17 (.op 18 (.op 19 (.op 20 (.op 21 (.op 22 (.op 23 (.op 24 (.op 25 (.op 26 (.op 27 (.op 28 (.op 29 (.op 30 (.op 31 (.op 32 (.op 33 (.op 34 (.op 35 (.done))))))))))))))))))))))))))))) (.done)))))))))]} (fn:=Tryz.f105) Tryz.func105 (by kernel_rfl) (by kernel_rfl) ?_
 rintro ⟨a0,⟨⟩⟩ K ⟨r,h,hK⟩
 change spec_l08Last a0=some r at h
 unfold spec_l08Last at h
 conv=>whnf
 refine vIfD h (fun h=>?_) (fun h=>?_)
 conv=>whnf
 cases h
 exact hK
 conv=>whnf
 refine vAt h (fun x0 he0a he0b he0x h=>?_)
 conv=>whnf
 refine ⟨by kernel_rfl,?_⟩
 conv=>whnf
 refine vAt h (fun x1 he1a he1b he1x h=>?_)
 conv=>whnf
 refine vBind h (fun l08Buffer0 hb2 h=>?_)
 conv=>whnf
 refine vNot ?_
 refine vIfB h (fun h=>?_) (fun h=>?_)
 conv=>whnf
 refine vAt h (fun x2 he3a he3b he3x h=>?_)
 conv=>whnf
 refine vNot ?_
 refine vIfD h (fun h=>?_) (fun h=>?_)
 conv=>whnf
 refine vAt h (fun x3 he4a he4b he4x h=>?_)
 conv=>whnf
 refine vNot ?_
 refine vIfD h (fun h=>?_) (fun h=>?_)
 conv=>whnf
 refine vAt h (fun x4 he5a he5b he5x h=>?_)
 conv=>whnf
 refine vIfD h (fun h=>?_) (fun h=>?_)
 conv=>whnf
 cases h
 exact hK
 conv=>whnf
 refine vBind h (fun l05Sinks0 hb6 h=>?_)
 conv=>whnf
 refine vIfD h (fun h=>?_) (fun h=>?_)
 conv=>whnf
 refine vAt h (fun x5 he7a he7b he7x h=>?_)
 conv=>whnf
 refine vBind h (fun l08Bare0 hb8 h=>?_)
 conv=>whnf
 cases h
 exact hK
 conv=>whnf
 cases h
 exact hK
 conv=>whnf
 cases h
 exact hK
 conv=>whnf
 cases h
 exact hK
 conv=>whnf
 cases h
 exact hK
theorem w67 (q1:SoundC Tryz.prog 54 c54) (q3:SoundC Tryz.prog 100 c60) (q2:SoundC Tryz.prog 101 c61) (q6:SoundC Tryz.prog 102 c40) (q0:SoundC Tryz.prog 103 c62) (q4:SoundC Tryz.prog 104 c64) (q7:SoundC Tryz.prog 105 c66) (q5:SoundC Tryz.prog 55 c55) (q8:SoundC Tryz.prog 98 c56):SoundC Tryz.prog 53 c67:=by
 refine fn_sound tab_ok (gam_cons q1 (gam_cons q3 (gam_cons q2 (gam_cons q6 (gam_cons q0 (gam_cons q4 (gam_cons q7 (gam_cons q5 (gam_cons q8 gam_nil))))))))) mixed {draws:=[(5,[0,1,3,7,15,31,63,127,255,511,1023,255,2303,6399,255,16639,63743,129279,260351,524287,1048575,255,2097407,6291711,255,16777471,65011967,132120831,268435455,536870911,1073741823],.op 0 (.op 1 (.op 2 (.op 3 (.op 4 (.op 5 (.op 6 (.op 7 (.op 8 (.op 9 (.op 10 (.op 11 (.op 12 (.op 13 (.op 14 (.op 15 (.op 16 (.op 17 (.op 18 (.op 19 (.op 20 (.op 21 (.op 22 (.op 23 (.op 24 (.op 25 (.op 26 (.op 27 (.alt 28 (.op 29 (.op 30 (.done))) (.done)))))))))))))))))))))))))))))),(11,[0,0,2,7,15,31,63,127,255,255,767,2047,4095,8191,255,16639,65535,131071,262143],.op 0 (.op 1 (.op 2 (.op 3 (.op 4 (.op 5 (.op 6 (.op 7 (.op 8 (.op 9 (.op 10 (.op 11 (.op 12 (.op 13 (.op 14 (.op 15 (.op 16 (.op 17 (.op 18 (.done)))))))))))))))))))),(12,[0,1,0,4,0,16,60,124,255,511],.op 0 (.op 1 (.op 2 (.op 3 (.op 4 (.op 5 (.alt 6 (.op 7 (.alt 8 (.op 9 (.done)) (.done))) (.done))))))))]} (fn:=Tryz.f53) Tryz.func53 (by kernel_rfl) (by kernel_rfl) ?_
 rintro ⟨a0,a1,⟨⟩⟩ K ⟨r,h,hK⟩
 change spec_l08State a0 a1=some r at h
 unfold spec_l08State at h
 conv=>whnf
 refine vBind h (fun l05Places0 hb0 h=>?_)
 conv=>whnf
 refine vIfD h (fun h=>?_) (fun h=>?_)
 conv=>whnf
 refine vAt h (fun x0 he1a he1b he1x h=>?_)
 conv=>whnf
 refine ⟨by kernel_rfl,?_⟩
 conv=>whnf
 refine ⟨he1a,he1b,vAgain he1x ?_⟩
 conv=>whnf
 refine ⟨by kernel_rfl,?_⟩
 conv=>whnf
 refine vIfD h (fun h=>?_) (fun h=>?_)
 conv=>whnf
 refine vIfB h (fun h=>?_) (fun h=>?_)
 conv=>whnf
 refine vAt h (fun x1 he2a he2b he2x h=>?_)
 conv=>whnf
 refine vAt h (fun x2 he3a he3b he3x h=>?_)
 conv=>whnf
 refine vAt h (fun x3 he4a he4b he4x h=>?_)
 conv=>whnf
 refine vBind h (fun l08Alike0 hb5 h=>?_)
 conv=>whnf
 cases h
 exact hK
 conv=>whnf
 cases h
 exact hK
 conv=>whnf
 cases h
 exact hK
 conv=>whnf
 refine vIfD h (fun h=>?_) (fun h=>?_)
 conv=>whnf
 refine vAt h (fun x0 he6a he6b he6x h=>?_)
 conv=>whnf
 refine ⟨by kernel_rfl,?_⟩
 conv=>whnf
 refine ⟨he6a,he6b,vAgain he6x ?_⟩
 conv=>whnf
 refine vNots ?_
 refine vIfB h (fun h=>?_) (fun h=>?_)
 conv=>whnf
 cases h
 exact hK
 conv=>whnf
 refine vAt h (fun x1 he7a he7b he7x h=>?_)
 conv=>whnf
 refine vBind h (fun l08Buffer0 hb8 h=>?_)
 conv=>whnf
 refine vIfB h (fun h=>?_) (fun h=>?_)
 conv=>whnf
 refine vBind h (fun l03Name0 hb9 h=>?_)
 conv=>whnf
 refine vIfB h (fun h=>?_) (fun h=>?_)
 conv=>whnf
 refine vBind h (fun InstanceNamed0 hb10 h=>?_)
 conv=>whnf
 refine vIfD h (fun h=>?_) (fun h=>?_)
 conv=>whnf
 refine vBind h (fun NetNamed0 hb11 h=>?_)
 conv=>whnf
 cases h
 exact hK
 conv=>whnf
 cases h
 exact hK
 conv=>whnf
 cases h
 exact hK
 conv=>whnf
 cases h
 exact hK
 conv=>whnf
 refine vIfD h (fun h=>?_) (fun h=>?_)
 conv=>whnf
 refine vBind h (fun l08Last0 hb12 h=>?_)
 conv=>whnf
 cases h
 exact hK
 conv=>whnf
 refine vIfD h (fun h=>?_) (fun h=>?_)
 conv=>whnf
 refine ⟨by kernel_rfl,?_⟩
 conv=>whnf
 refine vAt h (fun x0 he13a he13b he13x h=>?_)
 conv=>whnf
 refine ⟨by kernel_rfl,?_⟩
 conv=>whnf
 refine ⟨he13a,he13b,vAgain he13x ?_⟩
 conv=>whnf
 refine vNots ?_
 refine vIfB h (fun h=>?_) (fun h=>?_)
 conv=>whnf
 cases h
 exact hK
 conv=>whnf
 refine ⟨he13a,he13b,vAgain he13x ?_⟩
 conv=>whnf
 refine ⟨by kernel_rfl,?_⟩
 conv=>whnf
 refine ⟨he13a,he13b,vAgain he13x ?_⟩
 conv=>whnf
 cases h
 exact hK
 conv=>whnf
 refine ⟨by kernel_rfl,?_⟩
 conv=>whnf
 refine vBind h (fun l05Sinks0 hb14 h=>?_)
 conv=>whnf
 refine vBind h (fun IsWire0 hb15 h=>?_)
 conv=>whnf
 cases h
 exact hK
end Go.Proofs.YtpkjjgdhmafonaaGreatDoor
