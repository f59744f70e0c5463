/-
  The functions keep their contracts, if what they call does. Printed by program.
-/
import Derived.Test.YtpkjjgdhmafonaaGreatDoorM
import Derived.KernelRfl
namespace Go.Proofs.YtpkjjgdhmafonaaGreatDoor
open Go Go.Sx
set_option maxRecDepth 100000
set_option maxHeartbeats 3200000
set_option linter.unusedVariables false
set_option linter.unusedSimpArgs false
theorem w108 (q0:SoundC Tryz.prog 221 c107):SoundC Tryz.prog 224 c108:=by
 refine fn_sound tab_ok (gam_cons q0 gam_nil) mixed {} (fn:=Tryz.f224) Tryz.func224 (by kernel_rfl) (by kernel_rfl) ?_
 rintro ⟨c0,kind0,⟨⟩⟩ K ⟨r,h,hK⟩
 change impl_Cell_has c0 kind0=some r at h
 unfold impl_Cell_has at h
 conv=>whnf
 refine vBind h (fun c1_0 hb0 h=>?_)
 conv=>whnf
 cases h
 exact hK
theorem w99 (q0:SoundC Tryz.prog 223 c98) (q1:SoundC Tryz.prog 149 c74):SoundC Tryz.prog 235 c99:=by
 refine fn_sound tab_ok (gam_cons q0 (gam_cons q1 gam_nil)) mixed {} (fn:=Tryz.f235) Tryz.func235 (by kernel_rfl) (by kernel_rfl) ?_
 rintro ⟨c0,pin0,⟨⟩⟩ K ⟨r,h,hK⟩
 change impl_Cell_isInput c0 pin0=some r at h
 unfold impl_Cell_isInput at h
 conv=>whnf
 refine vBind h (fun output0 hb0 h=>?_)
 conv=>whnf
 refine vBind h (fun within0 hb1 h=>?_)
 conv=>whnf
 cases h
 exact hK
theorem w164 (q1:SoundC Tryz.prog 65 c124) (q0:SoundC Tryz.prog 118 c163):SoundC Tryz.prog 68 c164:=by
 refine fn_sound tab_ok (gam_cons q1 (gam_cons q0 gam_nil)) mixed {} (fn:=Tryz.f68) Tryz.func68 (by kernel_rfl) (by kernel_rfl) ?_
 rintro ⟨d0,instance0,pin0,⟨⟩⟩ K ⟨r,h,hK⟩
 change impl_Design_placeOf d0 instance0 pin0=some r at h
 unfold impl_Design_placeOf at h
 conv=>whnf
 refine vBind h (fun places0 hb0 h=>?_)
 conv=>whnf
 refine vBind h (fun c1_0 hb1 h=>?_)
 conv=>whnf
 cases h
 exact hK
theorem w120:SoundC Tryz.prog 147 c120:=by
 refine fn_sound tab_ok gam_nil mixed {} (fn:=Tryz.f147) Tryz.func147 (by kernel_rfl) (by kernel_rfl) ?_
 rintro ⟨n0,⟨⟩⟩ K ⟨r,h,hK⟩
 change impl_IsDesign_c1 n0=some r at h
 unfold impl_IsDesign_c1 at h
 conv=>whnf
 cases h
 exact hK
theorem w137:SoundC Tryz.prog 157 c137:=by
 refine fn_sound tab_ok gam_nil mixed {} (fn:=Tryz.f157) Tryz.func157 (by kernel_rfl) (by kernel_rfl) ?_
 rintro ⟨c0,⟨⟩⟩ K ⟨r,h,hK⟩
 change impl_isBuffer c0=some r at h
 unfold impl_isBuffer at h
 conv=>whnf
 refine vIfD h (fun h=>?_) (fun h=>?_)
 conv=>whnf
 cases h
 exact hK
 conv=>whnf
 cases h
 exact hK
theorem w130 (q0:SoundC Tryz.prog 205 c129):SoundC Tryz.prog 184 c130:=by
 refine fn_sound tab_ok (gam_cons q0 gam_nil) mixed {} (fn:=Tryz.f184) Tryz.func184 (by kernel_rfl) (by kernel_rfl) ?_
 rintro ⟨a0,b0,⟨⟩⟩ K ⟨r,h,hK⟩
 change impl_sameWire a0 b0=some r at h
 unfold impl_sameWire at h
 conv=>whnf
 refine vBind h (fun int64_0 hb0 h=>?_)
 conv=>whnf
 refine vIfB h (fun h=>?_) (fun h=>?_)
 conv=>whnf
 refine vBind h (fun int64_1 hb1 h=>?_)
 conv=>whnf
 refine vIfB h (fun h=>?_) (fun h=>?_)
 conv=>whnf
 refine vBind h (fun int64_2 hb2 h=>?_)
 conv=>whnf
 refine vIfB h (fun h=>?_) (fun h=>?_)
 conv=>whnf
 refine vBind h (fun int64_3 hb3 h=>?_)
 conv=>whnf
 cases h
 exact hK
 conv=>whnf
 cases h
 exact hK
 conv=>whnf
 cases h
 exact hK
 conv=>whnf
 cases h
 exact hK
theorem w_laws_FnExactInverseEdit (q5:SoundC Tryz.prog 5 c18) (q8:SoundC Tryz.prog 6 c19) (q6:SoundC Tryz.prog 8 c38) (q9:SoundC Tryz.prog 9 c39) (q0:SoundC Tryz.prog 7 c73) (q1:SoundC Tryz.prog 10 c166) (q10:SoundC Tryz.prog 11 c169) (q7:SoundC Tryz.prog 12 c186) (q2:SoundC Tryz.prog 13 c199) (q3:SoundC Tryz.prog 14 c201) (q4:SoundC Tryz.prog 15 c204):SoundC Tryz.prog 3 c_laws_FnExactInverseEdit:=by
 refine fn_sound tab_ok (gam_cons q5 (gam_cons q8 (gam_cons q6 (gam_cons q9 (gam_cons q0 (gam_cons q1 (gam_cons q10 (gam_cons q7 (gam_cons q2 (gam_cons q3 (gam_cons q4 gam_nil))))))))))) mixed {draws:=[(8,[0,1,0,7,15,31,63,63,0,383,1023],.op 0 (.op 2 (.alt 1 (.alt 3 (.alt 4 (.op 5 (.op 6 (.op 7 (.alt 8 (.alt 9 (.op 10 (.done)) (.done)) (.done))))) (.alt 8 (.alt 4 (.op 5 (.op 6 (.op 7 (.alt 9 (.op 10 (.done)) (.done))))) (.done)) (.done))) (.alt 8 (.alt 3 (.alt 4 (.op 5 (.op 6 (.op 7 (.alt 9 (.op 10 (.done)) (.done))))) (.done)) (.done)) (.done))) (.alt 8 (.alt 1 (.alt 3 (.alt 4 (.op 5 (.op 6 (.op 7 (.alt 9 (.op 10 (.done)) (.done))))) (.done)) (.done)) (.done)) (.done))))),(14,[0,0,2,7,15],.op 0 (.op 1 (.alt 2 (.alt 3 (.op 4 (.done)) (.done)) (.done)))),(16,[0,0,2,7,15],.op 0 (.op 1 (.alt 2 (.alt 3 (.op 4 (.done)) (.done)) (.done)))),(31,[0,1,0,7,15,31,63,63,0,383,1023],.op 0 (.op 2 (.alt 1 (.alt 3 (.alt 4 (.op 5 (.op 6 (.op 7 (.alt 8 (.alt 9 (.op 10 (.done)) (.done)) (.done))))) (.alt 8 (.alt 4 (.op 5 (.op 6 (.op 7 (.alt 9 (.op 10 (.done)) (.done))))) (.done)) (.done))) (.alt 8 (.alt 3 (.alt 4 (.op 5 (.op 6 (.op 7 (.alt 9 (.op 10 (.done)) (.done))))) (.done)) (.done)) (.done))) (.alt 8 (.alt 1 (.alt 3 (.alt 4 (.op 5 (.op 6 (.op 7 (.alt 9 (.op 10 (.done)) (.done))))) (.done)) (.done)) (.done)) (.done)))))]} (fn:=Tryz.f3) Tryz.func3 (by kernel_rfl) (by kernel_rfl) ?_
 rintro ⟨a0,a1,⟨⟩⟩ K ⟨r,h,hK⟩
 change laws_FnExactInverseEdit a0 a1=some r at h
 unfold laws_FnExactInverseEdit at h
 conv=>whnf
 refine vBind h (fun szBlock0 hb0 h=>?_)
 conv=>whnf
 refine vIfD h (fun h=>?_) (fun h=>?_)
 conv=>whnf
 cases h
 exact hK
 conv=>whnf
 refine vBind h (fun szEdit0 hb1 h=>?_)
 conv=>whnf
 refine vIfD h (fun h=>?_) (fun h=>?_)
 conv=>whnf
 cases h
 exact hK
 conv=>whnf
 refine ⟨by kernel_rfl,?_⟩
 conv=>whnf
 refine ⟨?_,?_⟩
 conv=>whnf
 refine vBind h (fun toBlock0 hb2 h=>?_)
 conv=>whnf
 intro fp3
 conv=>whnf
 intro fp4
 conv=>whnf
 intro fp5
 conv=>whnf
 refine ⟨?_,?_⟩
 conv=>whnf
 refine vBind h (fun toEdit0 hb6 h=>?_)
 conv=>whnf
 refine ⟨?_,?_⟩
 conv=>whnf
 refine vBind h (fun InverseEdit0 hb7 h=>?_)
 conv=>whnf
 refine ⟨_,hb2,?_⟩
 conv=>whnf
 intro fp8
 conv=>whnf
 intro fp9
 conv=>whnf
 intro fp10
 conv=>whnf
 refine ⟨_,hb6,?_⟩
 conv=>whnf
 refine vBind h (fun InverseEdit1 hb11 h=>?_)
 conv=>whnf
 refine vBind h (fun eqEdit0 hb12 h=>?_)
 conv=>whnf
 refine vNot ?_
 refine vIfB h (fun h=>?_) (fun h=>?_)
 conv=>whnf
 refine vNots ?_
 refine vIfD h (fun h=>?_) (fun h=>?_)
 conv=>whnf
 refine ⟨by kernel_rfl,?_⟩
 conv=>whnf
 refine ⟨_,hb2,?_⟩
 conv=>whnf
 intro fp13
 conv=>whnf
 intro fp14
 conv=>whnf
 intro fp15
 conv=>whnf
 refine vBind h (fun eqBlock0 hb16 h=>?_)
 conv=>whnf
 refine vNots ?_
 refine vIfB h (fun h=>?_) (fun h=>?_)
 conv=>whnf
 refine ⟨by kernel_rfl,?_⟩
 conv=>whnf
 refine ⟨_,hb6,?_⟩
 conv=>whnf
 refine vBind h (fun eqEdit1 hb17 h=>?_)
 conv=>whnf
 refine vNots ?_
 refine vIfB h (fun h=>?_) (fun h=>?_)
 conv=>whnf
 refine vBind h (fun markBlock0 hb18 h=>?_)
 conv=>whnf
 intro fp19
 conv=>whnf
 intro fp20
 conv=>whnf
 intro fp21
 conv=>whnf
 refine vBind h (fun markEdit0 hb22 h=>?_)
 conv=>whnf
 refine vIfDs h (fun h=>?_) (fun h=>?_)
 conv=>whnf
 cases h
 exact hK
 conv=>whnf
 refine ⟨_,hb12,?_⟩
 conv=>whnf
 refine vNot ?_
 refine vIfB h (fun h=>?_) (fun h=>?_)
 conv=>whnf
 refine vNots ?_
 refine vIfD h (fun h=>?_) (fun h=>?_)
 conv=>whnf
 refine vBind h (fun markEdit1 hb23 h=>?_)
 conv=>whnf
 refine vBind h (fun heldEdit0 hb24 h=>?_)
 conv=>whnf
 refine vIfD h (fun h=>?_) (fun h=>?_)
 conv=>whnf
 cases h
 exact hK
 conv=>whnf
 refine vNots ?_
 refine vIfD h (fun h=>?_) (fun h=>?_)
 conv=>whnf
 refine ⟨by kernel_rfl,?_⟩
 conv=>whnf
 refine ⟨?_,?_⟩
 conv=>whnf
 refine ⟨_,hb2,?_⟩
 conv=>whnf
 intro fp25
 conv=>whnf
 intro fp26
 conv=>whnf
 intro fp27
 conv=>whnf
 refine ⟨?_,?_⟩
 conv=>whnf
 refine ⟨_,hb6,?_⟩
 conv=>whnf
 refine ⟨?_,?_⟩
 conv=>whnf
 refine ⟨_,hb11,?_⟩
 conv=>whnf
 refine ⟨_,hb12,?_⟩
 conv=>whnf
 refine vNot ?_
 refine vIfB h (fun h=>?_) (fun h=>?_)
 conv=>whnf
 refine vNots ?_
 refine vIfD h (fun h=>?_) (fun h=>?_)
 conv=>whnf
 refine ⟨_,hb24,?_⟩
 conv=>whnf
 refine vIfD h (fun h=>?_) (fun h=>?_)
 conv=>whnf
 cases h
 exact hK
 conv=>whnf
 refine vNots ?_
 refine vIfD h (fun h=>?_) (fun h=>?_)
 conv=>whnf
 cases h
 exact hK
 conv=>whnf
 cases h
 exact hK
 conv=>whnf
 cases h
 exact hK
 conv=>whnf
 cases h
 exact hK
 conv=>whnf
 refine ⟨_,hb11,?_⟩
 conv=>whnf
 refine ⟨_,hb12,?_⟩
 conv=>whnf
 refine vNot ?_
 refine vIfB h (fun h=>?_) (fun h=>?_)
 conv=>whnf
 refine vNots ?_
 refine vIfD h (fun h=>?_) (fun h=>?_)
 conv=>whnf
 refine ⟨_,hb24,?_⟩
 conv=>whnf
 refine vIfD h (fun h=>?_) (fun h=>?_)
 conv=>whnf
 cases h
 exact hK
 conv=>whnf
 refine vNots ?_
 refine vIfD h (fun h=>?_) (fun h=>?_)
 conv=>whnf
 cases h
 exact hK
 conv=>whnf
 cases h
 exact hK
 conv=>whnf
 cases h
 exact hK
 conv=>whnf
 cases h
 exact hK
 conv=>whnf
 refine ⟨_,hb6,?_⟩
 conv=>whnf
 refine ⟨_,hb11,?_⟩
 conv=>whnf
 refine ⟨_,hb12,?_⟩
 conv=>whnf
 refine vNot ?_
 refine vIfB h (fun h=>?_) (fun h=>?_)
 conv=>whnf
 refine vNots ?_
 refine vIfD h (fun h=>?_) (fun h=>?_)
 conv=>whnf
 refine ⟨_,hb24,?_⟩
 conv=>whnf
 refine vIfD h (fun h=>?_) (fun h=>?_)
 conv=>whnf
 cases h
 exact hK
 conv=>whnf
 refine vNots ?_
 refine vIfD h (fun h=>?_) (fun h=>?_)
 conv=>whnf
 cases h
 exact hK
 conv=>whnf
 cases h
 exact hK
 conv=>whnf
 cases h
 exact hK
 conv=>whnf
 cases h
 exact hK
 conv=>whnf
 refine ⟨_,hb2,?_⟩
 conv=>whnf
 intro fp28
 conv=>whnf
 intro fp29
 conv=>whnf
 intro fp30
 conv=>whnf
 refine ⟨_,hb6,?_⟩
 conv=>whnf
 refine ⟨_,hb11,?_⟩
 conv=>whnf
 refine ⟨_,hb12,?_⟩
 conv=>whnf
 refine vNot ?_
 refine vIfB h (fun h=>?_) (fun h=>?_)
 conv=>whnf
 refine vNots ?_
 refine vIfD h (fun h=>?_) (fun h=>?_)
 conv=>whnf
 refine ⟨_,hb24,?_⟩
 conv=>whnf
 refine vIfD h (fun h=>?_) (fun h=>?_)
 conv=>whnf
 cases h
 exact hK
 conv=>whnf
 refine vNots ?_
 refine vIfD h (fun h=>?_) (fun h=>?_)
 conv=>whnf
 cases h
 exact hK
 conv=>whnf
 cases h
 exact hK
 conv=>whnf
 cases h
 exact hK
 conv=>whnf
 cases h
 exact hK
 conv=>whnf
 cases h
 exact hK
 conv=>whnf
 cases h
 exact hK
 conv=>whnf
 cases h
 exact hK
 conv=>whnf
 cases h
 exact hK
 conv=>whnf
 cases h
 exact hK
 conv=>whnf
 cases h
 exact hK
 conv=>whnf
 cases h
 exact hK
 obtain ⟨InverseEdit0,hb7,h⟩:=Option.bind_eq_some_iff.1 h
 obtain ⟨InverseEdit1,hb11,h⟩:=Option.bind_eq_some_iff.1 h
 obtain ⟨eqEdit0,hb12,h⟩:=Option.bind_eq_some_iff.1 h
 conv=>whnf
 refine ⟨_,hb7,?_⟩
 conv=>whnf
 refine ⟨_,hb2,?_⟩
 conv=>whnf
 intro fp31
 conv=>whnf
 intro fp32
 conv=>whnf
 intro fp33
 conv=>whnf
 refine ⟨_,hb6,?_⟩
 conv=>whnf
 refine ⟨_,hb11,?_⟩
 conv=>whnf
 refine ⟨_,hb12,?_⟩
 conv=>whnf
 refine vNot ?_
 refine vIfB h (fun h=>?_) (fun h=>?_)
 conv=>whnf
 refine vNots ?_
 refine vIfD h (fun h=>?_) (fun h=>?_)
 conv=>whnf
 refine ⟨by kernel_rfl,?_⟩
 conv=>whnf
 refine ⟨_,hb2,?_⟩
 conv=>whnf
 intro fp34
 conv=>whnf
 intro fp35
 conv=>whnf
 intro fp36
 conv=>whnf
 refine vBind h (fun eqBlock0 hb37 h=>?_)
 conv=>whnf
 refine vNots ?_
 refine vIfB h (fun h=>?_) (fun h=>?_)
 conv=>whnf
 refine ⟨by kernel_rfl,?_⟩
 conv=>whnf
 refine ⟨_,hb6,?_⟩
 conv=>whnf
 refine vBind h (fun eqEdit1 hb38 h=>?_)
 conv=>whnf
 refine vNots ?_
 refine vIfB h (fun h=>?_) (fun h=>?_)
 conv=>whnf
 refine vBind h (fun markBlock0 hb39 h=>?_)
 conv=>whnf
 intro fp40
 conv=>whnf
 intro fp41
 conv=>whnf
 intro fp42
 conv=>whnf
 refine vBind h (fun markEdit0 hb43 h=>?_)
 conv=>whnf
 refine vIfDs h (fun h=>?_) (fun h=>?_)
 conv=>whnf
 cases h
 exact hK
 conv=>whnf
 refine ⟨_,hb12,?_⟩
 conv=>whnf
 refine vNot ?_
 refine vIfB h (fun h=>?_) (fun h=>?_)
 conv=>whnf
 refine vNots ?_
 refine vIfD h (fun h=>?_) (fun h=>?_)
 conv=>whnf
 refine vBind h (fun markEdit1 hb44 h=>?_)
 conv=>whnf
 refine vBind h (fun heldEdit0 hb45 h=>?_)
 conv=>whnf
 refine vIfD h (fun h=>?_) (fun h=>?_)
 conv=>whnf
 cases h
 exact hK
 conv=>whnf
 refine vNots ?_
 refine vIfD h (fun h=>?_) (fun h=>?_)
 conv=>whnf
 refine ⟨by kernel_rfl,?_⟩
 conv=>whnf
 refine ⟨?_,?_⟩
 conv=>whnf
 refine ⟨_,hb2,?_⟩
 conv=>whnf
 intro fp46
 conv=>whnf
 intro fp47
 conv=>whnf
 intro fp48
 conv=>whnf
 refine ⟨?_,?_⟩
 conv=>whnf
 refine ⟨_,hb6,?_⟩
 conv=>whnf
 refine ⟨?_,?_⟩
 conv=>whnf
 refine ⟨_,hb11,?_⟩
 conv=>whnf
 refine ⟨_,hb12,?_⟩
 conv=>whnf
 refine vNot ?_
 refine vIfB h (fun h=>?_) (fun h=>?_)
 conv=>whnf
 refine vNots ?_
 refine vIfD h (fun h=>?_) (fun h=>?_)
 conv=>whnf
 refine ⟨_,hb45,?_⟩
 conv=>whnf
 refine vIfD h (fun h=>?_) (fun h=>?_)
 conv=>whnf
 cases h
 exact hK
 conv=>whnf
 refine vNots ?_
 refine vIfD h (fun h=>?_) (fun h=>?_)
 conv=>whnf
 cases h
 exact hK
 conv=>whnf
 cases h
 exact hK
 conv=>whnf
 cases h
 exact hK
 conv=>whnf
 cases h
 exact hK
 conv=>whnf
 refine ⟨_,hb11,?_⟩
 conv=>whnf
 refine ⟨_,hb12,?_⟩
 conv=>whnf
 refine vNot ?_
 refine vIfB h (fun h=>?_) (fun h=>?_)
 conv=>whnf
 refine vNots ?_
 refine vIfD h (fun h=>?_) (fun h=>?_)
 conv=>whnf
 refine ⟨_,hb45,?_⟩
 conv=>whnf
 refine vIfD h (fun h=>?_) (fun h=>?_)
 conv=>whnf
 cases h
 exact hK
 conv=>whnf
 refine vNots ?_
 refine vIfD h (fun h=>?_) (fun h=>?_)
 conv=>whnf
 cases h
 exact hK
 conv=>whnf
 cases h
 exact hK
 conv=>whnf
 cases h
 exact hK
 conv=>whnf
 cases h
 exact hK
 conv=>whnf
 refine ⟨_,hb6,?_⟩
 conv=>whnf
 refine ⟨_,hb11,?_⟩
 conv=>whnf
 refine ⟨_,hb12,?_⟩
 conv=>whnf
 refine vNot ?_
 refine vIfB h (fun h=>?_) (fun h=>?_)
 conv=>whnf
 refine vNots ?_
 refine vIfD h (fun h=>?_) (fun h=>?_)
 conv=>whnf
 refine ⟨_,hb45,?_⟩
 conv=>whnf
 refine vIfD h (fun h=>?_) (fun h=>?_)
 conv=>whnf
 cases h
 exact hK
 conv=>whnf
 refine vNots ?_
 refine vIfD h (fun h=>?_) (fun h=>?_)
 conv=>whnf
 cases h
 exact hK
 conv=>whnf
 cases h
 exact hK
 conv=>whnf
 cases h
 exact hK
 conv=>whnf
 cases h
 exact hK
 conv=>whnf
 refine ⟨_,hb2,?_⟩
 conv=>whnf
 intro fp49
 conv=>whnf
 intro fp50
 conv=>whnf
 intro fp51
 conv=>whnf
 refine ⟨_,hb6,?_⟩
 conv=>whnf
 refine ⟨_,hb11,?_⟩
 conv=>whnf
 refine ⟨_,hb12,?_⟩
 conv=>whnf
 refine vNot ?_
 refine vIfB h (fun h=>?_) (fun h=>?_)
 conv=>whnf
 refine vNots ?_
 refine vIfD h (fun h=>?_) (fun h=>?_)
 conv=>whnf
 refine ⟨_,hb45,?_⟩
 conv=>whnf
 refine vIfD h (fun h=>?_) (fun h=>?_)
 conv=>whnf
 cases h
 exact hK
 conv=>whnf
 refine vNots ?_
 refine vIfD h (fun h=>?_) (fun h=>?_)
 conv=>whnf
 cases h
 exact hK
 conv=>whnf
 cases h
 exact hK
 conv=>whnf
 cases h
 exact hK
 conv=>whnf
 cases h
 exact hK
 conv=>whnf
 cases h
 exact hK
 conv=>whnf
 cases h
 exact hK
 conv=>whnf
 cases h
 exact hK
 conv=>whnf
 cases h
 exact hK
 conv=>whnf
 cases h
 exact hK
 conv=>whnf
 cases h
 exact hK
 conv=>whnf
 cases h
 exact hK
 obtain ⟨toEdit0,hb6,h⟩:=Option.bind_eq_some_iff.1 h
 obtain ⟨InverseEdit0,hb7,h⟩:=Option.bind_eq_some_iff.1 h
 obtain ⟨InverseEdit1,hb11,h⟩:=Option.bind_eq_some_iff.1 h
 obtain ⟨eqEdit0,hb12,h⟩:=Option.bind_eq_some_iff.1 h
 conv=>whnf
 refine ⟨_,hb6,?_⟩
 conv=>whnf
 refine ⟨_,hb7,?_⟩
 conv=>whnf
 refine ⟨_,hb2,?_⟩
 conv=>whnf
 intro fp52
 conv=>whnf
 intro fp53
 conv=>whnf
 intro fp54
 conv=>whnf
 refine ⟨_,hb6,?_⟩
 conv=>whnf
 refine ⟨_,hb11,?_⟩
 conv=>whnf
 refine ⟨_,hb12,?_⟩
 conv=>whnf
 refine vNot ?_
 refine vIfB h (fun h=>?_) (fun h=>?_)
 conv=>whnf
 refine vNots ?_
 refine vIfD h (fun h=>?_) (fun h=>?_)
 conv=>whnf
 refine ⟨by kernel_rfl,?_⟩
 conv=>whnf
 refine ⟨_,hb2,?_⟩
 conv=>whnf
 intro fp55
 conv=>whnf
 intro fp56
 conv=>whnf
 intro fp57
 conv=>whnf
 refine vBind h (fun eqBlock0 hb58 h=>?_)
 conv=>whnf
 refine vNots ?_
 refine vIfB h (fun h=>?_) (fun h=>?_)
 conv=>whnf
 refine ⟨by kernel_rfl,?_⟩
 conv=>whnf
 refine ⟨_,hb6,?_⟩
 conv=>whnf
 refine vBind h (fun eqEdit1 hb59 h=>?_)
 conv=>whnf
 refine vNots ?_
 refine vIfB h (fun h=>?_) (fun h=>?_)
 conv=>whnf
 refine vBind h (fun markBlock0 hb60 h=>?_)
 conv=>whnf
 intro fp61
 conv=>whnf
 intro fp62
 conv=>whnf
 intro fp63
 conv=>whnf
 refine vBind h (fun markEdit0 hb64 h=>?_)
 conv=>whnf
 refine vIfDs h (fun h=>?_) (fun h=>?_)
 conv=>whnf
 cases h
 exact hK
 conv=>whnf
 refine ⟨_,hb12,?_⟩
 conv=>whnf
 refine vNot ?_
 refine vIfB h (fun h=>?_) (fun h=>?_)
 conv=>whnf
 refine vNots ?_
 refine vIfD h (fun h=>?_) (fun h=>?_)
 conv=>whnf
 refine vBind h (fun markEdit1 hb65 h=>?_)
 conv=>whnf
 refine vBind h (fun heldEdit0 hb66 h=>?_)
 conv=>whnf
 refine vIfD h (fun h=>?_) (fun h=>?_)
 conv=>whnf
 cases h
 exact hK
 conv=>whnf
 refine vNots ?_
 refine vIfD h (fun h=>?_) (fun h=>?_)
 conv=>whnf
 refine ⟨by kernel_rfl,?_⟩
 conv=>whnf
 refine ⟨?_,?_⟩
 conv=>whnf
 refine ⟨_,hb2,?_⟩
 conv=>whnf
 intro fp67
 conv=>whnf
 intro fp68
 conv=>whnf
 intro fp69
 conv=>whnf
 refine ⟨?_,?_⟩
 conv=>whnf
 refine ⟨_,hb6,?_⟩
 conv=>whnf
 refine ⟨?_,?_⟩
 conv=>whnf
 refine ⟨_,hb11,?_⟩
 conv=>whnf
 refine ⟨_,hb12,?_⟩
 conv=>whnf
 refine vNot ?_
 refine vIfB h (fun h=>?_) (fun h=>?_)
 conv=>whnf
 refine vNots ?_
 refine vIfD h (fun h=>?_) (fun h=>?_)
 conv=>whnf
 refine ⟨_,hb66,?_⟩
 conv=>whnf
 refine vIfD h (fun h=>?_) (fun h=>?_)
 conv=>whnf
 cases h
 exact hK
 conv=>whnf
 refine vNots ?_
 refine vIfD h (fun h=>?_) (fun h=>?_)
 conv=>whnf
 cases h
 exact hK
 conv=>whnf
 cases h
 exact hK
 conv=>whnf
 cases h
 exact hK
 conv=>whnf
 cases h
 exact hK
 conv=>whnf
 refine ⟨_,hb11,?_⟩
 conv=>whnf
 refine ⟨_,hb12,?_⟩
 conv=>whnf
 refine vNot ?_
 refine vIfB h (fun h=>?_) (fun h=>?_)
 conv=>whnf
 refine vNots ?_
 refine vIfD h (fun h=>?_) (fun h=>?_)
 conv=>whnf
 refine ⟨_,hb66,?_⟩
 conv=>whnf
 refine vIfD h (fun h=>?_) (fun h=>?_)
 conv=>whnf
 cases h
 exact hK
 conv=>whnf
 refine vNots ?_
 refine vIfD h (fun h=>?_) (fun h=>?_)
 conv=>whnf
 cases h
 exact hK
 conv=>whnf
 cases h
 exact hK
 conv=>whnf
 cases h
 exact hK
 conv=>whnf
 cases h
 exact hK
 conv=>whnf
 refine ⟨_,hb6,?_⟩
 conv=>whnf
 refine ⟨_,hb11,?_⟩
 conv=>whnf
 refine ⟨_,hb12,?_⟩
 conv=>whnf
 refine vNot ?_
 refine vIfB h (fun h=>?_) (fun h=>?_)
 conv=>whnf
 refine vNots ?_
 refine vIfD h (fun h=>?_) (fun h=>?_)
 conv=>whnf
 refine ⟨_,hb66,?_⟩
 conv=>whnf
 refine vIfD h (fun h=>?_) (fun h=>?_)
 conv=>whnf
 cases h
 exact hK
 conv=>whnf
 refine vNots ?_
 refine vIfD h (fun h=>?_) (fun h=>?_)
 conv=>whnf
 cases h
 exact hK
 conv=>whnf
 cases h
 exact hK
 conv=>whnf
 cases h
 exact hK
 conv=>whnf
 cases h
 exact hK
 conv=>whnf
 refine ⟨_,hb2,?_⟩
 conv=>whnf
 intro fp70
 conv=>whnf
 intro fp71
 conv=>whnf
 intro fp72
 conv=>whnf
 refine ⟨_,hb6,?_⟩
 conv=>whnf
 refine ⟨_,hb11,?_⟩
 conv=>whnf
 refine ⟨_,hb12,?_⟩
 conv=>whnf
 refine vNot ?_
 refine vIfB h (fun h=>?_) (fun h=>?_)
 conv=>whnf
 refine vNots ?_
 refine vIfD h (fun h=>?_) (fun h=>?_)
 conv=>whnf
 refine ⟨_,hb66,?_⟩
 conv=>whnf
 refine vIfD h (fun h=>?_) (fun h=>?_)
 conv=>whnf
 cases h
 exact hK
 conv=>whnf
 refine vNots ?_
 refine vIfD h (fun h=>?_) (fun h=>?_)
 conv=>whnf
 cases h
 exact hK
 conv=>whnf
 cases h
 exact hK
 conv=>whnf
 cases h
 exact hK
 conv=>whnf
 cases h
 exact hK
 conv=>whnf
 cases h
 exact hK
 conv=>whnf
 cases h
 exact hK
 conv=>whnf
 cases h
 exact hK
 conv=>whnf
 cases h
 exact hK
 conv=>whnf
 cases h
 exact hK
 conv=>whnf
 cases h
 exact hK
 conv=>whnf
 cases h
 exact hK
 obtain ⟨toBlock0,hb2,h⟩:=Option.bind_eq_some_iff.1 h
 obtain ⟨toEdit0,hb6,h⟩:=Option.bind_eq_some_iff.1 h
 obtain ⟨InverseEdit0,hb7,h⟩:=Option.bind_eq_some_iff.1 h
 obtain ⟨InverseEdit1,hb11,h⟩:=Option.bind_eq_some_iff.1 h
 obtain ⟨eqEdit0,hb12,h⟩:=Option.bind_eq_some_iff.1 h
 conv=>whnf
 refine ⟨_,hb2,?_⟩
 conv=>whnf
 intro fp73
 conv=>whnf
 intro fp74
 conv=>whnf
 intro fp75
 conv=>whnf
 refine ⟨_,hb6,?_⟩
 conv=>whnf
 refine ⟨_,hb7,?_⟩
 conv=>whnf
 refine ⟨_,hb2,?_⟩
 conv=>whnf
 intro fp76
 conv=>whnf
 intro fp77
 conv=>whnf
 intro fp78
 conv=>whnf
 refine ⟨_,hb6,?_⟩
 conv=>whnf
 refine ⟨_,hb11,?_⟩
 conv=>whnf
 refine ⟨_,hb12,?_⟩
 conv=>whnf
 refine vNot ?_
 refine vIfB h (fun h=>?_) (fun h=>?_)
 conv=>whnf
 refine vNots ?_
 refine vIfD h (fun h=>?_) (fun h=>?_)
 conv=>whnf
 refine ⟨by kernel_rfl,?_⟩
 conv=>whnf
 refine ⟨_,hb2,?_⟩
 conv=>whnf
 intro fp79
 conv=>whnf
 intro fp80
 conv=>whnf
 intro fp81
 conv=>whnf
 refine vBind h (fun eqBlock0 hb82 h=>?_)
 conv=>whnf
 refine vNots ?_
 refine vIfB h (fun h=>?_) (fun h=>?_)
 conv=>whnf
 refine ⟨by kernel_rfl,?_⟩
 conv=>whnf
 refine ⟨_,hb6,?_⟩
 conv=>whnf
 refine vBind h (fun eqEdit1 hb83 h=>?_)
 conv=>whnf
 refine vNots ?_
 refine vIfB h (fun h=>?_) (fun h=>?_)
 conv=>whnf
 refine vBind h (fun markBlock0 hb84 h=>?_)
 conv=>whnf
 intro fp85
 conv=>whnf
 intro fp86
 conv=>whnf
 intro fp87
 conv=>whnf
 refine vBind h (fun markEdit0 hb88 h=>?_)
 conv=>whnf
 refine vIfDs h (fun h=>?_) (fun h=>?_)
 conv=>whnf
 cases h
 exact hK
 conv=>whnf
 refine ⟨_,hb12,?_⟩
 conv=>whnf
 refine vNot ?_
 refine vIfB h (fun h=>?_) (fun h=>?_)
 conv=>whnf
 refine vNots ?_
 refine vIfD h (fun h=>?_) (fun h=>?_)
 conv=>whnf
 refine vBind h (fun markEdit1 hb89 h=>?_)
 conv=>whnf
 refine vBind h (fun heldEdit0 hb90 h=>?_)
 conv=>whnf
 refine vIfD h (fun h=>?_) (fun h=>?_)
 conv=>whnf
 cases h
 exact hK
 conv=>whnf
 refine vNots ?_
 refine vIfD h (fun h=>?_) (fun h=>?_)
 conv=>whnf
 refine ⟨by kernel_rfl,?_⟩
 conv=>whnf
 refine ⟨?_,?_⟩
 conv=>whnf
 refine ⟨_,hb2,?_⟩
 conv=>whnf
 intro fp91
 conv=>whnf
 intro fp92
 conv=>whnf
 intro fp93
 conv=>whnf
 refine ⟨?_,?_⟩
 conv=>whnf
 refine ⟨_,hb6,?_⟩
 conv=>whnf
 refine ⟨?_,?_⟩
 conv=>whnf
 refine ⟨_,hb11,?_⟩
 conv=>whnf
 refine ⟨_,hb12,?_⟩
 conv=>whnf
 refine vNot ?_
 refine vIfB h (fun h=>?_) (fun h=>?_)
 conv=>whnf
 refine vNots ?_
 refine vIfD h (fun h=>?_) (fun h=>?_)
 conv=>whnf
 refine ⟨_,hb90,?_⟩
 conv=>whnf
 refine vIfD h (fun h=>?_) (fun h=>?_)
 conv=>whnf
 cases h
 exact hK
 conv=>whnf
 refine vNots ?_
 refine vIfD h (fun h=>?_) (fun h=>?_)
 conv=>whnf
 cases h
 exact hK
 conv=>whnf
 cases h
 exact hK
 conv=>whnf
 cases h
 exact hK
 conv=>whnf
 cases h
 exact hK
 conv=>whnf
 refine ⟨_,hb11,?_⟩
 conv=>whnf
 refine ⟨_,hb12,?_⟩
 conv=>whnf
 refine vNot ?_
 refine vIfB h (fun h=>?_) (fun h=>?_)
 conv=>whnf
 refine vNots ?_
 refine vIfD h (fun h=>?_) (fun h=>?_)
 conv=>whnf
 refine ⟨_,hb90,?_⟩
 conv=>whnf
 refine vIfD h (fun h=>?_) (fun h=>?_)
 conv=>whnf
 cases h
 exact hK
 conv=>whnf
 refine vNots ?_
 refine vIfD h (fun h=>?_) (fun h=>?_)
 conv=>whnf
 cases h
 exact hK
 conv=>whnf
 cases h
 exact hK
 conv=>whnf
 cases h
 exact hK
 conv=>whnf
 cases h
 exact hK
 conv=>whnf
 refine ⟨_,hb6,?_⟩
 conv=>whnf
 refine ⟨_,hb11,?_⟩
 conv=>whnf
 refine ⟨_,hb12,?_⟩
 conv=>whnf
 refine vNot ?_
 refine vIfB h (fun h=>?_) (fun h=>?_)
 conv=>whnf
 refine vNots ?_
 refine vIfD h (fun h=>?_) (fun h=>?_)
 conv=>whnf
 refine ⟨_,hb90,?_⟩
 conv=>whnf
 refine vIfD h (fun h=>?_) (fun h=>?_)
 conv=>whnf
 cases h
 exact hK
 conv=>whnf
 refine vNots ?_
 refine vIfD h (fun h=>?_) (fun h=>?_)
 conv=>whnf
 cases h
 exact hK
 conv=>whnf
 cases h
 exact hK
 conv=>whnf
 cases h
 exact hK
 conv=>whnf
 cases h
 exact hK
 conv=>whnf
 refine ⟨_,hb2,?_⟩
 conv=>whnf
 intro fp94
 conv=>whnf
 intro fp95
 conv=>whnf
 intro fp96
 conv=>whnf
 refine ⟨_,hb6,?_⟩
 conv=>whnf
 refine ⟨_,hb11,?_⟩
 conv=>whnf
 refine ⟨_,hb12,?_⟩
 conv=>whnf
 refine vNot ?_
 refine vIfB h (fun h=>?_) (fun h=>?_)
 conv=>whnf
 refine vNots ?_
 refine vIfD h (fun h=>?_) (fun h=>?_)
 conv=>whnf
 refine ⟨_,hb90,?_⟩
 conv=>whnf
 refine vIfD h (fun h=>?_) (fun h=>?_)
 conv=>whnf
 cases h
 exact hK
 conv=>whnf
 refine vNots ?_
 refine vIfD h (fun h=>?_) (fun h=>?_)
 conv=>whnf
 cases h
 exact hK
 conv=>whnf
 cases h
 exact hK
 conv=>whnf
 cases h
 exact hK
 conv=>whnf
 cases h
 exact hK
 conv=>whnf
 cases h
 exact hK
 conv=>whnf
 cases h
 exact hK
 conv=>whnf
 cases h
 exact hK
 conv=>whnf
 cases h
 exact hK
 conv=>whnf
 cases h
 exact hK
 conv=>whnf
 cases h
 exact hK
 conv=>whnf
 cases h
 exact hK
theorem w193 (q0:SoundC Tryz.prog 76 c192):SoundC Tryz.prog 35 c193:=by
 refine fn_sound tabD_ok (gam_cons q0 gam_nil) mixed {} (fn:=Tryz.f35) Tryz.func35 (by kernel_rfl) (by kernel_rfl) ?_
 rintro ⟨a0,k0,⟨⟩⟩ K ⟨r,h,hK⟩
 change laws_markLibrary a0 k0=some r at h
 unfold laws_markLibrary at h
 conv=>whnf
 intro fp0
 conv=>whnf
 refine vBind h (fun markCellS0 hb1 h=>?_)
 conv=>whnf
 intro fp2
 conv=>whnf
 cases h
 exact hK
theorem w5 (q0:SoundC Tryz.prog 195 c4):SoundC Tryz.prog 174 c5:=by
 refine fn_sound tab_ok (gam_cons q0 gam_nil) mixed {} (fn:=Tryz.f174) Tryz.func174 (by kernel_rfl) (by kernel_rfl) ?_
 rintro ⟨a0,left0,⟨⟩⟩ K ⟨r,h,hK⟩
 change laws_szArc a0 left0=some r at h
 unfold laws_szArc at h
 conv=>whnf
 refine vBind h (fun szTableS0 hb0 h=>?_)
 conv=>whnf
 refine vIfD h (fun h=>?_) (fun h=>?_)
 conv=>whnf
 cases h
 exact hK
 conv=>whnf
 refine vBind h (fun szTableS1 hb1 h=>?_)
 conv=>whnf
 refine vIfD h (fun h=>?_) (fun h=>?_)
 conv=>whnf
 cases h
 exact hK
 conv=>whnf
 cases h
 exact hK
theorem w2:SoundC Tryz.prog 49 c2:=by
 refine fn_sound tab_ok gam_nil mixed {} (fn:=Tryz.f49) Tryz.func49 (by kernel_rfl) (by kernel_rfl) ?_
 rintro ⟨a0,left0,⟨⟩⟩ K ⟨r,h,hK⟩
 change laws_szInt64S a0 left0=some r at h
 unfold laws_szInt64S at h
 conv=>whnf
 refine vIfD h (fun h=>?_) (fun h=>?_)
 conv=>whnf
 cases h
 exact hK
 conv=>whnf
 cases h
 exact hK
theorem w16 (q0:SoundC Tryz.prog 49 c2):SoundC Tryz.prog 22 c16:=by
 refine fn_sound tab_ok (gam_cons q0 gam_nil) mixed {} (fn:=Tryz.f22) Tryz.func22 (by kernel_rfl) (by kernel_rfl) ?_
 rintro ⟨a0,left0,⟨⟩⟩ K ⟨r,h,hK⟩
 change laws_szWire a0 left0=some r at h
 unfold laws_szWire at h
 conv=>whnf
 refine vBind h (fun szInt64S0 hb0 h=>?_)
 conv=>whnf
 refine vIfD h (fun h=>?_) (fun h=>?_)
 conv=>whnf
 cases h
 exact hK
 conv=>whnf
 refine vBind h (fun szInt64S1 hb1 h=>?_)
 conv=>whnf
 refine vIfD h (fun h=>?_) (fun h=>?_)
 conv=>whnf
 cases h
 exact hK
 conv=>whnf
 refine vBind h (fun szInt64S2 hb2 h=>?_)
 conv=>whnf
 refine vIfD h (fun h=>?_) (fun h=>?_)
 conv=>whnf
 cases h
 exact hK
 conv=>whnf
 refine vBind h (fun szInt64S3 hb3 h=>?_)
 conv=>whnf
 refine vIfD h (fun h=>?_) (fun h=>?_)
 conv=>whnf
 cases h
 exact hK
 conv=>whnf
 cases h
 exact hK
theorem w17 (q0:SoundC Tryz.prog 22 c16):SoundC Tryz.prog 21 c17:=by
 refine fn_sound tab_ok (gam_cons q0 gam_nil) mixed {loops:=[(0,[.reg 1 (.dat (.int .i64)),.reg 5 (.dat (.int .i64))])]} (fn:=Tryz.f21) Tryz.func21 (by kernel_rfl) (by kernel_rfl) ?_
 rintro ⟨a0,left0,⟨⟩⟩ K ⟨r,h,hK⟩
 change laws_szWireS a0 left0=some r at h
 unfold laws_szWireS at h
 conv=>whnf
 refine vIfD h (fun h=>?_) (fun h=>?_)
 conv=>whnf
 cases h
 exact hK
 conv=>whnf
 refine vLoop h ?_
 rintro I0 μ0 ⟨left1,i0,⟨⟩⟩ zs0 h hI0 hR0
 change laws_szWireS_loop0 a0 left1 i0=some zs0 at h
 unfold laws_szWireS_loop0 at h
 conv=>whnf
 refine vIfD h (fun h=>?_) (fun h=>?_)
 conv=>whnf
 refine vAt h (fun x0 he1a he1b he1x h=>?_)
 conv=>whnf
 refine vBind h (fun szWire0 hb2 h=>?_)
 conv=>whnf
 refine vIfD h (fun h=>?_) (fun h=>?_)
 conv=>whnf
 cases h
 obtain rfl:=hR0 _ rfl
 exact hK
 conv=>whnf
 cases h
 exact ⟨⟨rfl,rfl⟩,hI0 _ rfl⟩
 conv=>whnf
 cases h
 obtain rfl:=hR0 _ rfl
 exact hK
theorem w35 (q0:SoundC Tryz.prog 59 c31) (q1:SoundC Tryz.prog 60 c32) (q2:SoundC Tryz.prog 61 c34):SoundC Tryz.prog 26 c35:=by
 refine fn_sound tabD_ok (gam_cons q0 (gam_cons q1 (gam_cons q2 gam_nil))) mixed {} (fn:=Tryz.f26) Tryz.func26 (by kernel_rfl) (by kernel_rfl) ?_
 rintro ⟨a0,⟨⟩⟩ K ⟨r,h,hK⟩
 change laws_toDesign a0=some r at h
 unfold laws_toDesign at h
 conv=>whnf
 refine vBind h (fun toInstanceS0 hb0 h=>?_)
 conv=>whnf
 intro fp1
 conv=>whnf
 refine vBind h (fun toStringS0 hb2 h=>?_)
 conv=>whnf
 refine vBind h (fun toPortS0 hb3 h=>?_)
 conv=>whnf
 cases h
 exact hK
theorem w22:SoundC Tryz.prog 62 c22:=by
 refine fn_sound tab_ok gam_nil mixed {loops:=[(0,[.reg 4 (.dat (.int .i64)),.ent 0 (nat_lit 2) (.flat ti33.ety)])]} (fn:=Tryz.f62) Tryz.func62 (by kernel_rfl) (by kernel_rfl) ?_
 rintro ⟨a0,⟨⟩⟩ K ⟨r,h,hK⟩
 change laws_toInt64S a0=some r at h
 unfold laws_toInt64S at h
 conv=>whnf
 refine vPre h (fun hp0 h=>?_)
 conv=>whnf
 refine vPre h (fun hp1 h=>?_)
 conv=>whnf
 refine vPre h (fun hp2 h=>?_)
 conv=>whnf
 refine vPre h (fun hp3 h=>?_)
 conv=>whnf
 refine vLoop h ?_
 rintro I4 μ4 ⟨i0,l0,⟨⟩⟩ zs4 h hI4 hR4
 change laws_toInt64S_loop0 a0 i0 l0=some zs4 at h
 unfold laws_toInt64S_loop0 at h
 conv=>whnf
 refine vIfD h (fun h=>?_) (fun h=>?_)
 conv=>whnf
 refine vAt h (fun x0 he5a he5b he5x h=>?_)
 conv=>whnf
 refine vAt h (fun x1 he6a he6b he6x h=>?_)
 conv=>whnf
 refine ⟨by kernel_rfl,?_⟩
 conv=>whnf
 refine ⟨by decide,?_⟩
 conv=>whnf
 refine ⟨he6a,he6b,vAgain he6x ?_⟩
 conv=>whnf
 cases h
 exact ⟨⟨rfl,rfl⟩,hI4 _ rfl⟩
 conv=>whnf
 cases h
 obtain rfl:=hR4 _ rfl
 exact hK
theorem w122 (q0:SoundC Tryz.prog 182 c121):SoundC Tryz.prog 146 c122:=by
 refine fn_sound tab_ok (gam_cons q0 gam_nil) mixed {} (fn:=Tryz.f146) Tryz.func146 (by kernel_rfl) (by kernel_rfl) ?_
 rintro ⟨s0,f0,⟨⟩⟩ K ⟨r,h,hK⟩
 change slices_ContainsFunc_Sint_int_at_impl_IsDesign_c1 s0 f0=some r at h
 unfold slices_ContainsFunc_Sint_int_at_impl_IsDesign_c1 at h
 conv=>whnf
 refine vBind h (fun c1_0 hb0 h=>?_)
 conv=>whnf
 cases h
 exact hK
theorem w78 (q0:SoundC Tryz.prog 191 c77):SoundC Tryz.prog 203 c78:=by
 refine fn_sound tab_ok (gam_cons q0 gam_nil) mixed {} (fn:=Tryz.f203) Tryz.func203 (by kernel_rfl) (by kernel_rfl) ?_
 rintro ⟨s0,v0,⟨⟩⟩ K ⟨r,h,hK⟩
 change slices_Contains_Sstring_string s0 v0=some r at h
 unfold slices_Contains_Sstring_string at h
 conv=>whnf
 refine vBind h (fun string0 hb0 h=>?_)
 conv=>whnf
 cases h
 exact hK
theorem w84 (q0:SoundC Tryz.prog 183 c83):SoundC Tryz.prog 204 c84:=by
 refine fn_sound tab_ok (gam_cons q0 gam_nil) mixed {loops:=[(0,[.reg 8 (.dat (.int .i64))])]} (fn:=Tryz.f204) Tryz.func204 (by kernel_rfl) (by kernel_rfl) ?_
 rintro ⟨s0,f0,⟨⟩⟩ K ⟨r,h,hK⟩
 change slices_IndexFunc_Sint64_int64_at_impl_areWithin_c1 s0 f0=some r at h
 unfold slices_IndexFunc_Sint64_int64_at_impl_areWithin_c1 at h
 conv=>whnf
 refine vLoop h ?_
 rintro I0 μ0 ⟨v0,⟨⟩⟩ zs0 h hI0 hR0
 change slices_IndexFunc_Sint64_int64_at_impl_areWithin_c1_loop0 s0 f0 v0=some zs0 at h
 unfold slices_IndexFunc_Sint64_int64_at_impl_areWithin_c1_loop0 at h
 conv=>whnf
 refine vIfD h (fun h=>?_) (fun h=>?_)
 conv=>whnf
 refine vAt h (fun x0 he1a he1b he1x h=>?_)
 conv=>whnf
 refine vBind h (fun c1_0 hb2 h=>?_)
 conv=>whnf
 refine vIfB h (fun h=>?_) (fun h=>?_)
 conv=>whnf
 cases h
 obtain rfl:=hR0 _ rfl
 exact hK
 conv=>whnf
 cases h
 exact ⟨⟨rfl,rfl⟩,hI0 _ rfl⟩
 conv=>whnf
 cases h
 obtain rfl:=hR0 _ rfl
 exact hK
theorem w77:SoundC Tryz.prog 191 c77:=by
 refine fn_sound tab_ok gam_nil mixed {loops:=[(0,[.reg 8 (.dat (.int .i64))])]} (fn:=Tryz.f191) Tryz.func191 (by kernel_rfl) (by kernel_rfl) ?_
 rintro ⟨s0,v0,⟨⟩⟩ K ⟨r,h,hK⟩
 change slices_Index_Sstring_string s0 v0=some r at h
 unfold slices_Index_Sstring_string at h
 conv=>whnf
 refine vLoop h ?_
 rintro I0 μ0 ⟨v1,⟨⟩⟩ zs0 h hI0 hR0
 change slices_Index_Sstring_string_loop0 s0 v0 v1=some zs0 at h
 unfold slices_Index_Sstring_string_loop0 at h
 conv=>whnf
 refine vIfD h (fun h=>?_) (fun h=>?_)
 conv=>whnf
 refine vAt h (fun x0 he1a he1b he1x h=>?_)
 conv=>whnf
 refine vIfD h (fun h=>?_) (fun h=>?_)
 conv=>whnf
 cases h
 obtain rfl:=hR0 _ rfl
 exact hK
 conv=>whnf
 cases h
 exact ⟨⟨rfl,rfl⟩,hI0 _ rfl⟩
 conv=>whnf
 cases h
 obtain rfl:=hR0 _ rfl
 exact hK
theorem w64 (q0:SoundC Tryz.prog 138 c63):SoundC Tryz.prog 104 c64:=by
 refine fn_sound tab_ok (gam_cons q0 gam_nil) mixed {} (fn:=Tryz.f104) Tryz.func104 (by kernel_rfl) (by kernel_rfl) ?_
 rintro ⟨d0,name0,⟨⟩⟩ K ⟨r,h,hK⟩
 change spec_NetNamed d0 name0=some r at h
 unfold spec_NetNamed at h
 conv=>whnf
 refine vBind h (fun l04Index0 hb0 h=>?_)
 conv=>whnf
 cases h
 exact hK
theorem w71 (q0:SoundC Tryz.prog 106 c70):SoundC Tryz.prog 57 c71:=by
 refine fn_sound tab_ok (gam_cons q0 gam_nil) mixed {draws:=[(1,[0,1,3,0,8,31,0,64,255,0,512,2047,4095,8191],.op 0 (.op 1 (.op 3 (.op 4 (.op 6 (.op 7 (.op 9 (.op 10 (.alt 2 (.alt 5 (.alt 8 (.alt 11 (.op 12 (.alt 13 (.done) (.done))) (.done)) (.done)) (.done)) (.done))))))))))]} (fn:=Tryz.f57) Tryz.func57 (by kernel_rfl) (by kernel_rfl) ?_
 rintro ⟨w0,⟨⟩⟩ K ⟨r,h,hK⟩
 change spec_l07OwnWire w0=some r at h
 unfold spec_l07OwnWire at h
 conv=>whnf
 refine ⟨by kernel_rfl,?_⟩
 conv=>whnf
 refine vBind h (fun l02Ints0 hb0 h=>?_)
 conv=>whnf
 refine vBind h (fun l02Ints1 hb1 h=>?_)
 conv=>whnf
 refine vBind h (fun l02Ints2 hb2 h=>?_)
 conv=>whnf
 refine vBind h (fun l02Ints3 hb3 h=>?_)
 conv=>whnf
 cases h
 exact hK
end Go.Proofs.YtpkjjgdhmafonaaGreatDoor
