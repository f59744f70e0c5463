/-
  The functions keep their contracts, if what they call does. Printed by program.
-/
import Derived.Test.YtaccffcigblceaaGreatDoorM
import Derived.KernelRfl
namespace Go.Proofs.YtaccffcigblceaaGreatDoor
open Go Go.Sx
set_option maxRecDepth 100000
set_option linter.unusedVariables false
set_option linter.unusedSimpArgs false
theorem w_impl_Design_sinks (q0 : SoundC Tryz.prog 102 c_impl_Design_places) : SoundC Tryz.prog 168 c_impl_Design_sinks := by
 refine fn_sound tab_ok (gam_cons q0 gam_nil) mixed { loops := [(0, [.reg 5 (.own (.ol 2 (.flat (.int .i64)))), .reg 11 (.dat (.int .i64))])] } (fn := Tryz.f168) Tryz.func168 (by kernel_rfl) (by kernel_rfl) ?_
 rintro ⟨d0, net0, ⟨⟩⟩ K ⟨r, h, hK⟩
 change impl_Design_sinks d0 net0 = some r at h
 unfold impl_Design_sinks at h
 conv => whnf
 refine vBind h (fun places0 hb0 h => ?_)
 conv => whnf
 refine vLoop h ?_
 rintro I1 μ1 ⟨list0, v0, ⟨⟩⟩ zs1 h hI1 hR1
 change impl_Design_sinks_loop0 net0 places0 list0 v0 = some zs1 at h
 unfold impl_Design_sinks_loop0 at h
 conv => whnf
 refine vIfD h (fun h => ?_) (fun h => ?_)
 conv => whnf
 refine vAt h (fun x0 he2a he2b he2x h => ?_)
 conv => whnf
 refine ⟨by kernel_rfl, ?_⟩
 conv => whnf
 refine ⟨he2a, he2b, vAgain he2x ?_⟩
 conv => whnf
 refine vIfD h (fun h => ?_) (fun h => ?_)
 conv => whnf
 refine vNots ?_
 refine vIfB h (fun h => ?_) (fun h => ?_)
 conv => whnf
 cases h
 exact ⟨⟨rfl, rfl⟩, hI1 _ rfl⟩
 conv => whnf
 refine vPre h (fun hp3 h => ?_)
 conv => whnf
 cases h
 exact ⟨⟨rfl, rfl⟩, hI1 _ rfl⟩
 conv => whnf
 cases h
 exact ⟨⟨rfl, rfl⟩, hI1 _ rfl⟩
 conv => whnf
 cases h
 obtain rfl := hR1 _ rfl
 exact hK
theorem w_impl_Edit_placesAfter (q0 : SoundC Tryz.prog 101 c_impl_length_impl_Instance) (q1 : SoundC Tryz.prog 102 c_impl_Design_places) : SoundC Tryz.prog 46 c_impl_Edit_placesAfter := by
 refine fn_sound tab_ok (gam_cons q0 (gam_cons q1 gam_nil)) mixed { loops := [(0, [.reg 5 (.own (.ol 2 (.flat (.int .i64)))), .reg 19 (.dat (.int .i64))])] } (fn := Tryz.f46) Tryz.func46 (by kernel_rfl) (by kernel_rfl) ?_
 rintro ⟨e0, b0, ⟨⟩⟩ K ⟨r, h, hK⟩
 change impl_Edit_placesAfter e0 b0 = some r at h
 unfold impl_Edit_placesAfter at h
 conv => whnf
 refine vBind h (fun Instance0 hb0 h => ?_)
 conv => whnf
 refine vBind h (fun places0 hb1 h => ?_)
 conv => whnf
 refine vLoop h ?_
 rintro I2 μ2 ⟨out0, v0, ⟨⟩⟩ zs2 h hI2 hR2
 change impl_Edit_placesAfter_loop0 e0 Instance0 places0 out0 v0 = some zs2 at h
 unfold impl_Edit_placesAfter_loop0 at h
 conv => whnf
 refine vIfD h (fun h => ?_) (fun h => ?_)
 conv => whnf
 refine vAt h (fun x0 he3a he3b he3x h => ?_)
 conv => whnf
 refine ⟨by kernel_rfl, ?_⟩
 conv => whnf
 refine ⟨he3a, he3b, vAgain he3x ?_⟩
 conv => whnf
 refine vIfD h (fun h => ?_) (fun h => ?_)
 conv => whnf
 refine vIfD h (fun h => ?_) (fun h => ?_)
 conv => whnf
 refine vPre h (fun hp4 h => ?_)
 conv => whnf
 cases h
 exact ⟨⟨rfl, rfl⟩, hI2 _ rfl⟩
 conv => whnf
 refine vIfD h (fun h => ?_) (fun h => ?_)
 conv => whnf
 refine vIfD h (fun h => ?_) (fun h => ?_)
 conv => whnf
 refine vPre h (fun hp5 h => ?_)
 conv => whnf
 cases h
 exact ⟨⟨rfl, rfl⟩, hI2 _ rfl⟩
 conv => whnf
 refine vIfD h (fun h => ?_) (fun h => ?_)
 conv => whnf
 refine vIfD h (fun h => ?_) (fun h => ?_)
 conv => whnf
 refine vPre h (fun hp6 h => ?_)
 conv => whnf
 cases h
 exact ⟨⟨rfl, rfl⟩, hI2 _ rfl⟩
 conv => whnf
 refine vPre h (fun hp7 h => ?_)
 conv => whnf
 cases h
 exact ⟨⟨rfl, rfl⟩, hI2 _ rfl⟩
 conv => whnf
 refine vPre h (fun hp8 h => ?_)
 conv => whnf
 cases h
 exact ⟨⟨rfl, rfl⟩, hI2 _ rfl⟩
 conv => whnf
 refine vIfD h (fun h => ?_) (fun h => ?_)
 conv => whnf
 refine vIfD h (fun h => ?_) (fun h => ?_)
 conv => whnf
 refine vPre h (fun hp9 h => ?_)
 conv => whnf
 cases h
 exact ⟨⟨rfl, rfl⟩, hI2 _ rfl⟩
 conv => whnf
 refine vPre h (fun hp10 h => ?_)
 conv => whnf
 cases h
 exact ⟨⟨rfl, rfl⟩, hI2 _ rfl⟩
 conv => whnf
 refine vPre h (fun hp11 h => ?_)
 conv => whnf
 cases h
 exact ⟨⟨rfl, rfl⟩, hI2 _ rfl⟩
 conv => whnf
 refine vIfD h (fun h => ?_) (fun h => ?_)
 conv => whnf
 refine vIfD h (fun h => ?_) (fun h => ?_)
 conv => whnf
 refine vPre h (fun hp12 h => ?_)
 conv => whnf
 cases h
 exact ⟨⟨rfl, rfl⟩, hI2 _ rfl⟩
 conv => whnf
 refine vIfD h (fun h => ?_) (fun h => ?_)
 conv => whnf
 refine vIfD h (fun h => ?_) (fun h => ?_)
 conv => whnf
 refine vPre h (fun hp13 h => ?_)
 conv => whnf
 cases h
 exact ⟨⟨rfl, rfl⟩, hI2 _ rfl⟩
 conv => whnf
 refine vPre h (fun hp14 h => ?_)
 conv => whnf
 cases h
 exact ⟨⟨rfl, rfl⟩, hI2 _ rfl⟩
 conv => whnf
 refine vPre h (fun hp15 h => ?_)
 conv => whnf
 cases h
 exact ⟨⟨rfl, rfl⟩, hI2 _ rfl⟩
 conv => whnf
 refine vIfD h (fun h => ?_) (fun h => ?_)
 conv => whnf
 refine vIfD h (fun h => ?_) (fun h => ?_)
 conv => whnf
 refine vPre h (fun hp16 h => ?_)
 conv => whnf
 cases h
 exact ⟨⟨rfl, rfl⟩, hI2 _ rfl⟩
 conv => whnf
 refine vPre h (fun hp17 h => ?_)
 conv => whnf
 cases h
 exact ⟨⟨rfl, rfl⟩, hI2 _ rfl⟩
 conv => whnf
 refine vPre h (fun hp18 h => ?_)
 conv => whnf
 cases h
 exact ⟨⟨rfl, rfl⟩, hI2 _ rfl⟩
 conv => whnf
 cases h
 obtain rfl := hR2 _ rfl
 exact hK
theorem w_impl_areWithin (q0 : SoundC Tryz.prog 234 c_slices_ContainsFunc_Sint64_int64_at_impl_areWithin_c1) : SoundC Tryz.prog 205 c_impl_areWithin := by
 refine fn_sound tab_ok (gam_cons q0 gam_nil) mixed {} (fn := Tryz.f205) Tryz.func205 (by kernel_rfl) (by kernel_rfl) ?_
 rintro ⟨list0, low0, high0, ⟨⟩⟩ K ⟨r, h, hK⟩
 change impl_areWithin list0 low0 high0 = some r at h
 unfold impl_areWithin at h
 conv => whnf
 refine vBind h (fun c1_0 hb0 h => ?_)
 conv => whnf
 cases h
 exact hK
theorem w_impl_carried : SoundC Tryz.prog 61 c_impl_carried := by
 refine fn_sound tab_ok gam_nil mixed {} (fn := Tryz.f61) Tryz.func61 (by kernel_rfl) (by kernel_rfl) ?_
 rintro ⟨after0, node0, ⟨⟩⟩ K ⟨r, h, hK⟩
 change impl_carried after0 node0 = some r at h
 unfold impl_carried at h
 conv => whnf
 refine ⟨by decide, ?_⟩
 conv => whnf
 refine vAt h (fun x0 he0a he0b he0x h => ?_)
 conv => whnf
 refine ⟨by decide, ?_⟩
 conv => whnf
 cases h
 exact hK
theorem w_impl_isAxis (q0 : SoundC Tryz.prog 117 c_impl_length_int64) (q3 : SoundC Tryz.prog 171 c_impl_within) (q2 : SoundC Tryz.prog 205 c_impl_areWithin) (q1 : SoundC Tryz.prog 225 c_impl_isIncreasing) : SoundC Tryz.prog 308 c_impl_isAxis := by
 refine fn_sound tab_ok (gam_cons q0 (gam_cons q3 (gam_cons q2 (gam_cons q1 gam_nil)))) mixed {} (fn := Tryz.f308) Tryz.func308 (by kernel_rfl) (by kernel_rfl) ?_
 rintro ⟨list0, ⟨⟩⟩ K ⟨r, h, hK⟩
 change impl_isAxis list0 = some r at h
 unfold impl_isAxis at h
 conv => whnf
 refine vBind h (fun int64_0 hb0 h => ?_)
 conv => whnf
 refine vBind h (fun within0 hb1 h => ?_)
 conv => whnf
 refine vIfB h (fun h => ?_) (fun h => ?_)
 conv => whnf
 refine vBind h (fun areWithin0 hb2 h => ?_)
 conv => whnf
 refine vIfB h (fun h => ?_) (fun h => ?_)
 conv => whnf
 refine vBind h (fun isIncreasing0 hb3 h => ?_)
 conv => whnf
 cases h
 exact hK
 conv => whnf
 cases h
 exact hK
 conv => whnf
 cases h
 exact hK
theorem w_impl_isName (q2 : SoundC Tryz.prog 171 c_impl_within) (q1 : SoundC Tryz.prog 242 c_strings_Trim) (q0 : SoundC Tryz.prog 243 c_strings_IndexByte) : SoundC Tryz.prog 212 c_impl_isName := by
 refine fn_sound tab_ok (gam_cons q2 (gam_cons q1 (gam_cons q0 gam_nil))) mixed {} (fn := Tryz.f212) Tryz.func212 (by kernel_rfl) (by kernel_rfl) ?_
 rintro ⟨s0, ⟨⟩⟩ K ⟨r, h, hK⟩
 change impl_isName s0 = some r at h
 unfold impl_isName at h
 conv => whnf
 refine vBind h (fun within0 hb0 h => ?_)
 conv => whnf
 refine vIfB h (fun h => ?_) (fun h => ?_)
 conv => whnf
 refine vPre h (fun hp1 h => ?_)
 conv => whnf
 refine ⟨by decide, ?_⟩
 conv => whnf
 refine ⟨by kernel_rfl, ?_⟩
 conv => whnf
 refine vIfD h (fun h => ?_) (fun h => ?_)
 conv => whnf
 refine vAt h (fun x0 he2a he2b he2x h => ?_)
 conv => whnf
 cases h
 exact hK
 conv => whnf
 cases h
 exact hK
 conv => whnf
 cases h
 exact hK
theorem w_impl_length_impl_Cell : SoundC Tryz.prog 209 c_impl_length_impl_Cell := by
 refine fn_sound tab_ok gam_nil mixed {} (fn := Tryz.f209) Tryz.func209 (by kernel_rfl) (by kernel_rfl) ?_
 rintro ⟨list0, ⟨⟩⟩ K ⟨r, h, hK⟩
 change impl_length_impl_Cell list0 = some r at h
 unfold impl_length_impl_Cell at h
 conv => whnf
 cases h
 exact hK
theorem w_impl_length_int64 : SoundC Tryz.prog 117 c_impl_length_int64 := by
 refine fn_sound tab_ok gam_nil mixed {} (fn := Tryz.f117) Tryz.func117 (by kernel_rfl) (by kernel_rfl) ?_
 rintro ⟨list0, ⟨⟩⟩ K ⟨r, h, hK⟩
 change impl_length_int64 list0 = some r at h
 unfold impl_length_int64 at h
 conv => whnf
 cases h
 exact hK
theorem w_laws_FnExactSourcesAfter (q9 : SoundC Tryz.prog 6 c_laws_szBlock) (q12 : SoundC Tryz.prog 7 c_laws_szEdit) (q4 : SoundC Tryz.prog 19 c_laws_szSourceS) (q10 : SoundC Tryz.prog 9 c_laws_toBlock) (q13 : SoundC Tryz.prog 10 c_laws_toEdit) (q5 : SoundC Tryz.prog 21 c_laws_toSourceS) (q0 : SoundC Tryz.prog 20 c_spec_SourcesAfter) (q1 : SoundC Tryz.prog 22 c_impl_SourcesAfter) (q6 : SoundC Tryz.prog 23 c_laws_eqSourceS) (q11 : SoundC Tryz.prog 13 c_laws_eqBlock) (q14 : SoundC Tryz.prog 14 c_laws_eqEdit) (q7 : SoundC Tryz.prog 15 c_laws_markBlock) (q8 : SoundC Tryz.prog 16 c_laws_markEdit) (q2 : SoundC Tryz.prog 24 c_laws_markSourceS) (q3 : SoundC Tryz.prog 25 c_laws_heldSourceS) : SoundC Tryz.prog 4 c_laws_FnExactSourcesAfter := by
 refine fn_sound tab_ok (gam_cons q9 (gam_cons q12 (gam_cons q4 (gam_cons q10 (gam_cons q13 (gam_cons q5 (gam_cons q0 (gam_cons q1 (gam_cons q6 (gam_cons q11 (gam_cons q14 (gam_cons q7 (gam_cons q8 (gam_cons q2 (gam_cons q3 gam_nil))))))))))))))) mixed { draws := [(11, [0, 1, 0, 7, 0, 31, 63, 127, 255, 255, 511, 2047], .op 0 (.op 2 (.op 4 (.alt 1 (.alt 3 (.alt 5 (.alt 6 (.op 7 (.op 8 (.op 9 (.op 10 (.op 11 (.done)))))) (.done)) (.done)) (.done)) (.done))))), (18, [0, 0, 2, 7, 15], .op 0 (.op 1 (.alt 2 (.alt 3 (.op 4 (.done)) (.done)) (.done)))), (20, [0, 0, 2, 7, 15], .op 0 (.op 1 (.alt 2 (.alt 3 (.op 4 (.done)) (.done)) (.done)))), (38, [0, 1, 0, 7, 0, 31, 63, 127, 255, 255, 511, 2047], .op 0 (.op 2 (.op 4 (.alt 1 (.alt 3 (.alt 5 (.alt 6 (.op 7 (.op 8 (.op 9 (.op 10 (.op 11 (.done)))))) (.done)) (.done)) (.done)) (.done)))))] } (fn := Tryz.f4) Tryz.func4 (by kernel_rfl) (by kernel_rfl) ?_
 rintro ⟨a0, a1, a2, ⟨⟩⟩ K ⟨r, h, hK⟩
 change laws_FnExactSourcesAfter a0 a1 a2 = some r at h
 unfold laws_FnExactSourcesAfter at h
 conv => whnf
 refine vBind h (fun szBlock0 hb0 h => ?_)
 conv => whnf
 refine vIfD h (fun h => ?_) (fun h => ?_)
 conv => whnf
 cases h
 exact hK
 conv => whnf
 refine vBind h (fun szEdit0 hb1 h => ?_)
 conv => whnf
 refine vIfD h (fun h => ?_) (fun h => ?_)
 conv => whnf
 cases h
 exact hK
 conv => whnf
 refine vBind h (fun szSourceS0 hb2 h => ?_)
 conv => whnf
 refine vIfD h (fun h => ?_) (fun h => ?_)
 conv => whnf
 cases h
 exact hK
 conv => whnf
 refine ⟨by kernel_rfl, ?_⟩
 conv => whnf
 refine vBind h (fun toBlock0 hb3 h => ?_)
 conv => whnf
 intro fp4
 conv => whnf
 intro fp5
 conv => whnf
 intro fp6
 conv => whnf
 refine vBind h (fun toEdit0 hb7 h => ?_)
 conv => whnf
 refine vBind h (fun toSourceS0 hb8 h => ?_)
 conv => whnf
 refine vBind h (fun SourcesAfter0 hb9 h => ?_)
 conv => whnf
 refine ⟨_, hb3, ?_⟩
 conv => whnf
 intro fp10
 conv => whnf
 intro fp11
 conv => whnf
 intro fp12
 conv => whnf
 refine ⟨_, hb7, ?_⟩
 conv => whnf
 refine ⟨_, hb8, ?_⟩
 conv => whnf
 refine vBind h (fun SourcesAfter1 hb13 h => ?_)
 conv => whnf
 refine vBind h (fun eqSourceS0 hb14 h => ?_)
 conv => whnf
 refine vNot ?_
 refine vIfB h (fun h => ?_) (fun h => ?_)
 conv => whnf
 refine vNots ?_
 refine vIfD h (fun h => ?_) (fun h => ?_)
 conv => whnf
 refine ⟨by kernel_rfl, ?_⟩
 conv => whnf
 refine ⟨_, hb3, ?_⟩
 conv => whnf
 intro fp15
 conv => whnf
 intro fp16
 conv => whnf
 intro fp17
 conv => whnf
 refine vBind h (fun eqBlock0 hb18 h => ?_)
 conv => whnf
 refine vNots ?_
 refine vIfB h (fun h => ?_) (fun h => ?_)
 conv => whnf
 refine ⟨by kernel_rfl, ?_⟩
 conv => whnf
 refine ⟨_, hb7, ?_⟩
 conv => whnf
 refine vBind h (fun eqEdit0 hb19 h => ?_)
 conv => whnf
 refine vNots ?_
 refine vIfB h (fun h => ?_) (fun h => ?_)
 conv => whnf
 refine ⟨_, hb8, ?_⟩
 conv => whnf
 refine vBind h (fun eqSourceS1 hb20 h => ?_)
 conv => whnf
 refine vNots ?_
 refine vIfB h (fun h => ?_) (fun h => ?_)
 conv => whnf
 refine vBind h (fun markBlock0 hb21 h => ?_)
 conv => whnf
 intro fp22
 conv => whnf
 intro fp23
 conv => whnf
 intro fp24
 conv => whnf
 refine vBind h (fun markEdit0 hb25 h => ?_)
 conv => whnf
 refine vBind h (fun markSourceS0 hb26 h => ?_)
 conv => whnf
 refine vIfDs h (fun h => ?_) (fun h => ?_)
 conv => whnf
 cases h
 exact hK
 conv => whnf
 refine ⟨_, hb14, ?_⟩
 conv => whnf
 refine vNot ?_
 refine vIfB h (fun h => ?_) (fun h => ?_)
 conv => whnf
 refine vNots ?_
 refine vIfD h (fun h => ?_) (fun h => ?_)
 conv => whnf
 refine vBind h (fun markSourceS1 hb27 h => ?_)
 conv => whnf
 refine vBind h (fun heldSourceS0 hb28 h => ?_)
 conv => whnf
 refine vIfD h (fun h => ?_) (fun h => ?_)
 conv => whnf
 cases h
 exact hK
 conv => whnf
 refine vNots ?_
 refine vIfD h (fun h => ?_) (fun h => ?_)
 conv => whnf
 refine ⟨by kernel_rfl, ?_⟩
 conv => whnf
 refine ⟨_, hb3, ?_⟩
 conv => whnf
 intro fp29
 conv => whnf
 intro fp30
 conv => whnf
 intro fp31
 conv => whnf
 refine ⟨_, hb7, ?_⟩
 conv => whnf
 refine ⟨_, hb8, ?_⟩
 conv => whnf
 refine ⟨_, hb13, ?_⟩
 conv => whnf
 refine ⟨_, hb14, ?_⟩
 conv => whnf
 refine vNot ?_
 refine vIfB h (fun h => ?_) (fun h => ?_)
 conv => whnf
 refine vNots ?_
 refine vIfD h (fun h => ?_) (fun h => ?_)
 conv => whnf
 refine ⟨_, hb28, ?_⟩
 conv => whnf
 refine vIfD h (fun h => ?_) (fun h => ?_)
 conv => whnf
 cases h
 exact hK
 conv => whnf
 refine vNots ?_
 refine vIfD h (fun h => ?_) (fun h => ?_)
 conv => whnf
 cases h
 exact hK
 conv => whnf
 cases h
 exact hK
 conv => whnf
 cases h
 exact hK
 conv => whnf
 cases h
 exact hK
 conv => whnf
 cases h
 exact hK
 conv => whnf
 cases h
 exact hK
 conv => whnf
 cases h
 exact hK
 conv => whnf
 cases h
 exact hK
 conv => whnf
 cases h
 exact hK
 conv => whnf
 cases h
 exact hK
 conv => whnf
 cases h
 exact hK
 conv => whnf
 cases h
 exact hK
theorem w_laws_eqDesign (q0 : SoundC Tryz.prog 104 c_laws_eqInstanceS) (q1 : SoundC Tryz.prog 105 c_laws_eqStringS) (q2 : SoundC Tryz.prog 106 c_laws_eqPortS) : SoundC Tryz.prog 48 c_laws_eqDesign := by
 refine fn_sound tab_ok (gam_cons q0 (gam_cons q1 (gam_cons q2 gam_nil))) mixed {} (fn := Tryz.f48) Tryz.func48 (by kernel_rfl) (by kernel_rfl) ?_
 rintro ⟨a0, b0, ⟨⟩⟩ K ⟨r, h, hK⟩
 change laws_eqDesign a0 b0 = some r at h
 unfold laws_eqDesign at h
 conv => whnf
 refine vBind h (fun eqInstanceS0 hb0 h => ?_)
 conv => whnf
 refine vNots ?_
 refine vIfB h (fun h => ?_) (fun h => ?_)
 conv => whnf
 refine vBind h (fun eqStringS0 hb1 h => ?_)
 conv => whnf
 refine vNots ?_
 refine vIfB h (fun h => ?_) (fun h => ?_)
 conv => whnf
 refine vBind h (fun eqPortS0 hb2 h => ?_)
 conv => whnf
 refine vNots ?_
 refine vIfB h (fun h => ?_) (fun h => ?_)
 conv => whnf
 cases h
 exact hK
 conv => whnf
 cases h
 exact hK
 conv => whnf
 cases h
 exact hK
 conv => whnf
 cases h
 exact hK
theorem w_laws_eqEdit (q0 : SoundC Tryz.prog 50 c_laws_eqWire) : SoundC Tryz.prog 14 c_laws_eqEdit := by
 refine fn_sound tab_ok (gam_cons q0 gam_nil) mixed {} (fn := Tryz.f14) Tryz.func14 (by kernel_rfl) (by kernel_rfl) ?_
 rintro ⟨a0, b0, ⟨⟩⟩ K ⟨r, h, hK⟩
 change laws_eqEdit a0 b0 = some r at h
 unfold laws_eqEdit at h
 conv => whnf
 refine vNots ?_
 refine vIfD h (fun h => ?_) (fun h => ?_)
 conv => whnf
 refine vNots ?_
 refine vIfD h (fun h => ?_) (fun h => ?_)
 conv => whnf
 refine vNots ?_
 refine vIfD h (fun h => ?_) (fun h => ?_)
 conv => whnf
 refine vNots ?_
 refine vIfD h (fun h => ?_) (fun h => ?_)
 conv => whnf
 refine vNots ?_
 refine vIfD h (fun h => ?_) (fun h => ?_)
 conv => whnf
 refine vNots ?_
 refine vIfD h (fun h => ?_) (fun h => ?_)
 conv => whnf
 refine vBind h (fun eqWire0 hb0 h => ?_)
 conv => whnf
 refine vNots ?_
 refine vIfB h (fun h => ?_) (fun h => ?_)
 conv => whnf
 cases h
 exact hK
 conv => whnf
 cases h
 exact hK
 conv => whnf
 cases h
 exact hK
 conv => whnf
 cases h
 exact hK
 conv => whnf
 cases h
 exact hK
 conv => whnf
 cases h
 exact hK
 conv => whnf
 cases h
 exact hK
 conv => whnf
 cases h
 exact hK
theorem w_laws_eqPort : SoundC Tryz.prog 163 c_laws_eqPort := by
 refine fn_sound tab_ok gam_nil mixed {} (fn := Tryz.f163) Tryz.func163 (by kernel_rfl) (by kernel_rfl) ?_
 rintro ⟨a0, b0, ⟨⟩⟩ K ⟨r, h, hK⟩
 change laws_eqPort a0 b0 = some r at h
 unfold laws_eqPort at h
 conv => whnf
 refine vNots ?_
 refine vIfD h (fun h => ?_) (fun h => ?_)
 conv => whnf
 refine vNots ?_
 refine vIfD h (fun h => ?_) (fun h => ?_)
 conv => whnf
 refine vNots ?_
 refine vIfD h (fun h => ?_) (fun h => ?_)
 conv => whnf
 cases h
 exact hK
 conv => whnf
 cases h
 exact hK
 conv => whnf
 cases h
 exact hK
 conv => whnf
 cases h
 exact hK
theorem w_laws_eqPortS (q0 : SoundC Tryz.prog 163 c_laws_eqPort) : SoundC Tryz.prog 106 c_laws_eqPortS := by
 refine fn_sound tab_ok (gam_cons q0 gam_nil) mixed { loops := [(0, [.reg 5 (.dat (.int .i64))])], draws := [(6, [0, 0, 3, 7, 0, 0, 48, 112, 255, 511], .op 0 (.op 1 (.op 2 (.op 3 (.op 4 (.op 5 (.op 6 (.op 7 (.alt 8 (.op 9 (.done)) (.done))))))))))] } (fn := Tryz.f106) Tryz.func106 (by kernel_rfl) (by kernel_rfl) ?_
 rintro ⟨a0, b0, ⟨⟩⟩ K ⟨r, h, hK⟩
 change laws_eqPortS a0 b0 = some r at h
 unfold laws_eqPortS at h
 conv => whnf
 refine vNots ?_
 refine vIfD h (fun h => ?_) (fun h => ?_)
 conv => whnf
 refine vLoop h ?_
 rintro I0 μ0 ⟨i0, ⟨⟩⟩ zs0 h hI0 hR0
 change laws_eqPortS_loop0 a0 b0 i0 = some zs0 at h
 unfold laws_eqPortS_loop0 at h
 conv => whnf
 refine vIfD h (fun h => ?_) (fun h => ?_)
 conv => whnf
 refine ⟨by kernel_rfl, ?_⟩
 conv => whnf
 refine vAt h (fun x0 he1a he1b he1x h => ?_)
 conv => whnf
 refine vAt h (fun x1 he2a he2b he2x h => ?_)
 conv => whnf
 refine vBind h (fun eqPort0 hb3 h => ?_)
 conv => whnf
 refine vNots ?_
 refine vIfB h (fun h => ?_) (fun h => ?_)
 conv => whnf
 cases h
 exact ⟨⟨rfl, rfl⟩, hI0 _ rfl⟩
 conv => whnf
 cases h
 obtain rfl := hR0 _ rfl
 exact hK
 conv => whnf
 cases h
 obtain rfl := hR0 _ rfl
 exact hK
 conv => whnf
 cases h
 exact hK
theorem w_laws_eqWire (q0 : SoundC Tryz.prog 12 c_laws_eqInt64S) : SoundC Tryz.prog 50 c_laws_eqWire := by
 refine fn_sound tab_ok (gam_cons q0 gam_nil) mixed {} (fn := Tryz.f50) Tryz.func50 (by kernel_rfl) (by kernel_rfl) ?_
 rintro ⟨a0, b0, ⟨⟩⟩ K ⟨r, h, hK⟩
 change laws_eqWire a0 b0 = some r at h
 unfold laws_eqWire at h
 conv => whnf
 refine vBind h (fun eqInt64S0 hb0 h => ?_)
 conv => whnf
 refine vNots ?_
 refine vIfB h (fun h => ?_) (fun h => ?_)
 conv => whnf
 refine vBind h (fun eqInt64S1 hb1 h => ?_)
 conv => whnf
 refine vNots ?_
 refine vIfB h (fun h => ?_) (fun h => ?_)
 conv => whnf
 refine vBind h (fun eqInt64S2 hb2 h => ?_)
 conv => whnf
 refine vNots ?_
 refine vIfB h (fun h => ?_) (fun h => ?_)
 conv => whnf
 refine vBind h (fun eqInt64S3 hb3 h => ?_)
 conv => whnf
 refine vNots ?_
 refine vIfB h (fun h => ?_) (fun h => ?_)
 conv => whnf
 cases h
 exact hK
 conv => whnf
 cases h
 exact hK
 conv => whnf
 cases h
 exact hK
 conv => whnf
 cases h
 exact hK
 conv => whnf
 cases h
 exact hK
theorem w_laws_markArcS (q0 : SoundC Tryz.prog 218 c_laws_markTableS) : SoundC Tryz.prog 165 c_laws_markArcS := by
 refine fn_sound tabD_ok (gam_cons q0 gam_nil) mixed { loops := [(0, [.reg 1 (.dat (.int .i64)), .reg 5 (.dat (.int .i64)), .ent 0 (nat_lit 266) (Dp.pair (Dp.flat (Ty.int IntKind.i64)) (Dp.pair (Dp.flat (Ty.int IntKind.i64)) (Dp.pair (Dp.flat (Ty.int IntKind.i64)) (Dp.pair (Dp.flat (Ty.int IntKind.i64)) (Dp.pair (Dp.ol (329 : Go.TypeId) dTable) (Dp.pair (Dp.ol (329 : Go.TypeId) dTable) (Dp.flat Ty.unit)))))))])] } (fn := Tryz.f165) Tryz.func165 (by kernel_rfl) (by kernel_rfl) ?_
 rintro ⟨a0, k0, ⟨⟩⟩ K ⟨r, h, hK⟩
 change laws_markArcS a0 k0 = some r at h
 unfold laws_markArcS at h
 conv => whnf
 intro fp0
 conv => whnf
 refine vLoop h ?_
 rintro I1 μ1 ⟨k1, i0, l0, ⟨⟩⟩ zs1 h hI1 hR1
 change laws_markArcS_loop0 k1 i0 l0 = some zs1 at h
 unfold laws_markArcS_loop0 at h
 conv => whnf
 intro fp2
 conv => whnf
 refine vIfD h (fun h => ?_) (fun h => ?_)
 conv => whnf
 refine vAt h (fun x0 he3a he3b he3x h => ?_)
 conv => whnf
 refine ⟨he3a, he3b, vAgain he3x ?_⟩
 conv => whnf
 intro fp4
 conv => whnf
 intro fp5
 conv => whnf
 intro fp6
 conv => whnf
 refine ⟨he3a, he3b, vAgain he3x ?_⟩
 conv => whnf
 refine .inl ⟨rfl, ?_⟩
 conv => whnf
 refine ⟨he3a, he3b, vAgain he3x ?_⟩
 conv => whnf
 refine .inl ⟨rfl, ?_⟩
 conv => whnf
 refine ⟨he3a, he3b, vAgain he3x ?_⟩
 conv => whnf
 refine .inl ⟨rfl, ?_⟩
 conv => whnf
 refine ⟨he3a, he3b, vAgain he3x ?_⟩
 conv => whnf
 refine .inl ⟨rfl, ?_⟩
 conv => whnf
 refine vBind h (fun markTableS0 hb7 h => ?_)
 conv => whnf
 intro fp8
 conv => whnf
 refine ⟨he3a, he3b, vAgain he3x ?_⟩
 conv => whnf
 refine .inl ⟨rfl, ?_⟩
 conv => whnf
 refine vBind h (fun markTableS1 hb9 h => ?_)
 conv => whnf
 intro fp10
 conv => whnf
 cases h
 exact ⟨⟨rfl, rfl⟩, hI1 _ rfl⟩
 conv => whnf
 cases h
 obtain rfl := hR1 _ rfl
 exact hK
theorem w_laws_markWireS (q0 : SoundC Tryz.prog 17 c_laws_markInt64S) : SoundC Tryz.prog 53 c_laws_markWireS := by
 refine fn_sound tabD_ok (gam_cons q0 gam_nil) mixed { loops := [(0, [.reg 1 (.dat (.int .i64)), .reg 5 (.dat (.int .i64)), .ent 0 (nat_lit 53) (Dp.pair (Dp.ol (2 : Go.TypeId) (Dp.flat (Ty.int IntKind.i64))) (Dp.pair (Dp.ol (2 : Go.TypeId) (Dp.flat (Ty.int IntKind.i64))) (Dp.pair (Dp.ol (2 : Go.TypeId) (Dp.flat (Ty.int IntKind.i64))) (Dp.pair (Dp.ol (2 : Go.TypeId) (Dp.flat (Ty.int IntKind.i64))) (Dp.flat Ty.unit)))))])] } (fn := Tryz.f53) Tryz.func53 (by kernel_rfl) (by kernel_rfl) ?_
 rintro ⟨a0, k0, ⟨⟩⟩ K ⟨r, h, hK⟩
 change laws_markWireS a0 k0 = some r at h
 unfold laws_markWireS at h
 conv => whnf
 intro fp0
 conv => whnf
 refine vLoop h ?_
 rintro I1 μ1 ⟨k1, i0, l0, ⟨⟩⟩ zs1 h hI1 hR1
 change laws_markWireS_loop0 k1 i0 l0 = some zs1 at h
 unfold laws_markWireS_loop0 at h
 conv => whnf
 intro fp2
 conv => whnf
 refine vIfD h (fun h => ?_) (fun h => ?_)
 conv => whnf
 refine vAt h (fun x0 he3a he3b he3x h => ?_)
 conv => whnf
 refine ⟨he3a, he3b, vAgain he3x ?_⟩
 conv => whnf
 intro fp4
 conv => whnf
 refine vBind h (fun markInt64S0 hb5 h => ?_)
 conv => whnf
 refine ⟨he3a, he3b, vAgain he3x ?_⟩
 conv => whnf
 refine .inl ⟨rfl, ?_⟩
 conv => whnf
 refine vBind h (fun markInt64S1 hb6 h => ?_)
 conv => whnf
 refine ⟨he3a, he3b, vAgain he3x ?_⟩
 conv => whnf
 refine .inl ⟨rfl, ?_⟩
 conv => whnf
 refine vBind h (fun markInt64S2 hb7 h => ?_)
 conv => whnf
 refine ⟨he3a, he3b, vAgain he3x ?_⟩
 conv => whnf
 refine .inl ⟨rfl, ?_⟩
 conv => whnf
 refine vBind h (fun markInt64S3 hb8 h => ?_)
 conv => whnf
 cases h
 exact ⟨⟨rfl, rfl⟩, hI1 _ rfl⟩
 conv => whnf
 cases h
 obtain rfl := hR1 _ rfl
 exact hK
theorem w_laws_szCell (q1 : SoundC Tryz.prog 189 c_laws_szPinS) (q2 : SoundC Tryz.prog 190 c_laws_szArcS) (q0 : SoundC Tryz.prog 88 c_laws_szInt64S) : SoundC Tryz.prog 142 c_laws_szCell := by
 refine fn_sound tab_ok (gam_cons q1 (gam_cons q2 (gam_cons q0 gam_nil))) mixed {} (fn := Tryz.f142) Tryz.func142 (by kernel_rfl) (by kernel_rfl) ?_
 rintro ⟨a0, left0, ⟨⟩⟩ K ⟨r, h, hK⟩
 change laws_szCell a0 left0 = some r at h
 unfold laws_szCell at h
 conv => whnf
 refine vIfD h (fun h => ?_) (fun h => ?_)
 conv => whnf
 cases h
 exact hK
 conv => whnf
 refine vBind h (fun szPinS0 hb0 h => ?_)
 conv => whnf
 refine vIfD h (fun h => ?_) (fun h => ?_)
 conv => whnf
 cases h
 exact hK
 conv => whnf
 refine vBind h (fun szArcS0 hb1 h => ?_)
 conv => whnf
 refine vIfD h (fun h => ?_) (fun h => ?_)
 conv => whnf
 cases h
 exact hK
 conv => whnf
 refine vBind h (fun szInt64S0 hb2 h => ?_)
 conv => whnf
 refine vIfD h (fun h => ?_) (fun h => ?_)
 conv => whnf
 cases h
 exact hK
 conv => whnf
 cases h
 exact hK
theorem w_laws_szLibrary (q0 : SoundC Tryz.prog 84 c_laws_szCellS) : SoundC Tryz.prog 35 c_laws_szLibrary := by
 refine fn_sound tab_ok (gam_cons q0 gam_nil) mixed {} (fn := Tryz.f35) Tryz.func35 (by kernel_rfl) (by kernel_rfl) ?_
 rintro ⟨a0, left0, ⟨⟩⟩ K ⟨r, h, hK⟩
 change laws_szLibrary a0 left0 = some r at h
 unfold laws_szLibrary at h
 conv => whnf
 refine vBind h (fun szCellS0 hb0 h => ?_)
 conv => whnf
 refine vIfD h (fun h => ?_) (fun h => ?_)
 conv => whnf
 cases h
 exact hK
 conv => whnf
 cases h
 exact hK
theorem w_laws_szSourceS : SoundC Tryz.prog 19 c_laws_szSourceS := by
 refine fn_sound tab_ok gam_nil mixed {} (fn := Tryz.f19) Tryz.func19 (by kernel_rfl) (by kernel_rfl) ?_
 rintro ⟨a0, left0, ⟨⟩⟩ K ⟨r, h, hK⟩
 change laws_szSourceS a0 left0 = some r at h
 unfold laws_szSourceS at h
 conv => whnf
 refine vIfD h (fun h => ?_) (fun h => ?_)
 conv => whnf
 cases h
 exact hK
 conv => whnf
 cases h
 exact hK
theorem w_laws_toArc (q0 : SoundC Tryz.prog 256 c_laws_toTableS) : SoundC Tryz.prog 232 c_laws_toArc := by
 refine fn_sound tabD_ok (gam_cons q0 gam_nil) mixed {} (fn := Tryz.f232) Tryz.func232 (by kernel_rfl) (by kernel_rfl) ?_
 rintro ⟨a0, ⟨⟩⟩ K ⟨r, h, hK⟩
 change laws_toArc a0 = some r at h
 unfold laws_toArc at h
 conv => whnf
 refine vBind h (fun toTableS0 hb0 h => ?_)
 conv => whnf
 intro fp1
 conv => whnf
 refine vBind h (fun toTableS1 hb2 h => ?_)
 conv => whnf
 intro fp3
 conv => whnf
 cases h
 exact hK
theorem w_laws_toBlock (q0 : SoundC Tryz.prog 41 c_laws_toLibrary) (q1 : SoundC Tryz.prog 42 c_laws_toDesign) (q2 : SoundC Tryz.prog 43 c_laws_toWireS) : SoundC Tryz.prog 9 c_laws_toBlock := by
 refine fn_sound tabD_ok (gam_cons q0 (gam_cons q1 (gam_cons q2 gam_nil))) mixed {} (fn := Tryz.f9) Tryz.func9 (by kernel_rfl) (by kernel_rfl) ?_
 rintro ⟨a0, ⟨⟩⟩ K ⟨r, h, hK⟩
 change laws_toBlock a0 = some r at h
 unfold laws_toBlock at h
 conv => whnf
 refine vBind h (fun toLibrary0 hb0 h => ?_)
 conv => whnf
 intro fp1
 conv => whnf
 refine vBind h (fun toDesign0 hb2 h => ?_)
 conv => whnf
 intro fp3
 conv => whnf
 refine vBind h (fun toWireS0 hb4 h => ?_)
 conv => whnf
 intro fp5
 conv => whnf
 cases h
 exact hK
theorem w_laws_toDesign (q0 : SoundC Tryz.prog 95 c_laws_toInstanceS) (q1 : SoundC Tryz.prog 96 c_laws_toStringS) (q2 : SoundC Tryz.prog 97 c_laws_toPortS) : SoundC Tryz.prog 42 c_laws_toDesign := by
 refine fn_sound tabD_ok (gam_cons q0 (gam_cons q1 (gam_cons q2 gam_nil))) mixed {} (fn := Tryz.f42) Tryz.func42 (by kernel_rfl) (by kernel_rfl) ?_
 rintro ⟨a0, ⟨⟩⟩ K ⟨r, h, hK⟩
 change laws_toDesign a0 = some r at h
 unfold laws_toDesign at h
 conv => whnf
 refine vBind h (fun toInstanceS0 hb0 h => ?_)
 conv => whnf
 intro fp1
 conv => whnf
 refine vBind h (fun toStringS0 hb2 h => ?_)
 conv => whnf
 refine vBind h (fun toPortS0 hb3 h => ?_)
 conv => whnf
 cases h
 exact hK
theorem w_laws_toSource (q0 : SoundC Tryz.prog 115 c_laws_toSpan) : SoundC Tryz.prog 57 c_laws_toSource := by
 refine fn_sound tab_ok (gam_cons q0 gam_nil) mixed {} (fn := Tryz.f57) Tryz.func57 (by kernel_rfl) (by kernel_rfl) ?_
 rintro ⟨a0, ⟨⟩⟩ K ⟨r, h, hK⟩
 change laws_toSource a0 = some r at h
 unfold laws_toSource at h
 conv => whnf
 refine vBind h (fun toSpan0 hb0 h => ?_)
 conv => whnf
 refine vBind h (fun toSpan1 hb1 h => ?_)
 conv => whnf
 cases h
 exact hK
theorem w_laws_toSpan : SoundC Tryz.prog 115 c_laws_toSpan := by
 refine fn_sound tab_ok gam_nil mixed {} (fn := Tryz.f115) Tryz.func115 (by kernel_rfl) (by kernel_rfl) ?_
 rintro ⟨a0, ⟨⟩⟩ K ⟨r, h, hK⟩
 change laws_toSpan a0 = some r at h
 unfold laws_toSpan at h
 conv => whnf
 cases h
 exact hK
theorem w_slices_EqualFunc_Simpl_Pin_Simpl_Pin_impl_Pin_impl_Pin_at_impl_fitsSwap_c1 (q0 : SoundC Tryz.prog 241 c_impl_fitsSwap_c1) : SoundC Tryz.prog 240 c_slices_EqualFunc_Simpl_Pin_Simpl_Pin_impl_Pin_impl_Pin_at_impl_fitsSwap_c1 := by
 refine fn_sound tab_ok (gam_cons q0 gam_nil) mixed { loops := [(0, [.reg 17 (.dat (.int .i64))])] } (fn := Tryz.f240) Tryz.func240 (by kernel_rfl) (by kernel_rfl) ?_
 rintro ⟨s1_0, s2_0, eq0, ⟨⟩⟩ K ⟨r, h, hK⟩
 change slices_EqualFunc_Simpl_Pin_Simpl_Pin_impl_Pin_impl_Pin_at_impl_fitsSwap_c1 s1_0 s2_0 eq0 = some r at h
 unfold slices_EqualFunc_Simpl_Pin_Simpl_Pin_impl_Pin_impl_Pin_at_impl_fitsSwap_c1 at h
 conv => whnf
 refine vNots ?_
 refine vIfD h (fun h => ?_) (fun h => ?_)
 conv => whnf
 refine vLoop h ?_
 rintro I0 μ0 ⟨v0, ⟨⟩⟩ zs0 h hI0 hR0
 change slices_EqualFunc_Simpl_Pin_Simpl_Pin_impl_Pin_impl_Pin_at_impl_fitsSwap_c1_loop0 s1_0 s2_0 v0 = some zs0 at h
 unfold slices_EqualFunc_Simpl_Pin_Simpl_Pin_impl_Pin_impl_Pin_at_impl_fitsSwap_c1_loop0 at h
 conv => whnf
 refine vIfD h (fun h => ?_) (fun h => ?_)
 conv => whnf
 refine vAt h (fun x0 he1a he1b he1x h => ?_)
 conv => whnf
 refine vAt h (fun x1 he2a he2b he2x h => ?_)
 conv => whnf
 refine vBind h (fun c1_0 hb3 h => ?_)
 conv => whnf
 refine vNots ?_
 refine vIfB h (fun h => ?_) (fun h => ?_)
 conv => whnf
 cases h
 exact ⟨⟨rfl, rfl⟩, hI0 _ rfl⟩
 conv => whnf
 cases h
 obtain rfl := hR0 _ rfl
 exact hK
 conv => whnf
 cases h
 obtain rfl := hR0 _ rfl
 exact hK
 conv => whnf
 cases h
 exact hK
theorem w_slices_IndexFunc_Simpl_Instance_impl_Instance_at_impl_InstanceNamed_c1 (q0 : SoundC Tryz.prog 245 c_impl_InstanceNamed_c1) : SoundC Tryz.prog 244 c_slices_IndexFunc_Simpl_Instance_impl_Instance_at_impl_InstanceNamed_c1 := by
 refine fn_sound tab_ok (gam_cons q0 gam_nil) mixed { loops := [(0, [.reg 8 (.dat (.int .i64))])] } (fn := Tryz.f244) Tryz.func244 (by kernel_rfl) (by kernel_rfl) ?_
 rintro ⟨s0, f0, ⟨⟩⟩ K ⟨r, h, hK⟩
 change slices_IndexFunc_Simpl_Instance_impl_Instance_at_impl_InstanceNamed_c1 s0 f0 = some r at h
 unfold slices_IndexFunc_Simpl_Instance_impl_Instance_at_impl_InstanceNamed_c1 at h
 conv => whnf
 refine vLoop h ?_
 rintro I0 μ0 ⟨v0, ⟨⟩⟩ zs0 h hI0 hR0
 change slices_IndexFunc_Simpl_Instance_impl_Instance_at_impl_InstanceNamed_c1_loop0 s0 f0 v0 = some zs0 at h
 unfold slices_IndexFunc_Simpl_Instance_impl_Instance_at_impl_InstanceNamed_c1_loop0 at h
 conv => whnf
 refine vIfD h (fun h => ?_) (fun h => ?_)
 conv => whnf
 refine vAt h (fun x0 he1a he1b he1x h => ?_)
 conv => whnf
 refine vBind h (fun c1_0 hb2 h => ?_)
 conv => whnf
 refine vIfB h (fun h => ?_) (fun h => ?_)
 conv => whnf
 cases h
 obtain rfl := hR0 _ rfl
 exact hK
 conv => whnf
 cases h
 exact ⟨⟨rfl, rfl⟩, hI0 _ rfl⟩
 conv => whnf
 cases h
 obtain rfl := hR0 _ rfl
 exact hK
theorem w_slices_IndexFunc_Simpl_Table_impl_Table_at_impl_areTables_c1 (q0 : SoundC Tryz.prog 298 c_impl_areTables_c1) : SoundC Tryz.prog 307 c_slices_IndexFunc_Simpl_Table_impl_Table_at_impl_areTables_c1 := by
 refine fn_sound tab_ok (gam_cons q0 gam_nil) mixed { loops := [(0, [.reg 8 (.dat (.int .i64))])] } (fn := Tryz.f307) Tryz.func307 (by kernel_rfl) (by kernel_rfl) ?_
 rintro ⟨s0, f0, ⟨⟩⟩ K ⟨r, h, hK⟩
 change slices_IndexFunc_Simpl_Table_impl_Table_at_impl_areTables_c1 s0 f0 = some r at h
 unfold slices_IndexFunc_Simpl_Table_impl_Table_at_impl_areTables_c1 at h
 conv => whnf
 refine vLoop h ?_
 rintro I0 μ0 ⟨v0, ⟨⟩⟩ zs0 h hI0 hR0
 change slices_IndexFunc_Simpl_Table_impl_Table_at_impl_areTables_c1_loop0 s0 f0 v0 = some zs0 at h
 unfold slices_IndexFunc_Simpl_Table_impl_Table_at_impl_areTables_c1_loop0 at h
 conv => whnf
 refine vIfD h (fun h => ?_) (fun h => ?_)
 conv => whnf
 refine vAt h (fun x0 he1a he1b he1x h => ?_)
 conv => whnf
 refine vBind h (fun c1_0 hb2 h => ?_)
 conv => whnf
 refine vIfB h (fun h => ?_) (fun h => ?_)
 conv => whnf
 cases h
 obtain rfl := hR0 _ rfl
 exact hK
 conv => whnf
 cases h
 exact ⟨⟨rfl, rfl⟩, hI0 _ rfl⟩
 conv => whnf
 cases h
 obtain rfl := hR0 _ rfl
 exact hK
theorem w_slices_Index_Sstring_string : SoundC Tryz.prog 246 c_slices_Index_Sstring_string := by
 refine fn_sound tab_ok gam_nil mixed { loops := [(0, [.reg 8 (.dat (.int .i64))])] } (fn := Tryz.f246) Tryz.func246 (by kernel_rfl) (by kernel_rfl) ?_
 rintro ⟨s0, v0, ⟨⟩⟩ K ⟨r, h, hK⟩
 change slices_Index_Sstring_string s0 v0 = some r at h
 unfold slices_Index_Sstring_string at h
 conv => whnf
 refine vLoop h ?_
 rintro I0 μ0 ⟨v1, ⟨⟩⟩ zs0 h hI0 hR0
 change slices_Index_Sstring_string_loop0 s0 v0 v1 = some zs0 at h
 unfold slices_Index_Sstring_string_loop0 at h
 conv => whnf
 refine vIfD h (fun h => ?_) (fun h => ?_)
 conv => whnf
 refine vAt h (fun x0 he1a he1b he1x h => ?_)
 conv => whnf
 refine vIfD h (fun h => ?_) (fun h => ?_)
 conv => whnf
 cases h
 obtain rfl := hR0 _ rfl
 exact hK
 conv => whnf
 cases h
 exact ⟨⟨rfl, rfl⟩, hI0 _ rfl⟩
 conv => whnf
 cases h
 obtain rfl := hR0 _ rfl
 exact hK
theorem w_spec_EditCode (q3 : SoundC Tryz.prog 89 c_spec_IsBlock) (q0 : SoundC Tryz.prog 90 c_spec_l08Blank) (q1 : SoundC Tryz.prog 91 c_spec_l08Range) (q2 : SoundC Tryz.prog 92 c_spec_l08State) : SoundC Tryz.prog 39 c_spec_EditCode := by
 refine fn_sound tab_ok (gam_cons q3 (gam_cons q0 (gam_cons q1 (gam_cons q2 gam_nil)))) mixed {} (fn := Tryz.f39) Tryz.func39 (by kernel_rfl) (by kernel_rfl) ?_
 rintro ⟨b0, e0, ⟨⟩⟩ K ⟨r, h, hK⟩
 change spec_EditCode b0 e0 = some r at h
 unfold spec_EditCode at h
 conv => whnf
 refine vBind h (fun IsBlock0 hb0 h => ?_)
 conv => whnf
 refine vNots ?_
 refine vIfB h (fun h => ?_) (fun h => ?_)
 conv => whnf
 refine vBind h (fun l08Blank0 hb1 h => ?_)
 conv => whnf
 refine vNot ?_
 refine vIfB h (fun h => ?_) (fun h => ?_)
 conv => whnf
 refine vBind h (fun l08Range0 hb2 h => ?_)
 conv => whnf
 refine vNots ?_
 refine vIfB h (fun h => ?_) (fun h => ?_)
 conv => whnf
 refine vBind h (fun l08State0 hb3 h => ?_)
 conv => whnf
 refine vNots ?_
 refine vIfB h (fun h => ?_) (fun h => ?_)
 conv => whnf
 refine vIfD h (fun h => ?_) (fun h => ?_)
 conv => whnf
 refine vIfDs h (fun h => ?_) (fun h => ?_)
 conv => whnf
 cases h
 exact hK
 conv => whnf
 refine vIfD h (fun h => ?_) (fun h => ?_)
 conv => whnf
 cases h
 exact hK
 conv => whnf
 cases h
 exact hK
 conv => whnf
 cases h
 exact hK
 conv => whnf
 cases h
 exact hK
 conv => whnf
 cases h
 exact hK
 conv => whnf
 cases h
 exact hK
 conv => whnf
 cases h
 exact hK
theorem w_spec_InstanceNamed : SoundC Tryz.prog 151 c_spec_InstanceNamed := by
 refine fn_sound tab_ok gam_nil mixed { loops := [(0, [.reg 5 (.dat (.int .i64))])] } (fn := Tryz.f151) Tryz.func151 (by kernel_rfl) (by kernel_rfl) ?_
 rintro ⟨d0, name0, ⟨⟩⟩ K ⟨r, h, hK⟩
 change spec_InstanceNamed d0 name0 = some r at h
 unfold spec_InstanceNamed at h
 conv => whnf
 refine vLoop h ?_
 rintro I0 μ0 ⟨i0, ⟨⟩⟩ zs0 h hI0 hR0
 change spec_InstanceNamed_loop0 d0 name0 i0 = some zs0 at h
 unfold spec_InstanceNamed_loop0 at h
 conv => whnf
 refine vIfD h (fun h => ?_) (fun h => ?_)
 conv => whnf
 refine vAt h (fun x0 he1a he1b he1x h => ?_)
 conv => whnf
 refine vIfD h (fun h => ?_) (fun h => ?_)
 conv => whnf
 cases h
 obtain rfl := hR0 _ rfl
 exact hK
 conv => whnf
 cases h
 exact ⟨⟨rfl, rfl⟩, hI0 _ rfl⟩
 conv => whnf
 cases h
 obtain rfl := hR0 _ rfl
 exact hK
theorem w_spec_IsSpan (q0 : SoundC Tryz.prog 112 c_spec_l01In) : SoundC Tryz.prog 113 c_spec_IsSpan := by
 refine fn_sound tab_ok (gam_cons q0 gam_nil) mixed {} (fn := Tryz.f113) Tryz.func113 (by kernel_rfl) (by kernel_rfl) ?_
 rintro ⟨s0, ⟨⟩⟩ K ⟨r, h, hK⟩
 change spec_IsSpan s0 = some r at h
 unfold spec_IsSpan at h
 conv => whnf
 refine vBind h (fun l01In0 hb0 h => ?_)
 conv => whnf
 refine vIfB h (fun h => ?_) (fun h => ?_)
 conv => whnf
 refine vBind h (fun l01In1 hb1 h => ?_)
 conv => whnf
 refine vIfB h (fun h => ?_) (fun h => ?_)
 conv => whnf
 cases h
 exact hK
 conv => whnf
 cases h
 exact hK
 conv => whnf
 cases h
 exact hK
theorem w_spec_IsWire (q0 : SoundC Tryz.prog 112 c_spec_l01In) : SoundC Tryz.prog 146 c_spec_IsWire := by
 refine fn_sound tab_ok (gam_cons q0 gam_nil) mixed { loops := [(0, [.reg 6 (.dat (.int .i64))]), (2, [.reg 7 (.dat (.int .i64))])] } (fn := Tryz.f146) Tryz.func146 (by kernel_rfl) (by kernel_rfl) ?_
 rintro ⟨a0, a1, ⟨⟩⟩ K ⟨r, h, hK⟩
 change spec_IsWire a0 a1 = some r at h
 unfold spec_IsWire at h
 conv => whnf
 refine vIfDs h (fun h => ?_) (fun h => ?_)
 conv => whnf
 cases h
 exact hK
 conv => whnf
 refine vIfDs h (fun h => ?_) (fun h => ?_)
 conv => whnf
 cases h
 exact hK
 conv => whnf
 refine vNot ?_
 refine vIfD h (fun h => ?_) (fun h => ?_)
 conv => whnf
 refine vNot ?_
 refine vIfD h (fun h => ?_) (fun h => ?_)
 conv => whnf
 refine vNots ?_
 refine vIfD h (fun h => ?_) (fun h => ?_)
 conv => whnf
 refine vLoop h ?_
 rintro I0 μ0 ⟨v0, ⟨⟩⟩ zs0 h hI0 hR0
 change spec_IsWire_loop1 a0 v0 = some zs0 at h
 unfold spec_IsWire_loop1 at h
 conv => whnf
 refine vIfD h (fun h => ?_) (fun h => ?_)
 conv => whnf
 refine vAt h (fun x0 he1a he1b he1x h => ?_)
 conv => whnf
 refine vBind h (fun l01In0 hb2 h => ?_)
 conv => whnf
 refine vNot ?_
 refine vIfB h (fun h => ?_) (fun h => ?_)
 conv => whnf
 refine vAt h (fun x1 he3a he3b he3x h => ?_)
 conv => whnf
 refine vBind h (fun l01In1 hb4 h => ?_)
 conv => whnf
 refine vNots ?_
 refine vIfB h (fun h => ?_) (fun h => ?_)
 conv => whnf
 refine vIfD h (fun h => ?_) (fun h => ?_)
 conv => whnf
 refine vAt h (fun x2 he5a he5b he5x h => ?_)
 conv => whnf
 refine vNot ?_
 refine vIfD h (fun h => ?_) (fun h => ?_)
 conv => whnf
 refine ⟨he3a, he3b, vAgain he3x ?_⟩
 conv => whnf
 refine vNot ?_
 refine vIfD h (fun h => ?_) (fun h => ?_)
 conv => whnf
 refine vIfD h (fun h => ?_) (fun h => ?_)
 conv => whnf
 refine ⟨he5a, he5b, vAgain he5x ?_⟩
 conv => whnf
 refine vBind h (fun l01In2 hb6 h => ?_)
 conv => whnf
 refine vNots ?_
 refine vIfB h (fun h => ?_) (fun h => ?_)
 conv => whnf
 cases h
 exact ⟨⟨rfl, rfl⟩, hI0 _ rfl⟩
 conv => whnf
 cases h
 obtain rfl := hR0 _ rfl
 exact hK
 conv => whnf
 cases h
 exact ⟨⟨rfl, rfl⟩, hI0 _ rfl⟩
 conv => whnf
 cases h
 obtain rfl := hR0 _ rfl
 exact hK
 conv => whnf
 cases h
 obtain rfl := hR0 _ rfl
 exact hK
 conv => whnf
 refine vIfD h (fun h => ?_) (fun h => ?_)
 conv => whnf
 refine vAt h (fun x2 he7a he7b he7x h => ?_)
 conv => whnf
 refine vBind h (fun l01In2 hb8 h => ?_)
 conv => whnf
 refine vNots ?_
 refine vIfB h (fun h => ?_) (fun h => ?_)
 conv => whnf
 cases h
 exact ⟨⟨rfl, rfl⟩, hI0 _ rfl⟩
 conv => whnf
 cases h
 obtain rfl := hR0 _ rfl
 exact hK
 conv => whnf
 cases h
 exact ⟨⟨rfl, rfl⟩, hI0 _ rfl⟩
 conv => whnf
 cases h
 obtain rfl := hR0 _ rfl
 exact hK
 conv => whnf
 cases h
 obtain rfl := hR0 _ rfl
 exact hK
 conv => whnf
 refine vLoop h ?_
 rintro I9 μ9 ⟨v1, ⟨⟩⟩ zs9 h hI9 hR9
 change spec_IsWire_loop0 a0 v1 = some zs9 at h
 unfold spec_IsWire_loop0 at h
 conv => whnf
 refine vIfD h (fun h => ?_) (fun h => ?_)
 conv => whnf
 refine vAt h (fun x0 he10a he10b he10x h => ?_)
 conv => whnf
 refine vBind h (fun l01In0 hb11 h => ?_)
 conv => whnf
 refine vNots ?_
 refine vIfB h (fun h => ?_) (fun h => ?_)
 conv => whnf
 cases h
 exact ⟨⟨rfl, rfl⟩, hI9 _ rfl⟩
 conv => whnf
 cases h
 obtain rfl := hR9 _ rfl
 obtain rfl := hR0 _ rfl
 exact hK
 conv => whnf
 cases h
 obtain rfl := hR9 _ rfl
 obtain rfl := hR0 _ rfl
 exact hK
 conv => whnf
 cases h
 exact hK
 conv => whnf
 cases h
 exact hK
 conv => whnf
 cases h
 exact hK
theorem w_spec_l01In : SoundC Tryz.prog 112 c_spec_l01In := by
 refine fn_sound tab_ok gam_nil mixed {} (fn := Tryz.f112) Tryz.func112 (by kernel_rfl) (by kernel_rfl) ?_
 rintro ⟨n0, low0, high0, ⟨⟩⟩ K ⟨r, h, hK⟩
 change spec_l01In n0 low0 high0 = some r at h
 unfold spec_l01In at h
 conv => whnf
 refine vIfD h (fun h => ?_) (fun h => ?_)
 conv => whnf
 cases h
 exact hK
 conv => whnf
 cases h
 exact hK
theorem w_spec_l03Kinds : SoundC Tryz.prog 255 c_spec_l03Kinds := by
 refine fn_sound tab_ok gam_nil mixed { loops := [(0, [.reg 4 (.dat (.int .i64)), .ent 1 (nat_lit 2) (.flat ti33.ety)])] } (fn := Tryz.f255) Tryz.func255 (by kernel_rfl) (by kernel_rfl) ?_
 rintro ⟨c0, ⟨⟩⟩ K ⟨r, h, hK⟩
 change spec_l03Kinds c0 = some r at h
 unfold spec_l03Kinds at h
 conv => whnf
 refine ⟨by decide, ?_⟩
 conv => whnf
 refine ⟨by decide, ?_⟩
 conv => whnf
 refine ⟨by decide, ?_⟩
 conv => whnf
 refine ⟨by decide, ?_⟩
 conv => whnf
 refine vLoop h ?_
 rintro I0 μ0 ⟨i0, l0, ⟨⟩⟩ zs0 h hI0 hR0
 change spec_l03Kinds_loop0 c0 i0 l0 = some zs0 at h
 unfold spec_l03Kinds_loop0 at h
 conv => whnf
 refine vIfD h (fun h => ?_) (fun h => ?_)
 conv => whnf
 refine vAt h (fun x0 he1a he1b he1x h => ?_)
 conv => whnf
 refine vAt h (fun x1 he2a he2b he2x h => ?_)
 conv => whnf
 refine ⟨by kernel_rfl, ?_⟩
 conv => whnf
 refine ⟨he2a, he2b, vAgain he2x ?_⟩
 conv => whnf
 refine ⟨he2a, he2b, vAgain he2x ?_⟩
 conv => whnf
 refine ⟨by kernel_rfl, ?_⟩
 conv => whnf
 refine ⟨by decide, ?_⟩
 conv => whnf
 refine ⟨he2a, he2b, vAgain he2x ?_⟩
 conv => whnf
 cases h
 exact ⟨⟨rfl, rfl⟩, hI0 _ rfl⟩
 conv => whnf
 cases h
 obtain rfl := hR0 _ rfl
 exact hK
theorem w_spec_l08Blank : SoundC Tryz.prog 90 c_spec_l08Blank := by
 refine fn_sound tab_ok gam_nil mixed {} (fn := Tryz.f90) Tryz.func90 (by kernel_rfl) (by kernel_rfl) ?_
 rintro ⟨a0, ⟨⟩⟩ K ⟨r, h, hK⟩
 change spec_l08Blank a0 = some r at h
 unfold spec_l08Blank at h
 conv => whnf
 refine vIfD h (fun h => ?_) (fun h => ?_)
 conv => whnf
 refine vIfD h (fun h => ?_) (fun h => ?_)
 conv => whnf
 refine vIfD h (fun h => ?_) (fun h => ?_)
 conv => whnf
 refine vIfD h (fun h => ?_) (fun h => ?_)
 conv => whnf
 cases h
 exact hK
 conv => whnf
 cases h
 exact hK
 conv => whnf
 cases h
 exact hK
 conv => whnf
 cases h
 exact hK
 conv => whnf
 refine vIfD h (fun h => ?_) (fun h => ?_)
 conv => whnf
 refine vIfD h (fun h => ?_) (fun h => ?_)
 conv => whnf
 refine vIfD h (fun h => ?_) (fun h => ?_)
 conv => whnf
 cases h
 exact hK
 conv => whnf
 cases h
 exact hK
 conv => whnf
 cases h
 exact hK
 conv => whnf
 refine vIfD h (fun h => ?_) (fun h => ?_)
 conv => whnf
 refine vIfD h (fun h => ?_) (fun h => ?_)
 conv => whnf
 refine vIfD h (fun h => ?_) (fun h => ?_)
 conv => whnf
 refine vIfD h (fun h => ?_) (fun h => ?_)
 conv => whnf
 refine vIfD h (fun h => ?_) (fun h => ?_)
 conv => whnf
 refine vIfD h (fun h => ?_) (fun h => ?_)
 conv => whnf
 cases h
 exact hK
 conv => whnf
 cases h
 exact hK
 conv => whnf
 cases h
 exact hK
 conv => whnf
 cases h
 exact hK
 conv => whnf
 cases h
 exact hK
 conv => whnf
 cases h
 exact hK
 conv => whnf
 refine vIfD h (fun h => ?_) (fun h => ?_)
 conv => whnf
 refine vIfD h (fun h => ?_) (fun h => ?_)
 conv => whnf
 refine vIfD h (fun h => ?_) (fun h => ?_)
 conv => whnf
 cases h
 exact hK
 conv => whnf
 cases h
 exact hK
 conv => whnf
 cases h
 exact hK
 conv => whnf
 refine vIfD h (fun h => ?_) (fun h => ?_)
 conv => whnf
 refine vIfD h (fun h => ?_) (fun h => ?_)
 conv => whnf
 refine vIfD h (fun h => ?_) (fun h => ?_)
 conv => whnf
 refine vIfD h (fun h => ?_) (fun h => ?_)
 conv => whnf
 cases h
 exact hK
 conv => whnf
 cases h
 exact hK
 conv => whnf
 cases h
 exact hK
 conv => whnf
 cases h
 exact hK
 conv => whnf
 cases h
 exact hK
theorem w_spec_l08Last (q0 : SoundC Tryz.prog 149 c_spec_l08Buffer) (q1 : SoundC Tryz.prog 147 c_spec_l05Sinks) (q2 : SoundC Tryz.prog 195 c_spec_l08Bare) : SoundC Tryz.prog 153 c_spec_l08Last := by
 refine fn_sound tab_ok (gam_cons q0 (gam_cons q1 (gam_cons q2 gam_nil))) mixed { draws := [(6, [0, 1, 3, 0, 8, 31, 63, 127, 255, 511, 1023, 2047, 4095, 8191, 1023, 32767, 65535, 131071, 262143, 524287, 1048575, 262143, 4194303, 8388607, 262143, 17039359, 67108863, 134217727, 268435455, 536870911, 1073741823, 2147483647, 4294967295, 536870911, 17179869183, 34359738367], .op 0 (.op 1 (.op 2 (.op 3 (.op 4 (.op 5 (.op 6 (.alt 7 (.op 8 (.op 9 (.op 10 (.op 11 (.op 12 (.op 13 (.op 14 (.op 15 (.op 16 (.op 17 (.op 18 (.op 19 (.op 20 (.op 21 (.op 22 (.op 23 (.op 24 (.op 25 (.op 26 (.op 27 (.op 28 (.op 29 (.op 30 (.op 31 (.op 32 (.op 33 (.op 34 (.op 35 (.done))))))))))))))))))))))))))))) (.done)))))))))] } (fn := Tryz.f153) Tryz.func153 (by kernel_rfl) (by kernel_rfl) ?_
 rintro ⟨a0, ⟨⟩⟩ K ⟨r, h, hK⟩
 change spec_l08Last a0 = some r at h
 unfold spec_l08Last at h
 conv => whnf
 refine vIfD h (fun h => ?_) (fun h => ?_)
 conv => whnf
 cases h
 exact hK
 conv => whnf
 refine vAt h (fun x0 he0a he0b he0x h => ?_)
 conv => whnf
 refine ⟨by kernel_rfl, ?_⟩
 conv => whnf
 refine vAt h (fun x1 he1a he1b he1x h => ?_)
 conv => whnf
 refine vBind h (fun l08Buffer0 hb2 h => ?_)
 conv => whnf
 refine vNot ?_
 refine vIfB h (fun h => ?_) (fun h => ?_)
 conv => whnf
 refine vAt h (fun x2 he3a he3b he3x h => ?_)
 conv => whnf
 refine vNot ?_
 refine vIfD h (fun h => ?_) (fun h => ?_)
 conv => whnf
 refine vAt h (fun x3 he4a he4b he4x h => ?_)
 conv => whnf
 refine vNot ?_
 refine vIfD h (fun h => ?_) (fun h => ?_)
 conv => whnf
 refine vAt h (fun x4 he5a he5b he5x h => ?_)
 conv => whnf
 refine vIfD h (fun h => ?_) (fun h => ?_)
 conv => whnf
 cases h
 exact hK
 conv => whnf
 refine vBind h (fun l05Sinks0 hb6 h => ?_)
 conv => whnf
 refine vIfD h (fun h => ?_) (fun h => ?_)
 conv => whnf
 refine vAt h (fun x5 he7a he7b he7x h => ?_)
 conv => whnf
 refine vBind h (fun l08Bare0 hb8 h => ?_)
 conv => whnf
 cases h
 exact hK
 conv => whnf
 cases h
 exact hK
 conv => whnf
 cases h
 exact hK
 conv => whnf
 cases h
 exact hK
 conv => whnf
 cases h
 exact hK
end Go.Proofs.YtaccffcigblceaaGreatDoor
