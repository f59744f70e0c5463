/-
  The functions keep their contracts, if what they call does. Printed by program.
-/
import Derived.Test.YtaccffcigblceaaGreatDoorM
import Derived.KernelRfl
namespace Go.Proofs.YtaccffcigblceaaGreatDoor
open Go Go.Sx
set_option maxRecDepth 100000
set_option linter.unusedVariables false
set_option linter.unusedSimpArgs false
theorem w_impl_Block_canUnbuffer (q0 : SoundC Tryz.prog 236 c_impl_length_string) (q1 : SoundC Tryz.prog 211 c_impl_isBuffer) : SoundC Tryz.prog 215 c_impl_Block_canUnbuffer := by
 refine fn_sound tab_ok (gam_cons q0 (gam_cons q1 gam_nil)) mixed { draws := [(6, [0, 1, 3, 0, 8, 31, 63, 127, 255, 511, 1023, 2047, 4095, 8191, 1023, 32767, 65535, 131071, 262143, 524287, 1048575, 2097151, 262143, 8388607, 16777215, 33554431, 67108863, 134217727, 67108863, 536870911, 1073741823, 67108863, 2214592511, 8589934591, 17179869183], .op 0 (.op 1 (.op 2 (.op 3 (.op 4 (.op 5 (.op 6 (.alt 7 (.op 8 (.op 9 (.op 10 (.op 11 (.op 12 (.op 13 (.op 14 (.op 15 (.op 16 (.op 17 (.op 18 (.op 19 (.op 20 (.op 21 (.op 22 (.op 23 (.op 24 (.op 25 (.op 26 (.op 27 (.op 28 (.op 29 (.op 30 (.op 31 (.op 32 (.op 33 (.op 34 (.done)))))))))))))))))))))))))))) (.done)))))))))] } (fn := Tryz.f215) Tryz.func215 (by kernel_rfl) (by kernel_rfl) ?_
 rintro ⟨a0, ⟨⟩⟩ K ⟨r, h, hK⟩
 change impl_Block_canUnbuffer a0 = some r at h
 unfold impl_Block_canUnbuffer at h
 conv => whnf
 refine vIfD h (fun h => ?_) (fun h => ?_)
 conv => whnf
 cases h
 exact hK
 conv => whnf
 refine vAt h (fun x0 he0a he0b he0x h => ?_)
 conv => whnf
 refine vBind h (fun string0 hb1 h => ?_)
 conv => whnf
 refine ⟨by kernel_rfl, ?_⟩
 conv => whnf
 refine vAt h (fun x1 he2a he2b he2x h => ?_)
 conv => whnf
 refine vBind h (fun isBuffer0 hb3 h => ?_)
 conv => whnf
 refine vNot ?_
 refine vIfB h (fun h => ?_) (fun h => ?_)
 conv => whnf
 refine vAt h (fun x2 he4a he4b he4x h => ?_)
 conv => whnf
 refine vNot ?_
 refine vIfD h (fun h => ?_) (fun h => ?_)
 conv => whnf
 refine vAt h (fun x3 he5a he5b he5x h => ?_)
 conv => whnf
 refine vIfDs h (fun h => ?_) (fun h => ?_)
 conv => whnf
 cases h
 exact hK
 conv => whnf
 refine vAt h (fun x4 he6a he6b he6x h => ?_)
 conv => whnf
 refine vNots ?_
 refine vIfD h (fun h => ?_) (fun h => ?_)
 conv => whnf
 refine vAt h (fun x5 he7a he7b he7x h => ?_)
 conv => whnf
 refine vIfD h (fun h => ?_) (fun h => ?_)
 conv => whnf
 refine vIfD h (fun h => ?_) (fun h => ?_)
 conv => whnf
 refine vAt h (fun x6 he8a he8b he8x h => ?_)
 conv => whnf
 cases h
 exact hK
 conv => whnf
 cases h
 exact hK
 conv => whnf
 cases h
 exact hK
 conv => whnf
 cases h
 exact hK
 conv => whnf
 cases h
 exact hK
 conv => whnf
 cases h
 exact hK
theorem w_impl_Block_nodeLoads (q0 : SoundC Tryz.prog 167 c_slices_Clone_Sint64_int64) (q1 : SoundC Tryz.prog 102 c_impl_Design_places) (q2 : SoundC Tryz.prog 168 c_impl_Design_sinks) (q3 : SoundC Tryz.prog 169 c_impl_Design_capOf) : SoundC Tryz.prog 118 c_impl_Block_nodeLoads := by
 refine fn_sound tab_ok (gam_cons q0 (gam_cons q1 (gam_cons q2 (gam_cons q3 gam_nil)))) mixed { loops := [(0, [.reg 27 (.dat (.int .i64)), .ent 2 (nat_lit 2) (.flat (Ty.int IntKind.i64))]), (2, [.reg 10 (.dat (.int .i64)), .ent 2 (nat_lit 2) (.flat (Ty.int IntKind.i64))])], draws := [(7, [0, 0, 2, 0, 14, 30, 63, 127, 0, 256, 0, 1024, 0, 0, 12288, 28672, 65280, 131071, 262143, 524287], .op 0 (.op 1 (.op 2 (.op 3 (.op 4 (.op 5 (.op 6 (.op 7 (.op 8 (.op 9 (.op 10 (.op 11 (.op 12 (.op 13 (.op 14 (.op 15 (.alt 16 (.op 17 (.op 18 (.alt 19 (.done) (.done)))) (.done)))))))))))))))))), (12, [0, 0, 2, 0, 14, 30, 63, 127, 0, 0, 768, 1792, 4095, 8191, 16383], .op 0 (.op 1 (.op 2 (.op 3 (.op 4 (.op 5 (.op 6 (.op 7 (.op 8 (.op 9 (.op 10 (.op 11 (.op 12 (.op 13 (.alt 14 (.done) (.done))))))))))))))))] } (fn := Tryz.f118) Tryz.func118 (by kernel_rfl) (by kernel_rfl) ?_
 rintro ⟨a0, a1, ⟨⟩⟩ K ⟨r, h, hK⟩
 change impl_Block_nodeLoads a0 a1 = some r at h
 unfold impl_Block_nodeLoads at h
 conv => whnf
 refine vAt h (fun x0 he0a he0b he0x h => ?_)
 conv => whnf
 refine vBind h (fun int64_0 hb1 h => ?_)
 conv => whnf
 refine vBind h (fun places0 hb2 h => ?_)
 conv => whnf
 refine vBind h (fun sinks0 hb3 h => ?_)
 conv => whnf
 refine vLoop h ?_
 rintro I4 μ4 ⟨v0, l0, ⟨⟩⟩ zs4 h hI4 hR4
 change impl_Block_nodeLoads_loop1 a0 x0 places0 sinks0 v0 l0 = some zs4 at h
 unfold impl_Block_nodeLoads_loop1 at h
 conv => whnf
 refine vIfD h (fun h => ?_) (fun h => ?_)
 conv => whnf
 refine vAt h (fun x1 he5a he5b he5x h => ?_)
 conv => whnf
 refine ⟨by kernel_rfl, ?_⟩
 conv => whnf
 refine ⟨he5a, he5b, vAgain he5x ?_⟩
 conv => whnf
 refine ⟨by kernel_rfl, ?_⟩
 conv => whnf
 refine vAt h (fun x2 he6a he6b he6x h => ?_)
 conv => whnf
 refine vAt h (fun x3 he7a he7b he7x h => ?_)
 conv => whnf
 refine ⟨by kernel_rfl, ?_⟩
 conv => whnf
 refine ⟨he7a, he7b, vAgain he7x ?_⟩
 conv => whnf
 refine vAt h (fun x4 he8a he8b he8x h => ?_)
 conv => whnf
 refine ⟨by kernel_rfl, ?_⟩
 conv => whnf
 refine ⟨he8a, he8b, vAgain he8x ?_⟩
 conv => whnf
 refine vBind h (fun capOf0 hb9 h => ?_)
 conv => whnf
 refine ⟨he7a, he7b, vAgain he7x ?_⟩
 conv => whnf
 refine ⟨by kernel_rfl, ?_⟩
 conv => whnf
 refine ⟨by decide, ?_⟩
 conv => whnf
 refine ⟨he7a, he7b, vAgain he7x ?_⟩
 conv => whnf
 cases h
 exact ⟨⟨rfl, rfl⟩, hI4 _ rfl⟩
 conv => whnf
 refine vLoop h ?_
 rintro I10 μ10 ⟨v1, l1, ⟨⟩⟩ zs10 h hI10 hR10
 change impl_Block_nodeLoads_loop0 x0 v1 l1 = some zs10 at h
 unfold impl_Block_nodeLoads_loop0 at h
 conv => whnf
 refine vIfD h (fun h => ?_) (fun h => ?_)
 conv => whnf
 refine ⟨by kernel_rfl, ?_⟩
 conv => whnf
 refine vAt h (fun x1 he11a he11b he11x h => ?_)
 conv => whnf
 refine vAt h (fun x2 he12a he12b he12x h => ?_)
 conv => whnf
 refine ⟨by kernel_rfl, ?_⟩
 conv => whnf
 refine ⟨he12a, he12b, vAgain he12x ?_⟩
 conv => whnf
 refine vAt h (fun x3 he13a he13b he13x h => ?_)
 conv => whnf
 refine ⟨by kernel_rfl, ?_⟩
 conv => whnf
 refine ⟨he13a, he13b, vAgain he13x ?_⟩
 conv => whnf
 refine ⟨he12a, he12b, vAgain he12x ?_⟩
 conv => whnf
 refine ⟨by kernel_rfl, ?_⟩
 conv => whnf
 refine ⟨by decide, ?_⟩
 conv => whnf
 refine ⟨he12a, he12b, vAgain he12x ?_⟩
 conv => whnf
 cases h
 exact ⟨⟨rfl, rfl⟩, hI10 _ rfl⟩
 conv => whnf
 cases h
 obtain rfl := hR10 _ rfl
 obtain rfl := hR4 _ rfl
 exact hK
theorem w_impl_Cell_areArcs (q1 : SoundC Tryz.prog 275 c_impl_Cell_isArc) (q0 : SoundC Tryz.prog 276 c_slices_ContainsFunc_Simpl_Arc_impl_Arc_at_impl_Cell_areArcs_c1) : SoundC Tryz.prog 258 c_impl_Cell_areArcs := by
 refine fn_sound tab_ok (gam_cons q1 (gam_cons q0 gam_nil)) mixed { loops := [(0, [.reg 8 (.dat (.int .i64))])] } (fn := Tryz.f258) Tryz.func258 (by kernel_rfl) (by kernel_rfl) ?_
 rintro ⟨c0, ⟨⟩⟩ K ⟨r, h, hK⟩
 change impl_Cell_areArcs c0 = some r at h
 unfold impl_Cell_areArcs at h
 conv => whnf
 refine vLoop h ?_
 rintro I0 μ0 ⟨v0, ⟨⟩⟩ zs0 h hI0 hR0
 change impl_Cell_areArcs_loop0 c0 v0 = some zs0 at h
 unfold impl_Cell_areArcs_loop0 at h
 conv => whnf
 refine vIfD h (fun h => ?_) (fun h => ?_)
 conv => whnf
 refine vAt h (fun x0 he1a he1b he1x h => ?_)
 conv => whnf
 refine vBind h (fun isArc0 hb2 h => ?_)
 conv => whnf
 refine vNot ?_
 refine vIfB h (fun h => ?_) (fun h => ?_)
 conv => whnf
 refine ⟨by decide, ?_⟩
 conv => whnf
 refine vPre h (fun hp3 h => ?_)
 conv => whnf
 refine vPre h (fun hp4 h => ?_)
 conv => whnf
 refine vBind h (fun c1_0 hb5 h => ?_)
 conv => whnf
 refine vIfB h (fun h => ?_) (fun h => ?_)
 conv => whnf
 cases h
 obtain rfl := hR0 _ rfl
 exact hK
 conv => whnf
 cases h
 exact ⟨⟨rfl, rfl⟩, hI0 _ rfl⟩
 conv => whnf
 cases h
 obtain rfl := hR0 _ rfl
 exact hK
 conv => whnf
 cases h
 obtain rfl := hR0 _ rfl
 exact hK
theorem w_impl_Cell_clock (q0 : SoundC Tryz.prog 301 c_slices_IndexFunc_Simpl_Pin_impl_Pin_at_impl_Cell_clock_c1) : SoundC Tryz.prog 289 c_impl_Cell_clock := by
 refine fn_sound tab_ok (gam_cons q0 gam_nil) mixed {} (fn := Tryz.f289) Tryz.func289 (by kernel_rfl) (by kernel_rfl) ?_
 rintro ⟨c0, ⟨⟩⟩ K ⟨r, h, hK⟩
 change impl_Cell_clock c0 = some r at h
 unfold impl_Cell_clock at h
 conv => whnf
 refine vBind h (fun c1_0 hb0 h => ?_)
 conv => whnf
 cases h
 exact hK
theorem w_impl_Cell_output (q0 : SoundC Tryz.prog 274 c_impl_length_impl_Pin) : SoundC Tryz.prog 278 c_impl_Cell_output := by
 refine fn_sound tab_ok (gam_cons q0 gam_nil) mixed {} (fn := Tryz.f278) Tryz.func278 (by kernel_rfl) (by kernel_rfl) ?_
 rintro ⟨c0, ⟨⟩⟩ K ⟨r, h, hK⟩
 change impl_Cell_output c0 = some r at h
 unfold impl_Cell_output at h
 conv => whnf
 refine vBind h (fun Pin0 hb0 h => ?_)
 conv => whnf
 cases h
 exact hK
theorem w_impl_Design_isNet (q0 : SoundC Tryz.prog 236 c_impl_length_string) (q1 : SoundC Tryz.prog 171 c_impl_within) : SoundC Tryz.prog 201 c_impl_Design_isNet := by
 refine fn_sound tab_ok (gam_cons q0 (gam_cons q1 gam_nil)) mixed {} (fn := Tryz.f201) Tryz.func201 (by kernel_rfl) (by kernel_rfl) ?_
 rintro ⟨d0, net0, ⟨⟩⟩ K ⟨r, h, hK⟩
 change impl_Design_isNet d0 net0 = some r at h
 unfold impl_Design_isNet at h
 conv => whnf
 refine vBind h (fun string0 hb0 h => ?_)
 conv => whnf
 refine vBind h (fun within0 hb1 h => ?_)
 conv => whnf
 cases h
 exact hK
theorem w_impl_Design_places : SoundC Tryz.prog 102 c_impl_Design_places := by
 refine fn_sound tab_ok gam_nil mixed { loops := [(0, [.reg 3 (.own (.ol 181 (.flat (tplace)))), .reg 13 (.dat (.int .i64))]), (2, [.reg 3 (.own (.ol 181 (.flat (tplace)))), .reg 21 (.dat (.int .i64))]), (4, [.reg 3 (.own (.ol 181 (.flat (tplace)))), .reg 44 (.dat (.int .i64))])] } (fn := Tryz.f102) Tryz.func102 (by kernel_rfl) (by kernel_rfl) ?_
 rintro ⟨d0, ⟨⟩⟩ K ⟨r, h, hK⟩
 change impl_Design_places d0 = some r at h
 unfold impl_Design_places at h
 conv => whnf
 refine vLoop h ?_
 rintro I0 μ0 ⟨list0, v0, ⟨⟩⟩ zs0 h hI0 hR0
 change impl_Design_places_loop2 d0 list0 v0 = some zs0 at h
 unfold impl_Design_places_loop2 at h
 conv => whnf
 refine vIfD h (fun h => ?_) (fun h => ?_)
 conv => whnf
 refine vAt h (fun x0 he1a he1b he1x h => ?_)
 conv => whnf
 refine vLoop h ?_
 rintro I2 μ2 ⟨list1, v1, ⟨⟩⟩ zs2 h hI2 hR2
 change impl_Design_places_loop0 v0 x0 list1 v1 = some zs2 at h
 unfold impl_Design_places_loop0 at h
 conv => whnf
 refine vIfD h (fun h => ?_) (fun h => ?_)
 conv => whnf
 refine vAt h (fun x1 he3a he3b he3x h => ?_)
 conv => whnf
 refine vPre h (fun hp4 h => ?_)
 conv => whnf
 cases h
 exact ⟨⟨rfl, rfl⟩, hI2 _ rfl⟩
 conv => whnf
 cases h
 obtain rfl := hR2 _ rfl
 exact ⟨⟨rfl, rfl⟩, hI0 _ rfl⟩
 conv => whnf
 refine vLoop h ?_
 rintro I5 μ5 ⟨list1, v1, ⟨⟩⟩ zs5 h hI5 hR5
 change impl_Design_places_loop1 d0 list1 v1 = some zs5 at h
 unfold impl_Design_places_loop1 at h
 conv => whnf
 refine vIfD h (fun h => ?_) (fun h => ?_)
 conv => whnf
 refine vAt h (fun x0 he6a he6b he6x h => ?_)
 conv => whnf
 refine vPre h (fun hp7 h => ?_)
 conv => whnf
 cases h
 exact ⟨⟨rfl, rfl⟩, hI5 _ rfl⟩
 conv => whnf
 cases h
 obtain rfl := hR5 _ rfl
 obtain rfl := hR0 _ rfl
 exact hK
theorem w_impl_Edit_own : SoundC Tryz.prog 207 c_impl_Edit_own := by
 refine fn_sound tab_ok gam_nil mixed {} (fn := Tryz.f207) Tryz.func207 (by kernel_rfl) (by kernel_rfl) ?_
 rintro ⟨e0, ⟨⟩⟩ K ⟨r, h, hK⟩
 change impl_Edit_own e0 = some r at h
 unfold impl_Edit_own at h
 conv => whnf
 refine vIfD h (fun h => ?_) (fun h => ?_)
 conv => whnf
 cases h
 exact hK
 conv => whnf
 refine vIfD h (fun h => ?_) (fun h => ?_)
 conv => whnf
 cases h
 exact hK
 conv => whnf
 refine vIfD h (fun h => ?_) (fun h => ?_)
 conv => whnf
 cases h
 exact hK
 conv => whnf
 refine vIfD h (fun h => ?_) (fun h => ?_)
 conv => whnf
 cases h
 exact hK
 conv => whnf
 cases h
 exact hK
theorem w_impl_InstanceNamed (q0 : SoundC Tryz.prog 244 c_slices_IndexFunc_Simpl_Instance_impl_Instance_at_impl_InstanceNamed_c1) : SoundC Tryz.prog 213 c_impl_InstanceNamed := by
 refine fn_sound tab_ok (gam_cons q0 gam_nil) mixed {} (fn := Tryz.f213) Tryz.func213 (by kernel_rfl) (by kernel_rfl) ?_
 rintro ⟨d0, name0, ⟨⟩⟩ K ⟨r, h, hK⟩
 change impl_InstanceNamed d0 name0 = some r at h
 unfold impl_InstanceNamed at h
 conv => whnf
 refine vBind h (fun c1_0 hb0 h => ?_)
 conv => whnf
 cases h
 exact hK
theorem w_impl_IsDesign_c1 : SoundC Tryz.prog 203 c_impl_IsDesign_c1 := by
 refine fn_sound tab_ok gam_nil mixed {} (fn := Tryz.f203) Tryz.func203 (by kernel_rfl) (by kernel_rfl) ?_
 rintro ⟨n0, ⟨⟩⟩ K ⟨r, h, hK⟩
 change impl_IsDesign_c1 n0 = some r at h
 unfold impl_IsDesign_c1 at h
 conv => whnf
 cases h
 exact hK
theorem w_impl_areNames (q1 : SoundC Tryz.prog 212 c_impl_isName) (q0 : SoundC Tryz.prog 250 c_slices_Contains_Sstring_string) : SoundC Tryz.prog 221 c_impl_areNames := by
 refine fn_sound tab_ok (gam_cons q1 (gam_cons q0 gam_nil)) mixed { loops := [(0, [.reg 7 (.dat (.int .i64))])] } (fn := Tryz.f221) Tryz.func221 (by kernel_rfl) (by kernel_rfl) ?_
 rintro ⟨list0, ⟨⟩⟩ K ⟨r, h, hK⟩
 change impl_areNames list0 = some r at h
 unfold impl_areNames at h
 conv => whnf
 refine vLoop h ?_
 rintro I0 μ0 ⟨v0, ⟨⟩⟩ zs0 h hI0 hR0
 change impl_areNames_loop0 list0 v0 = some zs0 at h
 unfold impl_areNames_loop0 at h
 conv => whnf
 refine vIfD h (fun h => ?_) (fun h => ?_)
 conv => whnf
 refine vAt h (fun x0 he1a he1b he1x h => ?_)
 conv => whnf
 refine vBind h (fun isName0 hb2 h => ?_)
 conv => whnf
 refine vNot ?_
 refine vIfB h (fun h => ?_) (fun h => ?_)
 conv => whnf
 refine ⟨by decide, ?_⟩
 conv => whnf
 refine vPre h (fun hp3 h => ?_)
 conv => whnf
 refine vPre h (fun hp4 h => ?_)
 conv => whnf
 refine vBind h (fun string0 hb5 h => ?_)
 conv => whnf
 refine vIfB h (fun h => ?_) (fun h => ?_)
 conv => whnf
 cases h
 obtain rfl := hR0 _ rfl
 exact hK
 conv => whnf
 cases h
 exact ⟨⟨rfl, rfl⟩, hI0 _ rfl⟩
 conv => whnf
 cases h
 obtain rfl := hR0 _ rfl
 exact hK
 conv => whnf
 cases h
 obtain rfl := hR0 _ rfl
 exact hK
theorem w_impl_areWithin_c1 (q0 : SoundC Tryz.prog 171 c_impl_within) : SoundC Tryz.prog 238 c_impl_areWithin_c1 := by
 refine fn_sound tab_ok (gam_cons q0 gam_nil) mixed {} (fn := Tryz.f238) Tryz.func238 (by kernel_rfl) (by kernel_rfl) ?_
 rintro ⟨n0, a0, a1, ⟨⟩⟩ K ⟨r, h, hK⟩
 change impl_areWithin_c1 n0 a0 a1 = some r at h
 unfold impl_areWithin_c1 at h
 conv => whnf
 refine vBind h (fun within0 hb0 h => ?_)
 conv => whnf
 cases h
 exact hK
theorem w_impl_isBuffer : SoundC Tryz.prog 211 c_impl_isBuffer := by
 refine fn_sound tab_ok gam_nil mixed {} (fn := Tryz.f211) Tryz.func211 (by kernel_rfl) (by kernel_rfl) ?_
 rintro ⟨c0, ⟨⟩⟩ K ⟨r, h, hK⟩
 change impl_isBuffer c0 = some r at h
 unfold impl_isBuffer at h
 conv => whnf
 refine vIfD h (fun h => ?_) (fun h => ?_)
 conv => whnf
 cases h
 exact hK
 conv => whnf
 cases h
 exact hK
theorem w_impl_sameEdit (q0 : SoundC Tryz.prog 239 c_impl_sameWire) : SoundC Tryz.prog 206 c_impl_sameEdit := by
 refine fn_sound tab_ok (gam_cons q0 gam_nil) mixed {} (fn := Tryz.f206) Tryz.func206 (by kernel_rfl) (by kernel_rfl) ?_
 rintro ⟨a0, b0, ⟨⟩⟩ K ⟨r, h, hK⟩
 change impl_sameEdit a0 b0 = some r at h
 unfold impl_sameEdit at h
 conv => whnf
 refine vIfD h (fun h => ?_) (fun h => ?_)
 conv => whnf
 refine vIfD h (fun h => ?_) (fun h => ?_)
 conv => whnf
 refine vIfD h (fun h => ?_) (fun h => ?_)
 conv => whnf
 refine vIfD h (fun h => ?_) (fun h => ?_)
 conv => whnf
 refine vIfD h (fun h => ?_) (fun h => ?_)
 conv => whnf
 refine vIfD h (fun h => ?_) (fun h => ?_)
 conv => whnf
 refine vBind h (fun sameWire0 hb0 h => ?_)
 conv => whnf
 cases h
 exact hK
 conv => whnf
 cases h
 exact hK
 conv => whnf
 cases h
 exact hK
 conv => whnf
 cases h
 exact hK
 conv => whnf
 cases h
 exact hK
 conv => whnf
 cases h
 exact hK
 conv => whnf
 cases h
 exact hK
theorem w_laws_eqArcS (q0 : SoundC Tryz.prog 248 c_laws_eqArc) : SoundC Tryz.prog 217 c_laws_eqArcS := by
 refine fn_sound tab_ok (gam_cons q0 gam_nil) mixed { loops := [(0, [.reg 5 (.dat (.int .i64))])], draws := [(6, [0, 0, 3, 7, 0, 0, 48, 112, 255, 511], .op 0 (.op 1 (.op 2 (.op 3 (.op 4 (.op 5 (.op 6 (.op 7 (.alt 8 (.op 9 (.done)) (.done))))))))))] } (fn := Tryz.f217) Tryz.func217 (by kernel_rfl) (by kernel_rfl) ?_
 rintro ⟨a0, b0, ⟨⟩⟩ K ⟨r, h, hK⟩
 change laws_eqArcS a0 b0 = some r at h
 unfold laws_eqArcS at h
 conv => whnf
 refine vNots ?_
 refine vIfD h (fun h => ?_) (fun h => ?_)
 conv => whnf
 refine vLoop h ?_
 rintro I0 μ0 ⟨i0, ⟨⟩⟩ zs0 h hI0 hR0
 change laws_eqArcS_loop0 a0 b0 i0 = some zs0 at h
 unfold laws_eqArcS_loop0 at h
 conv => whnf
 refine vIfD h (fun h => ?_) (fun h => ?_)
 conv => whnf
 refine ⟨by kernel_rfl, ?_⟩
 conv => whnf
 refine vAt h (fun x0 he1a he1b he1x h => ?_)
 conv => whnf
 refine vAt h (fun x1 he2a he2b he2x h => ?_)
 conv => whnf
 refine vBind h (fun eqArc0 hb3 h => ?_)
 conv => whnf
 refine vNots ?_
 refine vIfB h (fun h => ?_) (fun h => ?_)
 conv => whnf
 cases h
 exact ⟨⟨rfl, rfl⟩, hI0 _ rfl⟩
 conv => whnf
 cases h
 obtain rfl := hR0 _ rfl
 exact hK
 conv => whnf
 cases h
 obtain rfl := hR0 _ rfl
 exact hK
 conv => whnf
 cases h
 exact hK
theorem w_laws_eqSpan : SoundC Tryz.prog 123 c_laws_eqSpan := by
 refine fn_sound tab_ok gam_nil mixed {} (fn := Tryz.f123) Tryz.func123 (by kernel_rfl) (by kernel_rfl) ?_
 rintro ⟨a0, b0, ⟨⟩⟩ K ⟨r, h, hK⟩
 change laws_eqSpan a0 b0 = some r at h
 unfold laws_eqSpan at h
 conv => whnf
 refine vNots ?_
 refine vIfD h (fun h => ?_) (fun h => ?_)
 conv => whnf
 refine vNots ?_
 refine vIfD h (fun h => ?_) (fun h => ?_)
 conv => whnf
 cases h
 exact hK
 conv => whnf
 cases h
 exact hK
 conv => whnf
 cases h
 exact hK
theorem w_laws_eqStringS : SoundC Tryz.prog 105 c_laws_eqStringS := by
 refine fn_sound tab_ok gam_nil mixed { loops := [(0, [.reg 5 (.dat (.int .i64))])], draws := [(6, [0, 0, 3, 7, 0, 0, 48, 112, 255], .op 0 (.op 1 (.op 2 (.op 3 (.op 4 (.op 5 (.op 6 (.op 7 (.op 8 (.done))))))))))] } (fn := Tryz.f105) Tryz.func105 (by kernel_rfl) (by kernel_rfl) ?_
 rintro ⟨a0, b0, ⟨⟩⟩ K ⟨r, h, hK⟩
 change laws_eqStringS a0 b0 = some r at h
 unfold laws_eqStringS at h
 conv => whnf
 refine vNots ?_
 refine vIfD h (fun h => ?_) (fun h => ?_)
 conv => whnf
 refine vLoop h ?_
 rintro I0 μ0 ⟨i0, ⟨⟩⟩ zs0 h hI0 hR0
 change laws_eqStringS_loop0 a0 b0 i0 = some zs0 at h
 unfold laws_eqStringS_loop0 at h
 conv => whnf
 refine vIfD h (fun h => ?_) (fun h => ?_)
 conv => whnf
 refine ⟨by kernel_rfl, ?_⟩
 conv => whnf
 refine vAt h (fun x0 he1a he1b he1x h => ?_)
 conv => whnf
 refine vAt h (fun x1 he2a he2b he2x h => ?_)
 conv => whnf
 refine vNots ?_
 refine vIfD h (fun h => ?_) (fun h => ?_)
 conv => whnf
 cases h
 exact ⟨⟨rfl, rfl⟩, hI0 _ rfl⟩
 conv => whnf
 cases h
 obtain rfl := hR0 _ rfl
 exact hK
 conv => whnf
 cases h
 obtain rfl := hR0 _ rfl
 exact hK
 conv => whnf
 cases h
 exact hK
theorem w_laws_eqTableS (q0 : SoundC Tryz.prog 285 c_laws_eqTable) : SoundC Tryz.prog 270 c_laws_eqTableS := by
 refine fn_sound tab_ok (gam_cons q0 gam_nil) mixed { loops := [(0, [.reg 5 (.dat (.int .i64))])], draws := [(6, [0, 0, 3, 7, 0, 0, 48, 112, 255, 511], .op 0 (.op 1 (.op 2 (.op 3 (.op 4 (.op 5 (.op 6 (.op 7 (.alt 8 (.op 9 (.done)) (.done))))))))))] } (fn := Tryz.f270) Tryz.func270 (by kernel_rfl) (by kernel_rfl) ?_
 rintro ⟨a0, b0, ⟨⟩⟩ K ⟨r, h, hK⟩
 change laws_eqTableS a0 b0 = some r at h
 unfold laws_eqTableS at h
 conv => whnf
 refine vNots ?_
 refine vIfD h (fun h => ?_) (fun h => ?_)
 conv => whnf
 refine vLoop h ?_
 rintro I0 μ0 ⟨i0, ⟨⟩⟩ zs0 h hI0 hR0
 change laws_eqTableS_loop0 a0 b0 i0 = some zs0 at h
 unfold laws_eqTableS_loop0 at h
 conv => whnf
 refine vIfD h (fun h => ?_) (fun h => ?_)
 conv => whnf
 refine ⟨by kernel_rfl, ?_⟩
 conv => whnf
 refine vAt h (fun x0 he1a he1b he1x h => ?_)
 conv => whnf
 refine vAt h (fun x1 he2a he2b he2x h => ?_)
 conv => whnf
 refine vBind h (fun eqTable0 hb3 h => ?_)
 conv => whnf
 refine vNots ?_
 refine vIfB h (fun h => ?_) (fun h => ?_)
 conv => whnf
 cases h
 exact ⟨⟨rfl, rfl⟩, hI0 _ rfl⟩
 conv => whnf
 cases h
 obtain rfl := hR0 _ rfl
 exact hK
 conv => whnf
 cases h
 obtain rfl := hR0 _ rfl
 exact hK
 conv => whnf
 cases h
 exact hK
theorem w_laws_markBlock (q0 : SoundC Tryz.prog 51 c_laws_markLibrary) (q1 : SoundC Tryz.prog 52 c_laws_markDesign) (q2 : SoundC Tryz.prog 53 c_laws_markWireS) : SoundC Tryz.prog 15 c_laws_markBlock := by
 refine fn_sound tabD_ok (gam_cons q0 (gam_cons q1 (gam_cons q2 gam_nil))) mixed {} (fn := Tryz.f15) Tryz.func15 (by kernel_rfl) (by kernel_rfl) ?_
 rintro ⟨a0, k0, ⟨⟩⟩ K ⟨r, h, hK⟩
 change laws_markBlock a0 k0 = some r at h
 unfold laws_markBlock at h
 conv => whnf
 intro fp0
 conv => whnf
 intro fp1
 conv => whnf
 intro fp2
 conv => whnf
 refine vBind h (fun markLibrary0 hb3 h => ?_)
 conv => whnf
 intro fp4
 conv => whnf
 refine vBind h (fun markDesign0 hb5 h => ?_)
 conv => whnf
 intro fp6
 conv => whnf
 refine vBind h (fun markWireS0 hb7 h => ?_)
 conv => whnf
 intro fp8
 conv => whnf
 cases h
 exact hK
theorem w_laws_markCellS (q1 : SoundC Tryz.prog 141 c_laws_markText) (q2 : SoundC Tryz.prog 164 c_laws_markPinS) (q3 : SoundC Tryz.prog 165 c_laws_markArcS) (q0 : SoundC Tryz.prog 17 c_laws_markInt64S) : SoundC Tryz.prog 107 c_laws_markCellS := by
 refine fn_sound tabD_ok (gam_cons q1 (gam_cons q2 (gam_cons q3 (gam_cons q0 gam_nil)))) mixed { loops := [(0, [.reg 1 (.dat (.int .i64)), .reg 5 (.dat (.int .i64)), .ent 0 (nat_lit 252) (Dp.pair (Dp.flat Ty.str) (Dp.pair (Dp.flat (Ty.int IntKind.i64)) (Dp.pair (Dp.ol (285 : Go.TypeId) (Dp.flat tPin)) (Dp.pair (Dp.ol (266 : Go.TypeId) dArc) (Dp.pair (Dp.ol (2 : Go.TypeId) (Dp.flat (Ty.int IntKind.i64))) (Dp.pair (Dp.flat (Ty.int IntKind.i64)) (Dp.pair (Dp.flat (Ty.int IntKind.i64)) (Dp.flat Ty.unit))))))))])] } (fn := Tryz.f107) Tryz.func107 (by kernel_rfl) (by kernel_rfl) ?_
 rintro ⟨a0, k0, ⟨⟩⟩ K ⟨r, h, hK⟩
 change laws_markCellS a0 k0 = some r at h
 unfold laws_markCellS at h
 conv => whnf
 intro fp0
 conv => whnf
 refine vLoop h ?_
 rintro I1 μ1 ⟨k1, i0, l0, ⟨⟩⟩ zs1 h hI1 hR1
 change laws_markCellS_loop0 k1 i0 l0 = some zs1 at h
 unfold laws_markCellS_loop0 at h
 conv => whnf
 intro fp2
 conv => whnf
 refine vIfD h (fun h => ?_) (fun h => ?_)
 conv => whnf
 refine vBind h (fun markText0 hb3 h => ?_)
 conv => whnf
 refine vAt h (fun x0 he4a he4b he4x h => ?_)
 conv => whnf
 refine ⟨he4a, he4b, vAgain he4x ?_⟩
 conv => whnf
 intro fp5
 conv => whnf
 intro fp6
 conv => whnf
 refine ⟨he4a, he4b, vAgain he4x ?_⟩
 conv => whnf
 refine .inl ⟨rfl, ?_⟩
 conv => whnf
 refine ⟨he4a, he4b, vAgain he4x ?_⟩
 conv => whnf
 refine .inl ⟨rfl, ?_⟩
 conv => whnf
 refine vBind h (fun markPinS0 hb7 h => ?_)
 conv => whnf
 refine ⟨he4a, he4b, vAgain he4x ?_⟩
 conv => whnf
 refine .inl ⟨rfl, ?_⟩
 conv => whnf
 refine vBind h (fun markArcS0 hb8 h => ?_)
 conv => whnf
 intro fp9
 conv => whnf
 refine ⟨he4a, he4b, vAgain he4x ?_⟩
 conv => whnf
 refine .inl ⟨rfl, ?_⟩
 conv => whnf
 refine vBind h (fun markInt64S0 hb10 h => ?_)
 conv => whnf
 refine ⟨he4a, he4b, vAgain he4x ?_⟩
 conv => whnf
 refine .inl ⟨rfl, ?_⟩
 conv => whnf
 refine ⟨he4a, he4b, vAgain he4x ?_⟩
 conv => whnf
 refine .inl ⟨rfl, ?_⟩
 conv => whnf
 cases h
 exact ⟨⟨rfl, rfl⟩, hI1 _ rfl⟩
 conv => whnf
 cases h
 obtain rfl := hR1 _ rfl
 exact hK
theorem w_laws_markPinS (q0 : SoundC Tryz.prog 141 c_laws_markText) : SoundC Tryz.prog 164 c_laws_markPinS := by
 refine fn_sound tabD_ok (gam_cons q0 gam_nil) mixed { loops := [(0, [.reg 1 (.dat (.int .i64)), .reg 5 (.dat (.int .i64)), .ent 0 (nat_lit 285) (.flat tPin)])] } (fn := Tryz.f164) Tryz.func164 (by kernel_rfl) (by kernel_rfl) ?_
 rintro ⟨a0, k0, ⟨⟩⟩ K ⟨r, h, hK⟩
 change laws_markPinS a0 k0 = some r at h
 unfold laws_markPinS at h
 conv => whnf
 refine vLoop h ?_
 rintro I0 μ0 ⟨k1, i0, l0, ⟨⟩⟩ zs0 h hI0 hR0
 change laws_markPinS_loop0 k1 i0 l0 = some zs0 at h
 unfold laws_markPinS_loop0 at h
 conv => whnf
 refine vIfD h (fun h => ?_) (fun h => ?_)
 conv => whnf
 refine vBind h (fun markText0 hb1 h => ?_)
 conv => whnf
 refine vAt h (fun x0 he2a he2b he2x h => ?_)
 conv => whnf
 refine ⟨by kernel_rfl, ?_⟩
 conv => whnf
 refine ⟨by decide, ?_⟩
 conv => whnf
 refine ⟨he2a, he2b, vAgain he2x ?_⟩
 conv => whnf
 refine vAt h (fun x1 he3a he3b he3x h => ?_)
 conv => whnf
 refine ⟨by kernel_rfl, ?_⟩
 conv => whnf
 refine ⟨by decide, ?_⟩
 conv => whnf
 refine ⟨he3a, he3b, vAgain he3x ?_⟩
 conv => whnf
 refine vAt h (fun x2 he4a he4b he4x h => ?_)
 conv => whnf
 refine ⟨by kernel_rfl, ?_⟩
 conv => whnf
 refine ⟨by decide, ?_⟩
 conv => whnf
 refine ⟨he4a, he4b, vAgain he4x ?_⟩
 conv => whnf
 refine ⟨by decide, ?_⟩
 conv => whnf
 refine vAt h (fun x3 he5a he5b he5x h => ?_)
 conv => whnf
 refine ⟨by kernel_rfl, ?_⟩
 conv => whnf
 refine ⟨by decide, ?_⟩
 conv => whnf
 refine ⟨he5a, he5b, vAgain he5x ?_⟩
 conv => whnf
 cases h
 exact ⟨⟨rfl, rfl⟩, hI0 _ rfl⟩
 conv => whnf
 cases h
 obtain rfl := hR0 _ rfl
 exact hK
theorem w_laws_szArc (q0 : SoundC Tryz.prog 252 c_laws_szTableS) : SoundC Tryz.prog 229 c_laws_szArc := by
 refine fn_sound tab_ok (gam_cons q0 gam_nil) mixed {} (fn := Tryz.f229) Tryz.func229 (by kernel_rfl) (by kernel_rfl) ?_
 rintro ⟨a0, left0, ⟨⟩⟩ K ⟨r, h, hK⟩
 change laws_szArc a0 left0 = some r at h
 unfold laws_szArc at h
 conv => whnf
 refine vBind h (fun szTableS0 hb0 h => ?_)
 conv => whnf
 refine vIfD h (fun h => ?_) (fun h => ?_)
 conv => whnf
 cases h
 exact hK
 conv => whnf
 refine vBind h (fun szTableS1 hb1 h => ?_)
 conv => whnf
 refine vIfD h (fun h => ?_) (fun h => ?_)
 conv => whnf
 cases h
 exact hK
 conv => whnf
 cases h
 exact hK
theorem w_laws_szArcS (q0 : SoundC Tryz.prog 229 c_laws_szArc) : SoundC Tryz.prog 190 c_laws_szArcS := by
 refine fn_sound tab_ok (gam_cons q0 gam_nil) mixed { loops := [(0, [.reg 1 (.dat (.int .i64)), .reg 5 (.dat (.int .i64))])] } (fn := Tryz.f190) Tryz.func190 (by kernel_rfl) (by kernel_rfl) ?_
 rintro ⟨a0, left0, ⟨⟩⟩ K ⟨r, h, hK⟩
 change laws_szArcS a0 left0 = some r at h
 unfold laws_szArcS at h
 conv => whnf
 refine vIfD h (fun h => ?_) (fun h => ?_)
 conv => whnf
 cases h
 exact hK
 conv => whnf
 refine vLoop h ?_
 rintro I0 μ0 ⟨left1, i0, ⟨⟩⟩ zs0 h hI0 hR0
 change laws_szArcS_loop0 a0 left1 i0 = some zs0 at h
 unfold laws_szArcS_loop0 at h
 conv => whnf
 refine vIfD h (fun h => ?_) (fun h => ?_)
 conv => whnf
 refine vAt h (fun x0 he1a he1b he1x h => ?_)
 conv => whnf
 refine vBind h (fun szArc0 hb2 h => ?_)
 conv => whnf
 refine vIfD h (fun h => ?_) (fun h => ?_)
 conv => whnf
 cases h
 obtain rfl := hR0 _ rfl
 exact hK
 conv => whnf
 cases h
 exact ⟨⟨rfl, rfl⟩, hI0 _ rfl⟩
 conv => whnf
 cases h
 obtain rfl := hR0 _ rfl
 exact hK
theorem w_laws_szDesign (q0 : SoundC Tryz.prog 85 c_laws_szInstanceS) (q1 : SoundC Tryz.prog 86 c_laws_szStringS) (q2 : SoundC Tryz.prog 87 c_laws_szPortS) : SoundC Tryz.prog 36 c_laws_szDesign := by
 refine fn_sound tab_ok (gam_cons q0 (gam_cons q1 (gam_cons q2 gam_nil))) mixed {} (fn := Tryz.f36) Tryz.func36 (by kernel_rfl) (by kernel_rfl) ?_
 rintro ⟨a0, left0, ⟨⟩⟩ K ⟨r, h, hK⟩
 change laws_szDesign a0 left0 = some r at h
 unfold laws_szDesign at h
 conv => whnf
 refine vBind h (fun szInstanceS0 hb0 h => ?_)
 conv => whnf
 refine vIfD h (fun h => ?_) (fun h => ?_)
 conv => whnf
 cases h
 exact hK
 conv => whnf
 refine vBind h (fun szStringS0 hb1 h => ?_)
 conv => whnf
 refine vIfD h (fun h => ?_) (fun h => ?_)
 conv => whnf
 cases h
 exact hK
 conv => whnf
 refine vBind h (fun szPortS0 hb2 h => ?_)
 conv => whnf
 refine vIfD h (fun h => ?_) (fun h => ?_)
 conv => whnf
 cases h
 exact hK
 conv => whnf
 cases h
 exact hK
theorem w_laws_szPort : SoundC Tryz.prog 144 c_laws_szPort := by
 refine fn_sound tab_ok gam_nil mixed {} (fn := Tryz.f144) Tryz.func144 (by kernel_rfl) (by kernel_rfl) ?_
 rintro ⟨a0, left0, ⟨⟩⟩ K ⟨r, h, hK⟩
 change laws_szPort a0 left0 = some r at h
 unfold laws_szPort at h
 conv => whnf
 refine vIfD h (fun h => ?_) (fun h => ?_)
 conv => whnf
 cases h
 exact hK
 conv => whnf
 cases h
 exact hK
theorem w_laws_szStringS : SoundC Tryz.prog 86 c_laws_szStringS := by
 refine fn_sound tab_ok gam_nil mixed { loops := [(0, [.reg 1 (.dat (.int .i64)), .reg 5 (.dat (.int .i64))])] } (fn := Tryz.f86) Tryz.func86 (by kernel_rfl) (by kernel_rfl) ?_
 rintro ⟨a0, left0, ⟨⟩⟩ K ⟨r, h, hK⟩
 change laws_szStringS a0 left0 = some r at h
 unfold laws_szStringS at h
 conv => whnf
 refine vIfD h (fun h => ?_) (fun h => ?_)
 conv => whnf
 cases h
 exact hK
 conv => whnf
 refine vLoop h ?_
 rintro I0 μ0 ⟨left1, i0, ⟨⟩⟩ zs0 h hI0 hR0
 change laws_szStringS_loop0 a0 left1 i0 = some zs0 at h
 unfold laws_szStringS_loop0 at h
 conv => whnf
 refine vIfD h (fun h => ?_) (fun h => ?_)
 conv => whnf
 refine vAt h (fun x0 he1a he1b he1x h => ?_)
 conv => whnf
 refine vIfD h (fun h => ?_) (fun h => ?_)
 conv => whnf
 cases h
 obtain rfl := hR0 _ rfl
 exact hK
 conv => whnf
 cases h
 exact ⟨⟨rfl, rfl⟩, hI0 _ rfl⟩
 conv => whnf
 cases h
 obtain rfl := hR0 _ rfl
 exact hK
theorem w_laws_szTable (q0 : SoundC Tryz.prog 88 c_laws_szInt64S) : SoundC Tryz.prog 271 c_laws_szTable := by
 refine fn_sound tab_ok (gam_cons q0 gam_nil) mixed {} (fn := Tryz.f271) Tryz.func271 (by kernel_rfl) (by kernel_rfl) ?_
 rintro ⟨a0, left0, ⟨⟩⟩ K ⟨r, h, hK⟩
 change laws_szTable a0 left0 = some r at h
 unfold laws_szTable at h
 conv => whnf
 refine vBind h (fun szInt64S0 hb0 h => ?_)
 conv => whnf
 refine vIfD h (fun h => ?_) (fun h => ?_)
 conv => whnf
 cases h
 exact hK
 conv => whnf
 refine vBind h (fun szInt64S1 hb1 h => ?_)
 conv => whnf
 refine vIfD h (fun h => ?_) (fun h => ?_)
 conv => whnf
 cases h
 exact hK
 conv => whnf
 refine vBind h (fun szInt64S2 hb2 h => ?_)
 conv => whnf
 refine vIfD h (fun h => ?_) (fun h => ?_)
 conv => whnf
 cases h
 exact hK
 conv => whnf
 cases h
 exact hK
theorem w_laws_szTableS (q0 : SoundC Tryz.prog 271 c_laws_szTable) : SoundC Tryz.prog 252 c_laws_szTableS := by
 refine fn_sound tab_ok (gam_cons q0 gam_nil) mixed { loops := [(0, [.reg 1 (.dat (.int .i64)), .reg 5 (.dat (.int .i64))])] } (fn := Tryz.f252) Tryz.func252 (by kernel_rfl) (by kernel_rfl) ?_
 rintro ⟨a0, left0, ⟨⟩⟩ K ⟨r, h, hK⟩
 change laws_szTableS a0 left0 = some r at h
 unfold laws_szTableS at h
 conv => whnf
 refine vIfD h (fun h => ?_) (fun h => ?_)
 conv => whnf
 cases h
 exact hK
 conv => whnf
 refine vLoop h ?_
 rintro I0 μ0 ⟨left1, i0, ⟨⟩⟩ zs0 h hI0 hR0
 change laws_szTableS_loop0 a0 left1 i0 = some zs0 at h
 unfold laws_szTableS_loop0 at h
 conv => whnf
 refine vIfD h (fun h => ?_) (fun h => ?_)
 conv => whnf
 refine vAt h (fun x0 he1a he1b he1x h => ?_)
 conv => whnf
 refine vBind h (fun szTable0 hb2 h => ?_)
 conv => whnf
 refine vIfD h (fun h => ?_) (fun h => ?_)
 conv => whnf
 cases h
 obtain rfl := hR0 _ rfl
 exact hK
 conv => whnf
 cases h
 exact ⟨⟨rfl, rfl⟩, hI0 _ rfl⟩
 conv => whnf
 cases h
 obtain rfl := hR0 _ rfl
 exact hK
theorem w_laws_toEdit (q0 : SoundC Tryz.prog 44 c_laws_toWire) : SoundC Tryz.prog 10 c_laws_toEdit := by
 refine fn_sound tab_ok (gam_cons q0 gam_nil) mixed {} (fn := Tryz.f10) Tryz.func10 (by kernel_rfl) (by kernel_rfl) ?_
 rintro ⟨a0, ⟨⟩⟩ K ⟨r, h, hK⟩
 change laws_toEdit a0 = some r at h
 unfold laws_toEdit at h
 conv => whnf
 refine vBind h (fun toWire0 hb0 h => ?_)
 conv => whnf
 cases h
 exact hK
theorem w_laws_toInstanceS (q0 : SoundC Tryz.prog 155 c_laws_toInstance) : SoundC Tryz.prog 95 c_laws_toInstanceS := by
 refine fn_sound tabD_ok (gam_cons q0 gam_nil) mixed { loops := [(0, [.reg 4 (.dat (.int .i64)), .ent 0 (nat_lit 177) dInstance])] } (fn := Tryz.f95) Tryz.func95 (by kernel_rfl) (by kernel_rfl) ?_
 rintro ⟨a0, ⟨⟩⟩ K ⟨r, h, hK⟩
 change laws_toInstanceS a0 = some r at h
 unfold laws_toInstanceS at h
 conv => whnf
 refine vPre h (fun hp0 h => ?_)
 conv => whnf
 refine vPre h (fun hp1 h => ?_)
 conv => whnf
 refine vPre h (fun hp2 h => ?_)
 conv => whnf
 refine vPre h (fun hp3 h => ?_)
 conv => whnf
 intro fp4
 conv => whnf
 refine vLoop h ?_
 rintro I5 μ5 ⟨i0, l0, ⟨⟩⟩ zs5 h hI5 hR5
 change laws_toInstanceS_loop0 a0 i0 l0 = some zs5 at h
 unfold laws_toInstanceS_loop0 at h
 conv => whnf
 intro fp6
 conv => whnf
 refine vIfD h (fun h => ?_) (fun h => ?_)
 conv => whnf
 refine vAt h (fun x0 he7a he7b he7x h => ?_)
 conv => whnf
 refine vBind h (fun toInstance0 hb8 h => ?_)
 conv => whnf
 refine vAt h (fun x1 he9a he9b he9x h => ?_)
 conv => whnf
 refine ⟨he9a, he9b, vAgain he9x ?_⟩
 conv => whnf
 intro fp10
 conv => whnf
 cases h
 exact ⟨⟨rfl, rfl⟩, hI5 _ rfl⟩
 conv => whnf
 cases h
 obtain rfl := hR5 _ rfl
 exact hK
theorem w_laws_toTableS (q0 : SoundC Tryz.prog 273 c_laws_toTable) : SoundC Tryz.prog 256 c_laws_toTableS := by
 refine fn_sound tabD_ok (gam_cons q0 gam_nil) mixed { loops := [(0, [.reg 4 (.dat (.int .i64)), .ent 0 (nat_lit 329) dTable])] } (fn := Tryz.f256) Tryz.func256 (by kernel_rfl) (by kernel_rfl) ?_
 rintro ⟨a0, ⟨⟩⟩ K ⟨r, h, hK⟩
 change laws_toTableS a0 = some r at h
 unfold laws_toTableS at h
 conv => whnf
 refine vPre h (fun hp0 h => ?_)
 conv => whnf
 refine vPre h (fun hp1 h => ?_)
 conv => whnf
 refine vPre h (fun hp2 h => ?_)
 conv => whnf
 refine vPre h (fun hp3 h => ?_)
 conv => whnf
 intro fp4
 conv => whnf
 refine vLoop h ?_
 rintro I5 μ5 ⟨i0, l0, ⟨⟩⟩ zs5 h hI5 hR5
 change laws_toTableS_loop0 a0 i0 l0 = some zs5 at h
 unfold laws_toTableS_loop0 at h
 conv => whnf
 intro fp6
 conv => whnf
 refine vIfD h (fun h => ?_) (fun h => ?_)
 conv => whnf
 refine vAt h (fun x0 he7a he7b he7x h => ?_)
 conv => whnf
 refine vBind h (fun toTable0 hb8 h => ?_)
 conv => whnf
 refine vAt h (fun x1 he9a he9b he9x h => ?_)
 conv => whnf
 refine ⟨he9a, he9b, vAgain he9x ?_⟩
 conv => whnf
 intro fp10
 conv => whnf
 cases h
 exact ⟨⟨rfl, rfl⟩, hI5 _ rfl⟩
 conv => whnf
 cases h
 obtain rfl := hR5 _ rfl
 exact hK
theorem w_slices_ContainsFunc_Sint64_int64_at_impl_Design_isInstance_c1 (q0 : SoundC Tryz.prog 260 c_slices_IndexFunc_Sint64_int64_at_impl_Design_isInstance_c1) : SoundC Tryz.prog 234 c_slices_ContainsFunc_Sint64_int64_at_impl_Design_isInstance_c1 := by
 refine fn_sound tab_ok (gam_cons q0 gam_nil) mixed {} (fn := Tryz.f234) Tryz.func234 (by kernel_rfl) (by kernel_rfl) ?_
 rintro ⟨s0, f0, ⟨⟩⟩ K ⟨r, h, hK⟩
 change slices_ContainsFunc_Sint64_int64_at_impl_Design_isInstance_c1 s0 f0 = some r at h
 unfold slices_ContainsFunc_Sint64_int64_at_impl_Design_isInstance_c1 at h
 conv => whnf
 refine vBind h (fun c1_0 hb0 h => ?_)
 conv => whnf
 cases h
 exact hK
theorem w_spec_IsCell (q1 : SoundC Tryz.prog 253 c_spec_l03Pins) (q2 : SoundC Tryz.prog 150 c_spec_l03Name) (q4 : SoundC Tryz.prog 112 c_spec_l01In) (q3 : SoundC Tryz.prog 254 c_spec_l03Arc) (q0 : SoundC Tryz.prog 255 c_spec_l03Kinds) : SoundC Tryz.prog 230 c_spec_IsCell := by
 refine fn_sound tab_ok (gam_cons q1 (gam_cons q2 (gam_cons q4 (gam_cons q3 (gam_cons q0 gam_nil))))) mixed { loops := [(0, [.reg 5 (.dat (.int .i64))]), (2, [.reg 7 (.dat (.int .i64))]), (5, [.reg 9 (.dat (.int .i64))])], draws := [(13, [0, 1, 0, 7, 15, 31, 0, 64, 255, 511, 1023, 2047, 1023, 8191, 16383, 32767, 1023, 66559, 262143, 524287, 1048575, 2097151, 4194303, 2097151, 16777215, 33554431, 67108863, 2097151, 136314879, 536870911, 1073741823], .op 0 (.op 1 (.op 2 (.op 3 (.op 4 (.op 5 (.op 6 (.op 7 (.op 8 (.op 9 (.op 10 (.op 11 (.op 12 (.op 13 (.op 14 (.op 15 (.op 16 (.op 17 (.op 18 (.op 19 (.op 20 (.op 21 (.op 22 (.op 23 (.op 24 (.op 25 (.op 26 (.op 27 (.op 28 (.op 29 (.op 30 (.done)))))))))))))))))))))))))))))))), (25, [0, 1, 3, 7, 15, 31, 63, 127, 255, 511, 1023, 2047, 4095, 511, 8703, 25087, 57855, 131071, 262143, 524287, 1048575, 2097151, 4194303, 8388607, 16777215, 33554431], .op 0 (.op 1 (.op 2 (.op 3 (.op 4 (.op 5 (.op 6 (.op 7 (.op 8 (.op 9 (.op 10 (.op 11 (.op 12 (.op 13 (.op 14 (.op 15 (.op 16 (.op 17 (.op 18 (.op 19 (.op 20 (.op 21 (.op 22 (.op 23 (.op 24 (.op 25 (.done)))))))))))))))))))))))))))] } (fn := Tryz.f230) Tryz.func230 (by kernel_rfl) (by kernel_rfl) ?_
 rintro ⟨a0, ⟨⟩⟩ K ⟨r, h, hK⟩
 change spec_IsCell a0 = some r at h
 unfold spec_IsCell at h
 conv => whnf
 refine vBind h (fun l03Pins0 hb0 h => ?_)
 conv => whnf
 refine vNot ?_
 refine vIfB h (fun h => ?_) (fun h => ?_)
 conv => whnf
 refine vBind h (fun l03Name0 hb1 h => ?_)
 conv => whnf
 refine vNot ?_
 refine vIfB h (fun h => ?_) (fun h => ?_)
 conv => whnf
 refine vIfDs h (fun h => ?_) (fun h => ?_)
 conv => whnf
 cases h
 exact hK
 conv => whnf
 refine vBind h (fun l01In0 hb2 h => ?_)
 conv => whnf
 refine vNot ?_
 refine vIfB h (fun h => ?_) (fun h => ?_)
 conv => whnf
 refine vBind h (fun l01In1 hb3 h => ?_)
 conv => whnf
 refine vNots ?_
 refine vIfB h (fun h => ?_) (fun h => ?_)
 conv => whnf
 refine vLoop h ?_
 rintro I4 μ4 ⟨v0, ⟨⟩⟩ zs4 h hI4 hR4
 change spec_IsCell_loop2 a0 l03Pins0 v0 = some zs4 at h
 unfold spec_IsCell_loop2 at h
 conv => whnf
 refine vIfD h (fun h => ?_) (fun h => ?_)
 conv => whnf
 refine vAt h (fun x0 he5a he5b he5x h => ?_)
 conv => whnf
 refine vBind h (fun l03Arc0 hb6 h => ?_)
 conv => whnf
 refine vNots ?_
 refine vIfB h (fun h => ?_) (fun h => ?_)
 conv => whnf
 refine vLoop h ?_
 rintro I7 μ7 ⟨v1, ⟨⟩⟩ zs7 h hI7 hR7
 change spec_IsCell_loop0 a0 v0 x0 v1 = some zs7 at h
 unfold spec_IsCell_loop0 at h
 conv => whnf
 refine vIfD h (fun h => ?_) (fun h => ?_)
 conv => whnf
 refine ⟨by kernel_rfl, ?_⟩
 conv => whnf
 refine vAt h (fun x1 he8a he8b he8x h => ?_)
 conv => whnf
 refine vIfD h (fun h => ?_) (fun h => ?_)
 conv => whnf
 refine ⟨he8a, he8b, vAgain he8x ?_⟩
 conv => whnf
 refine vIfD h (fun h => ?_) (fun h => ?_)
 conv => whnf
 refine ⟨he8a, he8b, vAgain he8x ?_⟩
 conv => whnf
 refine vIfD h (fun h => ?_) (fun h => ?_)
 conv => whnf
 cases h
 obtain rfl := hR7 _ rfl
 obtain rfl := hR4 _ rfl
 exact hK
 conv => whnf
 cases h
 exact ⟨⟨rfl, rfl⟩, hI7 _ rfl⟩
 conv => whnf
 cases h
 exact ⟨⟨rfl, rfl⟩, hI7 _ rfl⟩
 conv => whnf
 cases h
 exact ⟨⟨rfl, rfl⟩, hI7 _ rfl⟩
 conv => whnf
 cases h
 obtain rfl := hR7 _ rfl
 exact ⟨⟨rfl, rfl⟩, hI4 _ rfl⟩
 conv => whnf
 cases h
 obtain rfl := hR4 _ rfl
 exact hK
 conv => whnf
 refine vBind h (fun l03Kinds0 hb9 h => ?_)
 conv => whnf
 refine vIfD h (fun h => ?_) (fun h => ?_)
 conv => whnf
 refine vLoop h ?_
 rintro I10 μ10 ⟨v1, ⟨⟩⟩ zs10 h hI10 hR10
 change spec_IsCell_loop1 a0 l03Pins0 v1 = some zs10 at h
 unfold spec_IsCell_loop1 at h
 conv => whnf
 refine vIfD h (fun h => ?_) (fun h => ?_)
 conv => whnf
 refine vAt h (fun x0 he11a he11b he11x h => ?_)
 conv => whnf
 refine vBind h (fun l01In2 hb12 h => ?_)
 conv => whnf
 refine vNots ?_
 refine vIfB h (fun h => ?_) (fun h => ?_)
 conv => whnf
 cases h
 exact ⟨⟨rfl, rfl⟩, hI10 _ rfl⟩
 conv => whnf
 cases h
 obtain rfl := hR10 _ rfl
 obtain rfl := hR4 _ rfl
 exact hK
 conv => whnf
 refine vIfD h (fun h => ?_) (fun h => ?_)
 conv => whnf
 refine vPre h (fun hp13 h => ?_)
 conv => whnf
 cases h
 obtain rfl := hR10 _ rfl
 obtain rfl := hR4 _ rfl
 exact hK
 conv => whnf
 cases h
 obtain rfl := hR10 _ rfl
 obtain rfl := hR4 _ rfl
 exact hK
 conv => whnf
 refine vIfD h (fun h => ?_) (fun h => ?_)
 conv => whnf
 refine ⟨by kernel_rfl, ?_⟩
 conv => whnf
 refine vIfD h (fun h => ?_) (fun h => ?_)
 conv => whnf
 refine vAt h (fun x0 he14a he14b he14x h => ?_)
 conv => whnf
 refine ⟨by kernel_rfl, ?_⟩
 conv => whnf
 refine ⟨he14a, he14b, vAgain he14x ?_⟩
 conv => whnf
 refine vIfD h (fun h => ?_) (fun h => ?_)
 conv => whnf
 refine vAt h (fun x1 he15a he15b he15x h => ?_)
 conv => whnf
 refine ⟨by kernel_rfl, ?_⟩
 conv => whnf
 refine ⟨he15a, he15b, vAgain he15x ?_⟩
 conv => whnf
 refine vAt h (fun x2 he16a he16b he16x h => ?_)
 conv => whnf
 refine ⟨by kernel_rfl, ?_⟩
 conv => whnf
 refine ⟨he16a, he16b, vAgain he16x ?_⟩
 conv => whnf
 refine vNots ?_
 refine vIfB h (fun h => ?_) (fun h => ?_)
 conv => whnf
 cases h
 obtain rfl := hR4 _ rfl
 exact hK
 conv => whnf
 cases h
 obtain rfl := hR4 _ rfl
 exact hK
 conv => whnf
 cases h
 obtain rfl := hR4 _ rfl
 exact hK
 conv => whnf
 cases h
 obtain rfl := hR4 _ rfl
 exact hK
 conv => whnf
 refine vIfD h (fun h => ?_) (fun h => ?_)
 conv => whnf
 refine vIfD h (fun h => ?_) (fun h => ?_)
 conv => whnf
 refine vAt h (fun x0 he17a he17b he17x h => ?_)
 conv => whnf
 refine ⟨by kernel_rfl, ?_⟩
 conv => whnf
 refine ⟨he17a, he17b, vAgain he17x ?_⟩
 conv => whnf
 refine vIfD h (fun h => ?_) (fun h => ?_)
 conv => whnf
 refine vAt h (fun x1 he18a he18b he18x h => ?_)
 conv => whnf
 refine ⟨by kernel_rfl, ?_⟩
 conv => whnf
 refine ⟨he18a, he18b, vAgain he18x ?_⟩
 conv => whnf
 refine vIfD h (fun h => ?_) (fun h => ?_)
 conv => whnf
 refine vAt h (fun x2 he19a he19b he19x h => ?_)
 conv => whnf
 refine ⟨by kernel_rfl, ?_⟩
 conv => whnf
 refine ⟨he19a, he19b, vAgain he19x ?_⟩
 conv => whnf
 refine vIfD h (fun h => ?_) (fun h => ?_)
 conv => whnf
 cases h
 obtain rfl := hR4 _ rfl
 exact hK
 conv => whnf
 cases h
 obtain rfl := hR4 _ rfl
 exact hK
 conv => whnf
 cases h
 obtain rfl := hR4 _ rfl
 exact hK
 conv => whnf
 cases h
 obtain rfl := hR4 _ rfl
 exact hK
 conv => whnf
 cases h
 obtain rfl := hR4 _ rfl
 exact hK
 conv => whnf
 cases h
 obtain rfl := hR4 _ rfl
 exact hK
 conv => whnf
 cases h
 exact hK
 conv => whnf
 cases h
 exact hK
 conv => whnf
 cases h
 exact hK
 conv => whnf
 cases h
 exact hK
theorem w_spec_IsLibrary (q0 : SoundC Tryz.prog 230 c_spec_IsCell) : SoundC Tryz.prog 191 c_spec_IsLibrary := by
 refine fn_sound tab_ok (gam_cons q0 gam_nil) mixed { loops := [(0, [.reg 3 (.dat (.int .i64))]), (2, [.reg 4 (.dat (.int .i64))])], draws := [(9, [0, 1, 0, 7, 15, 31, 0, 64, 0, 448, 960, 1984, 4095], .op 0 (.op 1 (.op 2 (.op 3 (.op 4 (.op 5 (.op 6 (.op 7 (.op 8 (.op 9 (.op 10 (.op 11 (.op 12 (.done))))))))))))))] } (fn := Tryz.f191) Tryz.func191 (by kernel_rfl) (by kernel_rfl) ?_
 rintro ⟨l0, ⟨⟩⟩ K ⟨r, h, hK⟩
 change spec_IsLibrary l0 = some r at h
 unfold spec_IsLibrary at h
 conv => whnf
 refine vLoop h ?_
 rintro I0 μ0 ⟨i0, ⟨⟩⟩ zs0 h hI0 hR0
 change spec_IsLibrary_loop1 l0 i0 = some zs0 at h
 unfold spec_IsLibrary_loop1 at h
 conv => whnf
 refine vIfD h (fun h => ?_) (fun h => ?_)
 conv => whnf
 refine vAt h (fun x0 he1a he1b he1x h => ?_)
 conv => whnf
 refine vBind h (fun IsCell0 hb2 h => ?_)
 conv => whnf
 refine vNots ?_
 refine vIfB h (fun h => ?_) (fun h => ?_)
 conv => whnf
 refine vLoop h ?_
 rintro I3 μ3 ⟨k0, ⟨⟩⟩ zs3 h hI3 hR3
 change spec_IsLibrary_loop0 l0 i0 x0 k0 = some zs3 at h
 unfold spec_IsLibrary_loop0 at h
 conv => whnf
 refine vIfD h (fun h => ?_) (fun h => ?_)
 conv => whnf
 refine ⟨by kernel_rfl, ?_⟩
 conv => whnf
 refine vAt h (fun x1 he4a he4b he4x h => ?_)
 conv => whnf
 refine ⟨he1a, he1b, vAgain he1x ?_⟩
 conv => whnf
 refine vIfD h (fun h => ?_) (fun h => ?_)
 conv => whnf
 cases h
 obtain rfl := hR3 _ rfl
 obtain rfl := hR0 _ rfl
 exact hK
 conv => whnf
 cases h
 exact ⟨⟨rfl, rfl⟩, hI3 _ rfl⟩
 conv => whnf
 cases h
 obtain rfl := hR3 _ rfl
 exact ⟨⟨rfl, rfl⟩, hI0 _ rfl⟩
 conv => whnf
 cases h
 obtain rfl := hR0 _ rfl
 exact hK
 conv => whnf
 cases h
 obtain rfl := hR0 _ rfl
 exact hK
theorem w_spec_l08State (q1 : SoundC Tryz.prog 93 c_spec_l05Places) (q3 : SoundC Tryz.prog 148 c_spec_l08Alike) (q2 : SoundC Tryz.prog 149 c_spec_l08Buffer) (q6 : SoundC Tryz.prog 150 c_spec_l03Name) (q0 : SoundC Tryz.prog 151 c_spec_InstanceNamed) (q4 : SoundC Tryz.prog 152 c_spec_NetNamed) (q7 : SoundC Tryz.prog 153 c_spec_l08Last) (q5 : SoundC Tryz.prog 147 c_spec_l05Sinks) (q8 : SoundC Tryz.prog 146 c_spec_IsWire) : SoundC Tryz.prog 92 c_spec_l08State := by
 refine fn_sound tab_ok (gam_cons q1 (gam_cons q3 (gam_cons q2 (gam_cons q6 (gam_cons q0 (gam_cons q4 (gam_cons q7 (gam_cons q5 (gam_cons q8 gam_nil))))))))) mixed { draws := [(5, [0, 1, 3, 7, 15, 31, 63, 127, 255, 511, 1023, 255, 2303, 6399, 255, 16639, 63743, 129279, 260351, 524287, 1048575, 255, 2097407, 6291711, 255, 16777471, 65011967, 132120831, 268435455, 536870911, 1073741823], .op 0 (.op 1 (.op 2 (.op 3 (.op 4 (.op 5 (.op 6 (.op 7 (.op 8 (.op 9 (.op 10 (.op 11 (.op 12 (.op 13 (.op 14 (.op 15 (.op 16 (.op 17 (.op 18 (.op 19 (.op 20 (.op 21 (.op 22 (.op 23 (.op 24 (.op 25 (.op 26 (.op 27 (.alt 28 (.op 29 (.op 30 (.done))) (.done)))))))))))))))))))))))))))))), (11, [0, 0, 2, 7, 15, 31, 63, 127, 255, 255, 767, 2047, 4095, 8191, 255, 16639, 65535, 131071, 262143], .op 0 (.op 1 (.op 2 (.op 3 (.op 4 (.op 5 (.op 6 (.op 7 (.op 8 (.op 9 (.op 10 (.op 11 (.op 12 (.op 13 (.op 14 (.op 15 (.op 16 (.op 17 (.op 18 (.done)))))))))))))))))))), (12, [0, 1, 0, 4, 0, 16, 60, 124, 255, 511], .op 0 (.op 1 (.op 2 (.op 3 (.op 4 (.op 5 (.alt 6 (.op 7 (.alt 8 (.op 9 (.done)) (.done))) (.done))))))))] } (fn := Tryz.f92) Tryz.func92 (by kernel_rfl) (by kernel_rfl) ?_
 rintro ⟨a0, a1, ⟨⟩⟩ K ⟨r, h, hK⟩
 change spec_l08State a0 a1 = some r at h
 unfold spec_l08State at h
 conv => whnf
 refine vBind h (fun l05Places0 hb0 h => ?_)
 conv => whnf
 refine vIfD h (fun h => ?_) (fun h => ?_)
 conv => whnf
 refine vAt h (fun x0 he1a he1b he1x h => ?_)
 conv => whnf
 refine ⟨by kernel_rfl, ?_⟩
 conv => whnf
 refine ⟨he1a, he1b, vAgain he1x ?_⟩
 conv => whnf
 refine ⟨by kernel_rfl, ?_⟩
 conv => whnf
 refine vIfD h (fun h => ?_) (fun h => ?_)
 conv => whnf
 refine vIfB h (fun h => ?_) (fun h => ?_)
 conv => whnf
 refine vAt h (fun x1 he2a he2b he2x h => ?_)
 conv => whnf
 refine vAt h (fun x2 he3a he3b he3x h => ?_)
 conv => whnf
 refine vAt h (fun x3 he4a he4b he4x h => ?_)
 conv => whnf
 refine vBind h (fun l08Alike0 hb5 h => ?_)
 conv => whnf
 cases h
 exact hK
 conv => whnf
 cases h
 exact hK
 conv => whnf
 cases h
 exact hK
 conv => whnf
 refine vIfD h (fun h => ?_) (fun h => ?_)
 conv => whnf
 refine vAt h (fun x0 he6a he6b he6x h => ?_)
 conv => whnf
 refine ⟨by kernel_rfl, ?_⟩
 conv => whnf
 refine ⟨he6a, he6b, vAgain he6x ?_⟩
 conv => whnf
 refine vNots ?_
 refine vIfB h (fun h => ?_) (fun h => ?_)
 conv => whnf
 cases h
 exact hK
 conv => whnf
 refine vAt h (fun x1 he7a he7b he7x h => ?_)
 conv => whnf
 refine vBind h (fun l08Buffer0 hb8 h => ?_)
 conv => whnf
 refine vIfB h (fun h => ?_) (fun h => ?_)
 conv => whnf
 refine vBind h (fun l03Name0 hb9 h => ?_)
 conv => whnf
 refine vIfB h (fun h => ?_) (fun h => ?_)
 conv => whnf
 refine vBind h (fun InstanceNamed0 hb10 h => ?_)
 conv => whnf
 refine vIfD h (fun h => ?_) (fun h => ?_)
 conv => whnf
 refine vBind h (fun NetNamed0 hb11 h => ?_)
 conv => whnf
 cases h
 exact hK
 conv => whnf
 cases h
 exact hK
 conv => whnf
 cases h
 exact hK
 conv => whnf
 cases h
 exact hK
 conv => whnf
 refine vIfD h (fun h => ?_) (fun h => ?_)
 conv => whnf
 refine vBind h (fun l08Last0 hb12 h => ?_)
 conv => whnf
 cases h
 exact hK
 conv => whnf
 refine vIfD h (fun h => ?_) (fun h => ?_)
 conv => whnf
 refine ⟨by kernel_rfl, ?_⟩
 conv => whnf
 refine vAt h (fun x0 he13a he13b he13x h => ?_)
 conv => whnf
 refine ⟨by kernel_rfl, ?_⟩
 conv => whnf
 refine ⟨he13a, he13b, vAgain he13x ?_⟩
 conv => whnf
 refine vNots ?_
 refine vIfB h (fun h => ?_) (fun h => ?_)
 conv => whnf
 cases h
 exact hK
 conv => whnf
 refine ⟨he13a, he13b, vAgain he13x ?_⟩
 conv => whnf
 refine ⟨by kernel_rfl, ?_⟩
 conv => whnf
 refine ⟨he13a, he13b, vAgain he13x ?_⟩
 conv => whnf
 cases h
 exact hK
 conv => whnf
 refine ⟨by kernel_rfl, ?_⟩
 conv => whnf
 refine vBind h (fun l05Sinks0 hb14 h => ?_)
 conv => whnf
 refine vBind h (fun IsWire0 hb15 h => ?_)
 conv => whnf
 cases h
 exact hK
end Go.Proofs.YtaccffcigblceaaGreatDoor
