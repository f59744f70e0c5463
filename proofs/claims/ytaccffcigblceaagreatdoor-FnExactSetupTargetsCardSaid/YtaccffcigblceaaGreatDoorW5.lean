/-
  The functions keep their contracts, if what they call does. Printed by program.
-/
import Derived.Test.YtaccffcigblceaaGreatDoorM
import Derived.KernelRfl
namespace Go.Proofs.YtaccffcigblceaaGreatDoor
open Go Go.Sx
set_option maxRecDepth 100000
set_option linter.unusedVariables false
set_option linter.unusedSimpArgs false
theorem w142 (q0 : SoundC Tryz.prog 166 c141) : SoundC Tryz.prog 116 c142 := by
 refine fn_sound tab_ok (gam_cons q0 gam_nil) mixed { loops := [(0, [.reg 7 (.own (.ol 200 (.flat (tLink)))), .reg 21 (.dat (.int .i64))]), (2, [.reg 7 (.own (.ol 200 (.flat (tLink)))), .reg 29 (.dat (.int .i64))])] } (fn := Tryz.f116) Tryz.func116 (by kernel_rfl) (by kernel_rfl) ?_
 rintro ⟨b0, x0, first0, ⟨⟩⟩ K ⟨r, h, hK⟩
 change impl_Block_cellLinks b0 x0 first0 = some r at h
 unfold impl_Block_cellLinks at h
 conv => whnf
 refine vAt h (fun x1 he0a he0b he0x h => ?_)
 conv => whnf
 refine vLoop h ?_
 rintro I1 μ1 ⟨list0, v0, ⟨⟩⟩ zs1 h hI1 hR1
 change impl_Block_cellLinks_loop1 first0 x1 list0 v0 = some zs1 at h
 unfold impl_Block_cellLinks_loop1 at h
 conv => whnf
 refine vIfD h (fun h => ?_) (fun h => ?_)
 conv => whnf
 refine vAt h (fun x2 he2a he2b he2x h => ?_)
 conv => whnf
 refine vBind h (fun transitions0 hb3 h => ?_)
 conv => whnf
 refine vLoop h ?_
 rintro I4 μ4 ⟨list1, v1, ⟨⟩⟩ zs4 h hI4 hR4
 change impl_Block_cellLinks_loop0 first0 v0 x2 transitions0 list1 v1 = some zs4 at h
 unfold impl_Block_cellLinks_loop0 at h
 conv => whnf
 refine vIfD h (fun h => ?_) (fun h => ?_)
 conv => whnf
 refine vAt h (fun x3 he5a he5b he5x h => ?_)
 conv => whnf
 refine ⟨by kernel_rfl, ?_⟩
 conv => whnf
 refine ⟨he5a, he5b, vAgain he5x ?_⟩
 conv => whnf
 refine vPre h (fun hp6 h => ?_)
 conv => whnf
 cases h
 exact ⟨⟨rfl, rfl⟩, hI4 _ rfl⟩
 conv => whnf
 cases h
 obtain rfl := hR4 _ rfl
 exact ⟨⟨rfl, rfl⟩, hI1 _ rfl⟩
 conv => whnf
 cases h
 obtain rfl := hR1 _ rfl
 exact hK
theorem w146 (q0 : SoundC Tryz.prog 167 c143) (q1 : SoundC Tryz.prog 102 c137) (q2 : SoundC Tryz.prog 168 c144) (q3 : SoundC Tryz.prog 169 c145) : SoundC Tryz.prog 118 c146 := by
 refine fn_sound tab_ok (gam_cons q0 (gam_cons q1 (gam_cons q2 (gam_cons q3 gam_nil)))) mixed { loops := [(0, [.reg 27 (.dat (.int .i64)), .ent 2 (nat_lit 2) (.flat (Ty.int IntKind.i64))]), (2, [.reg 10 (.dat (.int .i64)), .ent 2 (nat_lit 2) (.flat (Ty.int IntKind.i64))])], draws := [(7, [0, 0, 2, 0, 14, 30, 63, 127, 0, 256, 0, 1024, 0, 0, 12288, 28672, 65280, 131071, 262143, 524287], .op 0 (.op 1 (.op 2 (.op 3 (.op 4 (.op 5 (.op 6 (.op 7 (.op 8 (.op 9 (.op 10 (.op 11 (.op 12 (.op 13 (.op 14 (.op 15 (.alt 16 (.op 17 (.op 18 (.alt 19 (.done) (.done)))) (.done)))))))))))))))))), (12, [0, 0, 2, 0, 14, 30, 63, 127, 0, 0, 768, 1792, 4095, 8191, 16383], .op 0 (.op 1 (.op 2 (.op 3 (.op 4 (.op 5 (.op 6 (.op 7 (.op 8 (.op 9 (.op 10 (.op 11 (.op 12 (.op 13 (.alt 14 (.done) (.done))))))))))))))))] } (fn := Tryz.f118) Tryz.func118 (by kernel_rfl) (by kernel_rfl) ?_
 rintro ⟨a0, a1, ⟨⟩⟩ K ⟨r, h, hK⟩
 change impl_Block_nodeLoads a0 a1 = some r at h
 unfold impl_Block_nodeLoads at h
 conv => whnf
 refine vAt h (fun x0 he0a he0b he0x h => ?_)
 conv => whnf
 refine vBind h (fun int64_0 hb1 h => ?_)
 conv => whnf
 refine vBind h (fun places0 hb2 h => ?_)
 conv => whnf
 refine vBind h (fun sinks0 hb3 h => ?_)
 conv => whnf
 refine vLoop h ?_
 rintro I4 μ4 ⟨v0, l0, ⟨⟩⟩ zs4 h hI4 hR4
 change impl_Block_nodeLoads_loop1 a0 x0 places0 sinks0 v0 l0 = some zs4 at h
 unfold impl_Block_nodeLoads_loop1 at h
 conv => whnf
 refine vIfD h (fun h => ?_) (fun h => ?_)
 conv => whnf
 refine vAt h (fun x1 he5a he5b he5x h => ?_)
 conv => whnf
 refine ⟨by kernel_rfl, ?_⟩
 conv => whnf
 refine ⟨he5a, he5b, vAgain he5x ?_⟩
 conv => whnf
 refine ⟨by kernel_rfl, ?_⟩
 conv => whnf
 refine vAt h (fun x2 he6a he6b he6x h => ?_)
 conv => whnf
 refine vAt h (fun x3 he7a he7b he7x h => ?_)
 conv => whnf
 refine ⟨by kernel_rfl, ?_⟩
 conv => whnf
 refine ⟨he7a, he7b, vAgain he7x ?_⟩
 conv => whnf
 refine vAt h (fun x4 he8a he8b he8x h => ?_)
 conv => whnf
 refine ⟨by kernel_rfl, ?_⟩
 conv => whnf
 refine ⟨he8a, he8b, vAgain he8x ?_⟩
 conv => whnf
 refine vBind h (fun capOf0 hb9 h => ?_)
 conv => whnf
 refine ⟨he7a, he7b, vAgain he7x ?_⟩
 conv => whnf
 refine ⟨by kernel_rfl, ?_⟩
 conv => whnf
 refine ⟨by decide, ?_⟩
 conv => whnf
 refine ⟨he7a, he7b, vAgain he7x ?_⟩
 conv => whnf
 cases h
 exact ⟨⟨rfl, rfl⟩, hI4 _ rfl⟩
 conv => whnf
 refine vLoop h ?_
 rintro I10 μ10 ⟨v1, l1, ⟨⟩⟩ zs10 h hI10 hR10
 change impl_Block_nodeLoads_loop0 x0 v1 l1 = some zs10 at h
 unfold impl_Block_nodeLoads_loop0 at h
 conv => whnf
 refine vIfD h (fun h => ?_) (fun h => ?_)
 conv => whnf
 refine ⟨by kernel_rfl, ?_⟩
 conv => whnf
 refine vAt h (fun x1 he11a he11b he11x h => ?_)
 conv => whnf
 refine vAt h (fun x2 he12a he12b he12x h => ?_)
 conv => whnf
 refine ⟨by kernel_rfl, ?_⟩
 conv => whnf
 refine ⟨he12a, he12b, vAgain he12x ?_⟩
 conv => whnf
 refine vAt h (fun x3 he13a he13b he13x h => ?_)
 conv => whnf
 refine ⟨by kernel_rfl, ?_⟩
 conv => whnf
 refine ⟨he13a, he13b, vAgain he13x ?_⟩
 conv => whnf
 refine ⟨he12a, he12b, vAgain he12x ?_⟩
 conv => whnf
 refine ⟨by kernel_rfl, ?_⟩
 conv => whnf
 refine ⟨by decide, ?_⟩
 conv => whnf
 refine ⟨he12a, he12b, vAgain he12x ?_⟩
 conv => whnf
 cases h
 exact ⟨⟨rfl, rfl⟩, hI10 _ rfl⟩
 conv => whnf
 cases h
 obtain rfl := hR10 _ rfl
 obtain rfl := hR4 _ rfl
 exact hK
theorem w108 : SoundC Tryz.prog 302 c108 := by
 refine fn_sound tab_ok gam_nil mixed {} (fn := Tryz.f302) Tryz.func302 (by kernel_rfl) (by kernel_rfl) ?_
 rintro ⟨p0, ⟨⟩⟩ K ⟨r, h, hK⟩
 change impl_Cell_clock_c1 p0 = some r at h
 unfold impl_Cell_clock_c1 at h
 conv => whnf
 cases h
 exact hK
theorem w129 (q0 : SoundC Tryz.prog 201 c128) : SoundC Tryz.prog 235 c129 := by
 refine fn_sound tab_ok (gam_cons q0 gam_nil) mixed {} (fn := Tryz.f235) Tryz.func235 (by kernel_rfl) (by kernel_rfl) ?_
 rintro ⟨net0, a0, ⟨⟩⟩ K ⟨r, h, hK⟩
 change impl_Design_isInstance_c1 net0 a0 = some r at h
 unfold impl_Design_isInstance_c1 at h
 conv => whnf
 refine vBind h (fun isNet0 hb0 h => ?_)
 conv => whnf
 cases h
 exact hK
theorem w124 (q1 : SoundC Tryz.prog 233 c123) (q0 : SoundC Tryz.prog 221 c92) : SoundC Tryz.prog 198 c124 := by
 refine fn_sound tab_ok (gam_cons q1 (gam_cons q0 gam_nil)) mixed { loops := [(0, [.reg 3 (.own (.ol 9 (.flat (.str)))), .reg 9 (.dat (.int .i64))])] } (fn := Tryz.f198) Tryz.func198 (by kernel_rfl) (by kernel_rfl) ?_
 rintro ⟨l0, ⟨⟩⟩ K ⟨r, h, hK⟩
 change impl_IsLibrary l0 = some r at h
 unfold impl_IsLibrary at h
 conv => whnf
 refine vLoop h ?_
 rintro I0 μ0 ⟨names0, v0, ⟨⟩⟩ zs0 h hI0 hR0
 change impl_IsLibrary_loop0 l0 names0 v0 = some zs0 at h
 unfold impl_IsLibrary_loop0 at h
 conv => whnf
 refine vIfD h (fun h => ?_) (fun h => ?_)
 conv => whnf
 refine vAt h (fun x0 he1a he1b he1x h => ?_)
 conv => whnf
 refine vBind h (fun IsCell0 hb2 h => ?_)
 conv => whnf
 refine vNots ?_
 refine vIfB h (fun h => ?_) (fun h => ?_)
 conv => whnf
 refine vPre h (fun hp3 h => ?_)
 conv => whnf
 cases h
 exact ⟨⟨rfl, rfl⟩, hI0 _ rfl⟩
 conv => whnf
 cases h
 obtain rfl := hR0 _ rfl
 exact hK
 conv => whnf
 refine vIfD h (fun h => ?_) (fun h => ?_)
 conv => whnf
 refine vBind h (fun areNames0 hb4 h => ?_)
 conv => whnf
 cases h
 obtain rfl := hR0 _ rfl
 exact hK
 conv => whnf
 cases h
 obtain rfl := hR0 _ rfl
 exact hK
theorem w175 (q1 : SoundC Tryz.prog 99 c140) (q2 : SoundC Tryz.prog 58 c149) (q0 : SoundC Tryz.prog 135 c174) : SoundC Tryz.prog 73 c175 := by
 refine fn_sound tab_ok (gam_cons q1 (gam_cons q2 (gam_cons q0 gam_nil))) mixed { draws := [(1, [0, 1, 3, 7, 15, 7, 63, 127, 255], .op 0 (.alt 1 (.op 2 (.op 3 (.op 5 (.alt 4 (.alt 6 (.op 7 (.op 8 (.done))) (.done)) (.done))))) (.done)))] } (fn := Tryz.f73) Tryz.func73 (by kernel_rfl) (by kernel_rfl) ?_
 rintro ⟨b0, s0, ⟨⟩⟩ K ⟨r, h, hK⟩
 change impl_IsSetup b0 s0 = some r at h
 unfold impl_IsSetup at h
 conv => whnf
 refine ⟨by kernel_rfl, ?_⟩
 conv => whnf
 refine vBind h (fun IsBlock0 hb0 h => ?_)
 conv => whnf
 refine vIfB h (fun h => ?_) (fun h => ?_)
 conv => whnf
 refine vBind h (fun newView0 hb1 h => ?_)
 conv => whnf
 refine vBind h (fun isSetup0 hb2 h => ?_)
 conv => whnf
 cases h
 exact hK
 conv => whnf
 cases h
 exact hK
theorem w138 (q0 : SoundC Tryz.prog 171 c87) : SoundC Tryz.prog 204 c138 := by
 refine fn_sound tab_ok (gam_cons q0 gam_nil) mixed { loops := [(0, [.reg 8 (.dat (.int .i64))])] } (fn := Tryz.f204) Tryz.func204 (by kernel_rfl) (by kernel_rfl) ?_
 rintro ⟨w0, ⟨⟩⟩ K ⟨r, h, hK⟩
 change impl_Wire_isTree w0 = some r at h
 unfold impl_Wire_isTree at h
 conv => whnf
 refine vLoop h ?_
 rintro I0 μ0 ⟨v0, ⟨⟩⟩ zs0 h hI0 hR0
 change impl_Wire_isTree_loop0 w0 v0 = some zs0 at h
 unfold impl_Wire_isTree_loop0 at h
 conv => whnf
 refine vIfD h (fun h => ?_) (fun h => ?_)
 conv => whnf
 refine vAt h (fun x0 he1a he1b he1x h => ?_)
 conv => whnf
 refine vIfD h (fun h => ?_) (fun h => ?_)
 conv => whnf
 refine vNot ?_
 refine vIfD h (fun h => ?_) (fun h => ?_)
 conv => whnf
 refine vAt h (fun x1 he2a he2b he2x h => ?_)
 conv => whnf
 refine vNot ?_
 refine vIfD h (fun h => ?_) (fun h => ?_)
 conv => whnf
 refine vIfD h (fun h => ?_) (fun h => ?_)
 conv => whnf
 refine vBind h (fun within0 hb3 h => ?_)
 conv => whnf
 refine vNots ?_
 refine vIfB h (fun h => ?_) (fun h => ?_)
 conv => whnf
 cases h
 exact ⟨⟨rfl, rfl⟩, hI0 _ rfl⟩
 conv => whnf
 cases h
 obtain rfl := hR0 _ rfl
 exact hK
 conv => whnf
 cases h
 exact ⟨⟨rfl, rfl⟩, hI0 _ rfl⟩
 conv => whnf
 cases h
 obtain rfl := hR0 _ rfl
 exact hK
 conv => whnf
 cases h
 obtain rfl := hR0 _ rfl
 exact hK
 conv => whnf
 refine vIfD h (fun h => ?_) (fun h => ?_)
 conv => whnf
 refine vBind h (fun within0 hb4 h => ?_)
 conv => whnf
 refine vNots ?_
 refine vIfB h (fun h => ?_) (fun h => ?_)
 conv => whnf
 cases h
 exact ⟨⟨rfl, rfl⟩, hI0 _ rfl⟩
 conv => whnf
 cases h
 obtain rfl := hR0 _ rfl
 exact hK
 conv => whnf
 cases h
 exact ⟨⟨rfl, rfl⟩, hI0 _ rfl⟩
 conv => whnf
 cases h
 obtain rfl := hR0 _ rfl
 exact hK
theorem w107 (q0 : SoundC Tryz.prog 297 c106) : SoundC Tryz.prog 288 c107 := by
 refine fn_sound tab_ok (gam_cons q0 gam_nil) mixed {} (fn := Tryz.f288) Tryz.func288 (by kernel_rfl) (by kernel_rfl) ?_
 rintro ⟨list0, positive0, ⟨⟩⟩ K ⟨r, h, hK⟩
 change impl_areTables list0 positive0 = some r at h
 unfold impl_areTables at h
 conv => whnf
 refine vIfD h (fun h => ?_) (fun h => ?_)
 conv => whnf
 refine vBind h (fun c1_0 hb0 h => ?_)
 conv => whnf
 cases h
 exact hK
 conv => whnf
 cases h
 exact hK
theorem w104 (q1 : SoundC Tryz.prog 299 c102) (q0 : SoundC Tryz.prog 300 c103) : SoundC Tryz.prog 298 c104 := by
 refine fn_sound tab_ok (gam_cons q1 (gam_cons q0 gam_nil)) mixed {} (fn := Tryz.f298) Tryz.func298 (by kernel_rfl) (by kernel_rfl) ?_
 rintro ⟨t0, a0, ⟨⟩⟩ K ⟨r, h, hK⟩
 change impl_areTables_c1 t0 a0 = some r at h
 unfold impl_areTables_c1 at h
 conv => whnf
 refine vBind h (fun IsTable0 hb0 h => ?_)
 conv => whnf
 refine vNot ?_
 refine vIfB h (fun h => ?_) (fun h => ?_)
 conv => whnf
 refine vIfB h (fun h => ?_) (fun h => ?_)
 conv => whnf
 refine vBind h (fun int64_0 hb1 h => ?_)
 conv => whnf
 cases h
 exact hK
 conv => whnf
 cases h
 exact hK
 conv => whnf
 cases h
 exact hK
theorem w99 (q0 : SoundC Tryz.prog 234 c98) : SoundC Tryz.prog 205 c99 := by
 refine fn_sound tab_ok (gam_cons q0 gam_nil) mixed {} (fn := Tryz.f205) Tryz.func205 (by kernel_rfl) (by kernel_rfl) ?_
 rintro ⟨list0, low0, high0, ⟨⟩⟩ K ⟨r, h, hK⟩
 change impl_areWithin list0 low0 high0 = some r at h
 unfold impl_areWithin at h
 conv => whnf
 refine vBind h (fun c1_0 hb0 h => ?_)
 conv => whnf
 cases h
 exact hK
theorem w165 (q0 : SoundC Tryz.prog 171 c87) : SoundC Tryz.prog 224 c165 := by
 refine fn_sound tab_ok (gam_cons q0 gam_nil) mixed {} (fn := Tryz.f224) Tryz.func224 (by kernel_rfl) (by kernel_rfl) ?_
 rintro ⟨kind0, value0, ⟨⟩⟩ K ⟨r, h, hK⟩
 change impl_isValue kind0 value0 = some r at h
 unfold impl_isValue at h
 conv => whnf
 refine vIfD h (fun h => ?_) (fun h => ?_)
 conv => whnf
 cases h
 exact hK
 conv => whnf
 refine vIfD h (fun h => ?_) (fun h => ?_)
 conv => whnf
 refine vBind h (fun within0 hb0 h => ?_)
 conv => whnf
 cases h
 exact hK
 conv => whnf
 refine vIfD h (fun h => ?_) (fun h => ?_)
 conv => whnf
 refine vIfD h (fun h => ?_) (fun h => ?_)
 conv => whnf
 refine vBind h (fun within0 hb1 h => ?_)
 conv => whnf
 cases h
 exact hK
 conv => whnf
 cases h
 exact hK
 conv => whnf
 refine vIfD h (fun h => ?_) (fun h => ?_)
 conv => whnf
 refine vBind h (fun within0 hb2 h => ?_)
 conv => whnf
 cases h
 exact hK
 conv => whnf
 cases h
 exact hK
theorem w172 : SoundC Tryz.prog 227 c172 := by
 refine fn_sound tab_ok gam_nil mixed {} (fn := Tryz.f227) Tryz.func227 (by kernel_rfl) (by kernel_rfl) ?_
 rintro ⟨list0, ⟨⟩⟩ K ⟨r, h, hK⟩
 change impl_length_impl_Corner list0 = some r at h
 unfold impl_length_impl_Corner at h
 conv => whnf
 cases h
 exact hK
theorem w155 : SoundC Tryz.prog 208 c155 := by
 refine fn_sound tab_ok gam_nil mixed {} (fn := Tryz.f208) Tryz.func208 (by kernel_rfl) (by kernel_rfl) ?_
 rintro ⟨list0, ⟨⟩⟩ K ⟨r, h, hK⟩
 change impl_length_impl_place list0 = some r at h
 unfold impl_length_impl_place at h
 conv => whnf
 cases h
 exact hK
theorem w157 (q0 : SoundC Tryz.prog 183 c156) : SoundC Tryz.prog 182 c157 := by
 refine fn_sound tab_ok (gam_cons q0 gam_nil) mixed {} (fn := Tryz.f182) Tryz.func182 (by kernel_rfl) (by kernel_rfl) ?_
 rintro ⟨c0, a0, ⟨⟩⟩ K ⟨r, h, hK⟩
 change impl_view_isSetup_c1 c0 a0 = some r at h
 unfold impl_view_isSetup_c1 at h
 conv => whnf
 refine vBind h (fun isPlace0 hb0 h => ?_)
 conv => whnf
 cases h
 exact hK
theorem w_laws_FnExactSetupTargets (q7 : SoundC Tryz.prog 6 c18) (q8 : SoundC Tryz.prog 26 c26) (q9 : SoundC Tryz.prog 9 c45) (q10 : SoundC Tryz.prog 28 c55) (q0 : SoundC Tryz.prog 27 c86) (q1 : SoundC Tryz.prog 29 c177) (q4 : SoundC Tryz.prog 30 c180) (q11 : SoundC Tryz.prog 13 c199) (q12 : SoundC Tryz.prog 31 c208) (q5 : SoundC Tryz.prog 15 c221) (q6 : SoundC Tryz.prog 32 c226) (q2 : SoundC Tryz.prog 33 c227) (q3 : SoundC Tryz.prog 34 c228) : SoundC Tryz.prog 5 c_laws_FnExactSetupTargets := by
 refine fn_sound tab_ok (gam_cons q7 (gam_cons q8 (gam_cons q9 (gam_cons q10 (gam_cons q0 (gam_cons q1 (gam_cons q4 (gam_cons q11 (gam_cons q12 (gam_cons q5 (gam_cons q6 (gam_cons q2 (gam_cons q3 gam_nil))))))))))))) mixed { draws := [(8, [0, 1, 0, 7, 15, 31, 63, 63, 127, 511], .op 0 (.op 2 (.alt 1 (.alt 3 (.alt 4 (.op 5 (.op 6 (.op 7 (.op 8 (.op 9 (.done)))))) (.done)) (.done)) (.done)))), (14, [0, 0, 2, 7, 15], .op 0 (.op 1 (.alt 2 (.alt 3 (.op 4 (.done)) (.done)) (.done)))), (16, [0, 0, 2, 7, 15], .op 0 (.op 1 (.alt 2 (.alt 3 (.op 4 (.done)) (.done)) (.done)))), (31, [0, 1, 0, 7, 15, 31, 63, 63, 127, 511], .op 0 (.op 2 (.alt 1 (.alt 3 (.alt 4 (.op 5 (.op 6 (.op 7 (.op 8 (.op 9 (.done)))))) (.done)) (.done)) (.done))))] } (fn := Tryz.f5) Tryz.func5 (by kernel_rfl) (by kernel_rfl) ?_
 rintro ⟨a0, a1, ⟨⟩⟩ K ⟨r, h, hK⟩
 change laws_FnExactSetupTargets a0 a1 = some r at h
 unfold laws_FnExactSetupTargets at h
 conv => whnf
 refine vBind h (fun szBlock0 hb0 h => ?_)
 conv => whnf
 refine vIfD h (fun h => ?_) (fun h => ?_)
 conv => whnf
 cases h
 exact hK
 conv => whnf
 refine vBind h (fun szSetup0 hb1 h => ?_)
 conv => whnf
 refine vIfD h (fun h => ?_) (fun h => ?_)
 conv => whnf
 cases h
 exact hK
 conv => whnf
 refine ⟨by kernel_rfl, ?_⟩
 conv => whnf
 refine vBind h (fun toBlock0 hb2 h => ?_)
 conv => whnf
 intro fp3
 conv => whnf
 intro fp4
 conv => whnf
 intro fp5
 conv => whnf
 refine vBind h (fun toSetup0 hb6 h => ?_)
 conv => whnf
 intro fp7
 conv => whnf
 refine vBind h (fun SetupTargets0 hb8 h => ?_)
 conv => whnf
 refine ⟨_, hb2, ?_⟩
 conv => whnf
 intro fp9
 conv => whnf
 intro fp10
 conv => whnf
 intro fp11
 conv => whnf
 refine ⟨_, hb6, ?_⟩
 conv => whnf
 intro fp12
 conv => whnf
 refine vBind h (fun SetupTargets1 hb13 h => ?_)
 conv => whnf
 refine vBind h (fun eqTargetS0 hb14 h => ?_)
 conv => whnf
 refine vNot ?_
 refine vIfB h (fun h => ?_) (fun h => ?_)
 conv => whnf
 refine vNots ?_
 refine vIfD h (fun h => ?_) (fun h => ?_)
 conv => whnf
 refine ⟨by kernel_rfl, ?_⟩
 conv => whnf
 refine ⟨_, hb2, ?_⟩
 conv => whnf
 intro fp15
 conv => whnf
 intro fp16
 conv => whnf
 intro fp17
 conv => whnf
 refine vBind h (fun eqBlock0 hb18 h => ?_)
 conv => whnf
 refine vNots ?_
 refine vIfB h (fun h => ?_) (fun h => ?_)
 conv => whnf
 refine ⟨by kernel_rfl, ?_⟩
 conv => whnf
 refine ⟨_, hb6, ?_⟩
 conv => whnf
 intro fp19
 conv => whnf
 refine vBind h (fun eqSetup0 hb20 h => ?_)
 conv => whnf
 refine vNots ?_
 refine vIfB h (fun h => ?_) (fun h => ?_)
 conv => whnf
 refine vBind h (fun markBlock0 hb21 h => ?_)
 conv => whnf
 intro fp22
 conv => whnf
 intro fp23
 conv => whnf
 intro fp24
 conv => whnf
 refine vBind h (fun markSetup0 hb25 h => ?_)
 conv => whnf
 intro fp26
 conv => whnf
 refine vIfDs h (fun h => ?_) (fun h => ?_)
 conv => whnf
 cases h
 exact hK
 conv => whnf
 refine ⟨_, hb14, ?_⟩
 conv => whnf
 refine vNot ?_
 refine vIfB h (fun h => ?_) (fun h => ?_)
 conv => whnf
 refine vNots ?_
 refine vIfD h (fun h => ?_) (fun h => ?_)
 conv => whnf
 refine vBind h (fun markTargetS0 hb27 h => ?_)
 conv => whnf
 refine vBind h (fun heldTargetS0 hb28 h => ?_)
 conv => whnf
 refine vIfD h (fun h => ?_) (fun h => ?_)
 conv => whnf
 cases h
 exact hK
 conv => whnf
 refine vNots ?_
 refine vIfD h (fun h => ?_) (fun h => ?_)
 conv => whnf
 refine ⟨by kernel_rfl, ?_⟩
 conv => whnf
 refine ⟨_, hb2, ?_⟩
 conv => whnf
 intro fp29
 conv => whnf
 intro fp30
 conv => whnf
 intro fp31
 conv => whnf
 refine ⟨_, hb6, ?_⟩
 conv => whnf
 intro fp32
 conv => whnf
 refine ⟨_, hb13, ?_⟩
 conv => whnf
 refine ⟨_, hb14, ?_⟩
 conv => whnf
 refine vNot ?_
 refine vIfB h (fun h => ?_) (fun h => ?_)
 conv => whnf
 refine vNots ?_
 refine vIfD h (fun h => ?_) (fun h => ?_)
 conv => whnf
 refine ⟨_, hb28, ?_⟩
 conv => whnf
 refine vIfD h (fun h => ?_) (fun h => ?_)
 conv => whnf
 cases h
 exact hK
 conv => whnf
 refine vNots ?_
 refine vIfD h (fun h => ?_) (fun h => ?_)
 conv => whnf
 cases h
 exact hK
 conv => whnf
 cases h
 exact hK
 conv => whnf
 cases h
 exact hK
 conv => whnf
 cases h
 exact hK
 conv => whnf
 cases h
 exact hK
 conv => whnf
 cases h
 exact hK
 conv => whnf
 cases h
 exact hK
 conv => whnf
 cases h
 exact hK
 conv => whnf
 cases h
 exact hK
 conv => whnf
 cases h
 exact hK
 conv => whnf
 cases h
 exact hK
theorem w199 (q0 : SoundC Tryz.prog 47 c190) (q1 : SoundC Tryz.prog 48 c196) (q2 : SoundC Tryz.prog 49 c198) : SoundC Tryz.prog 13 c199 := by
 refine fn_sound tab_ok (gam_cons q0 (gam_cons q1 (gam_cons q2 gam_nil))) mixed {} (fn := Tryz.f13) Tryz.func13 (by kernel_rfl) (by kernel_rfl) ?_
 rintro ⟨a0, b0, ⟨⟩⟩ K ⟨r, h, hK⟩
 change laws_eqBlock a0 b0 = some r at h
 unfold laws_eqBlock at h
 conv => whnf
 refine vBind h (fun eqLibrary0 hb0 h => ?_)
 conv => whnf
 refine vNots ?_
 refine vIfB h (fun h => ?_) (fun h => ?_)
 conv => whnf
 refine vBind h (fun eqDesign0 hb1 h => ?_)
 conv => whnf
 refine vNots ?_
 refine vIfB h (fun h => ?_) (fun h => ?_)
 conv => whnf
 refine vBind h (fun eqWireS0 hb2 h => ?_)
 conv => whnf
 refine vNots ?_
 refine vIfB h (fun h => ?_) (fun h => ?_)
 conv => whnf
 cases h
 exact hK
 conv => whnf
 cases h
 exact hK
 conv => whnf
 cases h
 exact hK
 conv => whnf
 cases h
 exact hK
theorem w196 (q0 : SoundC Tryz.prog 104 c192) (q1 : SoundC Tryz.prog 105 c193) (q2 : SoundC Tryz.prog 106 c195) : SoundC Tryz.prog 48 c196 := by
 refine fn_sound tab_ok (gam_cons q0 (gam_cons q1 (gam_cons q2 gam_nil))) mixed {} (fn := Tryz.f48) Tryz.func48 (by kernel_rfl) (by kernel_rfl) ?_
 rintro ⟨a0, b0, ⟨⟩⟩ K ⟨r, h, hK⟩
 change laws_eqDesign a0 b0 = some r at h
 unfold laws_eqDesign at h
 conv => whnf
 refine vBind h (fun eqInstanceS0 hb0 h => ?_)
 conv => whnf
 refine vNots ?_
 refine vIfB h (fun h => ?_) (fun h => ?_)
 conv => whnf
 refine vBind h (fun eqStringS0 hb1 h => ?_)
 conv => whnf
 refine vNots ?_
 refine vIfB h (fun h => ?_) (fun h => ?_)
 conv => whnf
 refine vBind h (fun eqPortS0 hb2 h => ?_)
 conv => whnf
 refine vNots ?_
 refine vIfB h (fun h => ?_) (fun h => ?_)
 conv => whnf
 cases h
 exact hK
 conv => whnf
 cases h
 exact hK
 conv => whnf
 cases h
 exact hK
 conv => whnf
 cases h
 exact hK
theorem w205 (q0 : SoundC Tryz.prog 139 c204) : SoundC Tryz.prog 78 c205 := by
 refine fn_sound tab_ok (gam_cons q0 gam_nil) mixed { loops := [(0, [.reg 5 (.dat (.int .i64))])], draws := [(6, [0, 0, 3, 7, 0, 0, 48, 112, 255, 511], .op 0 (.op 1 (.op 2 (.op 3 (.op 4 (.op 5 (.op 6 (.op 7 (.alt 8 (.op 9 (.done)) (.done))))))))))] } (fn := Tryz.f78) Tryz.func78 (by kernel_rfl) (by kernel_rfl) ?_
 rintro ⟨a0, b0, ⟨⟩⟩ K ⟨r, h, hK⟩
 change laws_eqExceptionS a0 b0 = some r at h
 unfold laws_eqExceptionS at h
 conv => whnf
 refine vNots ?_
 refine vIfD h (fun h => ?_) (fun h => ?_)
 conv => whnf
 refine vLoop h ?_
 rintro I0 μ0 ⟨i0, ⟨⟩⟩ zs0 h hI0 hR0
 change laws_eqExceptionS_loop0 a0 b0 i0 = some zs0 at h
 unfold laws_eqExceptionS_loop0 at h
 conv => whnf
 refine vIfD h (fun h => ?_) (fun h => ?_)
 conv => whnf
 refine ⟨by kernel_rfl, ?_⟩
 conv => whnf
 refine vAt h (fun x0 he1a he1b he1x h => ?_)
 conv => whnf
 refine vAt h (fun x1 he2a he2b he2x h => ?_)
 conv => whnf
 refine vBind h (fun eqException0 hb3 h => ?_)
 conv => whnf
 refine vNots ?_
 refine vIfB h (fun h => ?_) (fun h => ?_)
 conv => whnf
 cases h
 exact ⟨⟨rfl, rfl⟩, hI0 _ rfl⟩
 conv => whnf
 cases h
 obtain rfl := hR0 _ rfl
 exact hK
 conv => whnf
 cases h
 obtain rfl := hR0 _ rfl
 exact hK
 conv => whnf
 cases h
 exact hK
theorem w182 (q0 : SoundC Tryz.prog 247 c181) : SoundC Tryz.prog 216 c182 := by
 refine fn_sound tab_ok (gam_cons q0 gam_nil) mixed { loops := [(0, [.reg 5 (.dat (.int .i64))])], draws := [(6, [0, 0, 3, 7, 0, 0, 48, 112, 255, 511], .op 0 (.op 1 (.op 2 (.op 3 (.op 4 (.op 5 (.op 6 (.op 7 (.alt 8 (.op 9 (.done)) (.done))))))))))] } (fn := Tryz.f216) Tryz.func216 (by kernel_rfl) (by kernel_rfl) ?_
 rintro ⟨a0, b0, ⟨⟩⟩ K ⟨r, h, hK⟩
 change laws_eqPinS a0 b0 = some r at h
 unfold laws_eqPinS at h
 conv => whnf
 refine vNots ?_
 refine vIfD h (fun h => ?_) (fun h => ?_)
 conv => whnf
 refine vLoop h ?_
 rintro I0 μ0 ⟨i0, ⟨⟩⟩ zs0 h hI0 hR0
 change laws_eqPinS_loop0 a0 b0 i0 = some zs0 at h
 unfold laws_eqPinS_loop0 at h
 conv => whnf
 refine vIfD h (fun h => ?_) (fun h => ?_)
 conv => whnf
 refine ⟨by kernel_rfl, ?_⟩
 conv => whnf
 refine vAt h (fun x0 he1a he1b he1x h => ?_)
 conv => whnf
 refine vAt h (fun x1 he2a he2b he2x h => ?_)
 conv => whnf
 refine vBind h (fun eqPin0 hb3 h => ?_)
 conv => whnf
 refine vNots ?_
 refine vIfB h (fun h => ?_) (fun h => ?_)
 conv => whnf
 cases h
 exact ⟨⟨rfl, rfl⟩, hI0 _ rfl⟩
 conv => whnf
 cases h
 obtain rfl := hR0 _ rfl
 exact hK
 conv => whnf
 cases h
 obtain rfl := hR0 _ rfl
 exact hK
 conv => whnf
 cases h
 exact hK
theorem w178 : SoundC Tryz.prog 123 c178 := by
 refine fn_sound tab_ok gam_nil mixed {} (fn := Tryz.f123) Tryz.func123 (by kernel_rfl) (by kernel_rfl) ?_
 rintro ⟨a0, b0, ⟨⟩⟩ K ⟨r, h, hK⟩
 change laws_eqSpan a0 b0 = some r at h
 unfold laws_eqSpan at h
 conv => whnf
 refine vNots ?_
 refine vIfD h (fun h => ?_) (fun h => ?_)
 conv => whnf
 refine vNots ?_
 refine vIfD h (fun h => ?_) (fun h => ?_)
 conv => whnf
 cases h
 exact hK
 conv => whnf
 cases h
 exact hK
 conv => whnf
 cases h
 exact hK
theorem w193 : SoundC Tryz.prog 105 c193 := by
 refine fn_sound tab_ok gam_nil mixed { loops := [(0, [.reg 5 (.dat (.int .i64))])], draws := [(6, [0, 0, 3, 7, 0, 0, 48, 112, 255], .op 0 (.op 1 (.op 2 (.op 3 (.op 4 (.op 5 (.op 6 (.op 7 (.op 8 (.done))))))))))] } (fn := Tryz.f105) Tryz.func105 (by kernel_rfl) (by kernel_rfl) ?_
 rintro ⟨a0, b0, ⟨⟩⟩ K ⟨r, h, hK⟩
 change laws_eqStringS a0 b0 = some r at h
 unfold laws_eqStringS at h
 conv => whnf
 refine vNots ?_
 refine vIfD h (fun h => ?_) (fun h => ?_)
 conv => whnf
 refine vLoop h ?_
 rintro I0 μ0 ⟨i0, ⟨⟩⟩ zs0 h hI0 hR0
 change laws_eqStringS_loop0 a0 b0 i0 = some zs0 at h
 unfold laws_eqStringS_loop0 at h
 conv => whnf
 refine vIfD h (fun h => ?_) (fun h => ?_)
 conv => whnf
 refine ⟨by kernel_rfl, ?_⟩
 conv => whnf
 refine vAt h (fun x0 he1a he1b he1x h => ?_)
 conv => whnf
 refine vAt h (fun x1 he2a he2b he2x h => ?_)
 conv => whnf
 refine vNots ?_
 refine vIfD h (fun h => ?_) (fun h => ?_)
 conv => whnf
 cases h
 exact ⟨⟨rfl, rfl⟩, hI0 _ rfl⟩
 conv => whnf
 cases h
 obtain rfl := hR0 _ rfl
 exact hK
 conv => whnf
 cases h
 obtain rfl := hR0 _ rfl
 exact hK
 conv => whnf
 cases h
 exact hK
theorem w185 (q0 : SoundC Tryz.prog 285 c184) : SoundC Tryz.prog 270 c185 := by
 refine fn_sound tab_ok (gam_cons q0 gam_nil) mixed { loops := [(0, [.reg 5 (.dat (.int .i64))])], draws := [(6, [0, 0, 3, 7, 0, 0, 48, 112, 255, 511], .op 0 (.op 1 (.op 2 (.op 3 (.op 4 (.op 5 (.op 6 (.op 7 (.alt 8 (.op 9 (.done)) (.done))))))))))] } (fn := Tryz.f270) Tryz.func270 (by kernel_rfl) (by kernel_rfl) ?_
 rintro ⟨a0, b0, ⟨⟩⟩ K ⟨r, h, hK⟩
 change laws_eqTableS a0 b0 = some r at h
 unfold laws_eqTableS at h
 conv => whnf
 refine vNots ?_
 refine vIfD h (fun h => ?_) (fun h => ?_)
 conv => whnf
 refine vLoop h ?_
 rintro I0 μ0 ⟨i0, ⟨⟩⟩ zs0 h hI0 hR0
 change laws_eqTableS_loop0 a0 b0 i0 = some zs0 at h
 unfold laws_eqTableS_loop0 at h
 conv => whnf
 refine vIfD h (fun h => ?_) (fun h => ?_)
 conv => whnf
 refine ⟨by kernel_rfl, ?_⟩
 conv => whnf
 refine vAt h (fun x0 he1a he1b he1x h => ?_)
 conv => whnf
 refine vAt h (fun x1 he2a he2b he2x h => ?_)
 conv => whnf
 refine vBind h (fun eqTable0 hb3 h => ?_)
 conv => whnf
 refine vNots ?_
 refine vIfB h (fun h => ?_) (fun h => ?_)
 conv => whnf
 cases h
 exact ⟨⟨rfl, rfl⟩, hI0 _ rfl⟩
 conv => whnf
 cases h
 obtain rfl := hR0 _ rfl
 exact hK
 conv => whnf
 cases h
 obtain rfl := hR0 _ rfl
 exact hK
 conv => whnf
 cases h
 exact hK
theorem w222 (q0 : SoundC Tryz.prog 141 c209) : SoundC Tryz.prog 80 c222 := by
 refine fn_sound tabD_ok (gam_cons q0 gam_nil) mixed { loops := [(0, [.reg 1 (.dat (.int .i64)), .reg 5 (.dat (.int .i64)), .ent 0 (nat_lit 143) (.flat tClock)])] } (fn := Tryz.f80) Tryz.func80 (by kernel_rfl) (by kernel_rfl) ?_
 rintro ⟨a0, a1, ⟨⟩⟩ K ⟨r, h, hK⟩
 change laws_markClockS a0 a1 = some r at h
 unfold laws_markClockS at h
 conv => whnf
 refine vLoop h ?_
 rintro I0 μ0 ⟨v0, v1, l0, ⟨⟩⟩ zs0 h hI0 hR0
 change laws_markClockS_loop0 v0 v1 l0 = some zs0 at h
 unfold laws_markClockS_loop0 at h
 conv => whnf
 refine vIfD h (fun h => ?_) (fun h => ?_)
 conv => whnf
 refine vBind h (fun markText0 hb1 h => ?_)
 conv => whnf
 refine vAt h (fun x0 he2a he2b he2x h => ?_)
 conv => whnf
 refine ⟨by kernel_rfl, ?_⟩
 conv => whnf
 refine ⟨by decide, ?_⟩
 conv => whnf
 refine ⟨he2a, he2b, vAgain he2x ?_⟩
 conv => whnf
 refine vAt h (fun x1 he3a he3b he3x h => ?_)
 conv => whnf
 refine ⟨by kernel_rfl, ?_⟩
 conv => whnf
 refine ⟨by decide, ?_⟩
 conv => whnf
 refine ⟨he3a, he3b, vAgain he3x ?_⟩
 conv => whnf
 refine vAt h (fun x2 he4a he4b he4x h => ?_)
 conv => whnf
 refine ⟨by kernel_rfl, ?_⟩
 conv => whnf
 refine ⟨by decide, ?_⟩
 conv => whnf
 refine ⟨he4a, he4b, vAgain he4x ?_⟩
 conv => whnf
 refine vAt h (fun x3 he5a he5b he5x h => ?_)
 conv => whnf
 refine ⟨by kernel_rfl, ?_⟩
 conv => whnf
 refine ⟨by decide, ?_⟩
 conv => whnf
 refine ⟨he5a, he5b, vAgain he5x ?_⟩
 conv => whnf
 refine vAt h (fun x4 he6a he6b he6x h => ?_)
 conv => whnf
 refine ⟨by kernel_rfl, ?_⟩
 conv => whnf
 refine ⟨by decide, ?_⟩
 conv => whnf
 refine ⟨he6a, he6b, vAgain he6x ?_⟩
 conv => whnf
 refine vAt h (fun x5 he7a he7b he7x h => ?_)
 conv => whnf
 refine ⟨by kernel_rfl, ?_⟩
 conv => whnf
 refine ⟨by decide, ?_⟩
 conv => whnf
 refine ⟨he7a, he7b, vAgain he7x ?_⟩
 conv => whnf
 refine vAt h (fun x6 he8a he8b he8x h => ?_)
 conv => whnf
 refine ⟨by kernel_rfl, ?_⟩
 conv => whnf
 refine ⟨by decide, ?_⟩
 conv => whnf
 refine ⟨he8a, he8b, vAgain he8x ?_⟩
 conv => whnf
 refine ⟨by decide, ?_⟩
 conv => whnf
 refine vAt h (fun x7 he9a he9b he9x h => ?_)
 conv => whnf
 refine ⟨by kernel_rfl, ?_⟩
 conv => whnf
 refine ⟨by decide, ?_⟩
 conv => whnf
 refine ⟨he9a, he9b, vAgain he9x ?_⟩
 conv => whnf
 refine vAt h (fun x8 he10a he10b he10x h => ?_)
 conv => whnf
 refine ⟨by kernel_rfl, ?_⟩
 conv => whnf
 refine ⟨by decide, ?_⟩
 conv => whnf
 refine ⟨he10a, he10b, vAgain he10x ?_⟩
 conv => whnf
 refine vAt h (fun x9 he11a he11b he11x h => ?_)
 conv => whnf
 refine ⟨by kernel_rfl, ?_⟩
 conv => whnf
 refine ⟨by decide, ?_⟩
 conv => whnf
 refine ⟨he11a, he11b, vAgain he11x ?_⟩
 conv => whnf
 refine vAt h (fun x10 he12a he12b he12x h => ?_)
 conv => whnf
 refine ⟨by kernel_rfl, ?_⟩
 conv => whnf
 refine ⟨by decide, ?_⟩
 conv => whnf
 refine ⟨he12a, he12b, vAgain he12x ?_⟩
 conv => whnf
 cases h
 exact ⟨⟨rfl, rfl⟩, hI0 _ rfl⟩
 conv => whnf
 cases h
 obtain rfl := hR0 _ rfl
 exact hK
theorem w211 : SoundC Tryz.prog 17 c211 := by
 refine fn_sound tabD_ok gam_nil mixed { loops := [(0, [.reg 1 (.dat (.int .i64)), .reg 5 (.dat (.int .i64)), .ent 0 (nat_lit 2) (.flat (Ty.int IntKind.i64))])] } (fn := Tryz.f17) Tryz.func17 (by kernel_rfl) (by kernel_rfl) ?_
 rintro ⟨a0, k0, ⟨⟩⟩ K ⟨r, h, hK⟩
 change laws_markInt64S a0 k0 = some r at h
 unfold laws_markInt64S at h
 conv => whnf
 refine vLoop h ?_
 rintro I0 μ0 ⟨k1, i0, l0, ⟨⟩⟩ zs0 h hI0 hR0
 change laws_markInt64S_loop0 k1 i0 l0 = some zs0 at h
 unfold laws_markInt64S_loop0 at h
 conv => whnf
 refine vIfD h (fun h => ?_) (fun h => ?_)
 conv => whnf
 refine vAt h (fun x0 he1a he1b he1x h => ?_)
 conv => whnf
 refine ⟨by kernel_rfl, ?_⟩
 conv => whnf
 refine ⟨by decide, ?_⟩
 conv => whnf
 refine ⟨he1a, he1b, vAgain he1x ?_⟩
 conv => whnf
 cases h
 exact ⟨⟨rfl, rfl⟩, hI0 _ rfl⟩
 conv => whnf
 cases h
 obtain rfl := hR0 _ rfl
 exact hK
theorem w209 : SoundC Tryz.prog 141 c209 := by
 refine fn_sound tab_ok gam_nil mixed { loops := [(0, [.reg 0 (.dat (.int .i64)), .reg 3 (.dat (.str))])] } (fn := Tryz.f141) Tryz.func141 (by kernel_rfl) (by kernel_rfl) ?_
 rintro ⟨k0, ⟨⟩⟩ K ⟨r, h, hK⟩
 change laws_markText k0 = some r at h
 unfold laws_markText at h
 conv => whnf
 refine vIfD h (fun h => ?_) (fun h => ?_)
 conv => whnf
 cases h
 exact hK
 conv => whnf
 refine vLoop h ?_
 rintro I0 μ0 ⟨k1, out0, ⟨⟩⟩ zs0 h hI0 hR0
 change laws_markText_loop0 k1 out0 = some zs0 at h
 unfold laws_markText_loop0 at h
 conv => whnf
 refine vIfD h (fun h => ?_) (fun h => ?_)
 conv => whnf
 refine ⟨by decide, ?_⟩
 conv => whnf
 refine vPre h (fun hp1 h => ?_)
 conv => whnf
 refine ⟨by decide, ?_⟩
 conv => whnf
 cases h
 exact ⟨⟨rfl, rfl⟩, hI0 _ rfl⟩
 conv => whnf
 refine vPre h (fun hp2 h => ?_)
 conv => whnf
 cases h
 obtain rfl := hR0 _ rfl
 exact hK
theorem w23 (q0 : SoundC Tryz.prog 125 c22) : SoundC Tryz.prog 65 c23 := by
 refine fn_sound tab_ok (gam_cons q0 gam_nil) mixed { loops := [(0, [.reg 1 (.dat (.int .i64)), .reg 5 (.dat (.int .i64))])] } (fn := Tryz.f65) Tryz.func65 (by kernel_rfl) (by kernel_rfl) ?_
 rintro ⟨a0, left0, ⟨⟩⟩ K ⟨r, h, hK⟩
 change laws_szExceptionS a0 left0 = some r at h
 unfold laws_szExceptionS at h
 conv => whnf
 refine vIfD h (fun h => ?_) (fun h => ?_)
 conv => whnf
 cases h
 exact hK
 conv => whnf
 refine vLoop h ?_
 rintro I0 μ0 ⟨left1, i0, ⟨⟩⟩ zs0 h hI0 hR0
 change laws_szExceptionS_loop0 a0 left1 i0 = some zs0 at h
 unfold laws_szExceptionS_loop0 at h
 conv => whnf
 refine vIfD h (fun h => ?_) (fun h => ?_)
 conv => whnf
 refine vAt h (fun x0 he1a he1b he1x h => ?_)
 conv => whnf
 refine vBind h (fun szException0 hb2 h => ?_)
 conv => whnf
 refine vIfD h (fun h => ?_) (fun h => ?_)
 conv => whnf
 cases h
 obtain rfl := hR0 _ rfl
 exact hK
 conv => whnf
 cases h
 exact ⟨⟨rfl, rfl⟩, hI0 _ rfl⟩
 conv => whnf
 cases h
 obtain rfl := hR0 _ rfl
 exact hK
theorem w26 (q3 : SoundC Tryz.prog 63 c20) (q1 : SoundC Tryz.prog 64 c21) (q0 : SoundC Tryz.prog 65 c23) (q2 : SoundC Tryz.prog 66 c25) : SoundC Tryz.prog 26 c26 := by
 refine fn_sound tab_ok (gam_cons q3 (gam_cons q1 (gam_cons q0 (gam_cons q2 gam_nil)))) mixed {} (fn := Tryz.f26) Tryz.func26 (by kernel_rfl) (by kernel_rfl) ?_
 rintro ⟨a0, left0, ⟨⟩⟩ K ⟨r, h, hK⟩
 change laws_szSetup a0 left0 = some r at h
 unfold laws_szSetup at h
 conv => whnf
 refine vBind h (fun szClockS0 hb0 h => ?_)
 conv => whnf
 refine vIfD h (fun h => ?_) (fun h => ?_)
 conv => whnf
 cases h
 exact hK
 conv => whnf
 refine vBind h (fun szExternalS0 hb1 h => ?_)
 conv => whnf
 refine vIfD h (fun h => ?_) (fun h => ?_)
 conv => whnf
 cases h
 exact hK
 conv => whnf
 refine vBind h (fun szExternalS1 hb2 h => ?_)
 conv => whnf
 refine vIfD h (fun h => ?_) (fun h => ?_)
 conv => whnf
 cases h
 exact hK
 conv => whnf
 refine vBind h (fun szExceptionS0 hb3 h => ?_)
 conv => whnf
 refine vIfD h (fun h => ?_) (fun h => ?_)
 conv => whnf
 cases h
 exact hK
 conv => whnf
 refine vBind h (fun szCornerS0 hb4 h => ?_)
 conv => whnf
 refine vIfD h (fun h => ?_) (fun h => ?_)
 conv => whnf
 cases h
 exact hK
 conv => whnf
 cases h
 exact hK
theorem w4 (q0 : SoundC Tryz.prog 271 c3) : SoundC Tryz.prog 252 c4 := by
 refine fn_sound tab_ok (gam_cons q0 gam_nil) mixed { loops := [(0, [.reg 1 (.dat (.int .i64)), .reg 5 (.dat (.int .i64))])] } (fn := Tryz.f252) Tryz.func252 (by kernel_rfl) (by kernel_rfl) ?_
 rintro ⟨a0, left0, ⟨⟩⟩ K ⟨r, h, hK⟩
 change laws_szTableS a0 left0 = some r at h
 unfold laws_szTableS at h
 conv => whnf
 refine vIfD h (fun h => ?_) (fun h => ?_)
 conv => whnf
 cases h
 exact hK
 conv => whnf
 refine vLoop h ?_
 rintro I0 μ0 ⟨left1, i0, ⟨⟩⟩ zs0 h hI0 hR0
 change laws_szTableS_loop0 a0 left1 i0 = some zs0 at h
 unfold laws_szTableS_loop0 at h
 conv => whnf
 refine vIfD h (fun h => ?_) (fun h => ?_)
 conv => whnf
 refine vAt h (fun x0 he1a he1b he1x h => ?_)
 conv => whnf
 refine vBind h (fun szTable0 hb2 h => ?_)
 conv => whnf
 refine vIfD h (fun h => ?_) (fun h => ?_)
 conv => whnf
 cases h
 obtain rfl := hR0 _ rfl
 exact hK
 conv => whnf
 cases h
 exact ⟨⟨rfl, rfl⟩, hI0 _ rfl⟩
 conv => whnf
 cases h
 obtain rfl := hR0 _ rfl
 exact hK
theorem w38 (q0 : SoundC Tryz.prog 155 c37) : SoundC Tryz.prog 95 c38 := by
 refine fn_sound tabD_ok (gam_cons q0 gam_nil) mixed { loops := [(0, [.reg 4 (.dat (.int .i64)), .ent 0 (nat_lit 177) dInstance])] } (fn := Tryz.f95) Tryz.func95 (by kernel_rfl) (by kernel_rfl) ?_
 rintro ⟨a0, ⟨⟩⟩ K ⟨r, h, hK⟩
 change laws_toInstanceS a0 = some r at h
 unfold laws_toInstanceS at h
 conv => whnf
 refine vPre h (fun hp0 h => ?_)
 conv => whnf
 refine vPre h (fun hp1 h => ?_)
 conv => whnf
 refine vPre h (fun hp2 h => ?_)
 conv => whnf
 refine vPre h (fun hp3 h => ?_)
 conv => whnf
 intro fp4
 conv => whnf
 refine vLoop h ?_
 rintro I5 μ5 ⟨i0, l0, ⟨⟩⟩ zs5 h hI5 hR5
 change laws_toInstanceS_loop0 a0 i0 l0 = some zs5 at h
 unfold laws_toInstanceS_loop0 at h
 conv => whnf
 intro fp6
 conv => whnf
 refine vIfD h (fun h => ?_) (fun h => ?_)
 conv => whnf
 refine vAt h (fun x0 he7a he7b he7x h => ?_)
 conv => whnf
 refine vBind h (fun toInstance0 hb8 h => ?_)
 conv => whnf
 refine vAt h (fun x1 he9a he9b he9x h => ?_)
 conv => whnf
 refine ⟨he9a, he9b, vAgain he9x ?_⟩
 conv => whnf
 intro fp10
 conv => whnf
 cases h
 exact ⟨⟨rfl, rfl⟩, hI5 _ rfl⟩
 conv => whnf
 cases h
 obtain rfl := hR5 _ rfl
 exact hK
theorem w40 : SoundC Tryz.prog 156 c40 := by
 refine fn_sound tab_ok gam_nil mixed {} (fn := Tryz.f156) Tryz.func156 (by kernel_rfl) (by kernel_rfl) ?_
 rintro ⟨a0, ⟨⟩⟩ K ⟨r, h, hK⟩
 change laws_toPort a0 = some r at h
 unfold laws_toPort at h
 conv => whnf
 cases h
 exact hK
theorem w43 (q0 : SoundC Tryz.prog 98 c29) : SoundC Tryz.prog 44 c43 := by
 refine fn_sound tab_ok (gam_cons q0 gam_nil) mixed {} (fn := Tryz.f44) Tryz.func44 (by kernel_rfl) (by kernel_rfl) ?_
 rintro ⟨a0, ⟨⟩⟩ K ⟨r, h, hK⟩
 change laws_toWire a0 = some r at h
 unfold laws_toWire at h
 conv => whnf
 refine vBind h (fun toInt64S0 hb0 h => ?_)
 conv => whnf
 refine vBind h (fun toInt64S1 hb1 h => ?_)
 conv => whnf
 refine vBind h (fun toInt64S2 hb2 h => ?_)
 conv => whnf
 refine vBind h (fun toInt64S3 hb3 h => ?_)
 conv => whnf
 cases h
 exact hK
theorem w116 (q0 : SoundC Tryz.prog 291 c115) : SoundC Tryz.prog 276 c116 := by
 refine fn_sound tab_ok (gam_cons q0 gam_nil) mixed {} (fn := Tryz.f276) Tryz.func276 (by kernel_rfl) (by kernel_rfl) ?_
 rintro ⟨s0, f0, ⟨⟩⟩ K ⟨r, h, hK⟩
 change slices_ContainsFunc_Simpl_Arc_impl_Arc_at_impl_Cell_areArcs_c1 s0 f0 = some r at h
 unfold slices_ContainsFunc_Simpl_Arc_impl_Arc_at_impl_Cell_areArcs_c1 at h
 conv => whnf
 refine vBind h (fun c1_0 hb0 h => ?_)
 conv => whnf
 cases h
 exact hK
theorem w159 (q0 : SoundC Tryz.prog 222 c158) : SoundC Tryz.prog 181 c159 := by
 refine fn_sound tab_ok (gam_cons q0 gam_nil) mixed {} (fn := Tryz.f181) Tryz.func181 (by kernel_rfl) (by kernel_rfl) ?_
 rintro ⟨s0, f0, ⟨⟩⟩ K ⟨r, h, hK⟩
 change slices_ContainsFunc_Simpl_Clock_impl_Clock_at_impl_view_isSetup_c1 s0 f0 = some r at h
 unfold slices_ContainsFunc_Simpl_Clock_impl_Clock_at_impl_view_isSetup_c1 at h
 conv => whnf
 refine vBind h (fun c1_0 hb0 h => ?_)
 conv => whnf
 cases h
 exact hK
theorem w73 (q0 : SoundC Tryz.prog 145 c69) (q1 : SoundC Tryz.prog 147 c71) (q2 : SoundC Tryz.prog 146 c72) : SoundC Tryz.prog 89 c73 := by
 refine fn_sound tab_ok (gam_cons q0 (gam_cons q1 (gam_cons q2 gam_nil))) mixed { loops := [(0, [.reg 3 (.dat (.int .i64))])], draws := [(6, [0, 1, 0, 7, 15, 0, 32, 0, 224, 480, 1023, 2047], .op 0 (.op 1 (.op 2 (.op 3 (.op 4 (.op 5 (.op 6 (.op 7 (.alt 8 (.op 9 (.alt 10 (.op 11 (.done)) (.done))) (.done))))))))))] } (fn := Tryz.f89) Tryz.func89 (by kernel_rfl) (by kernel_rfl) ?_
 rintro ⟨b0, ⟨⟩⟩ K ⟨r, h, hK⟩
 change spec_IsBlock b0 = some r at h
 unfold spec_IsBlock at h
 conv => whnf
 refine vBind h (fun IsDesign0 hb0 h => ?_)
 conv => whnf
 refine vNot ?_
 refine vIfB h (fun h => ?_) (fun h => ?_)
 conv => whnf
 refine vNots ?_
 refine vIfD h (fun h => ?_) (fun h => ?_)
 conv => whnf
 refine vLoop h ?_
 rintro I1 μ1 ⟨net0, ⟨⟩⟩ zs1 h hI1 hR1
 change spec_IsBlock_loop0 b0 net0 = some zs1 at h
 unfold spec_IsBlock_loop0 at h
 conv => whnf
 refine vIfD h (fun h => ?_) (fun h => ?_)
 conv => whnf
 refine ⟨by kernel_rfl, ?_⟩
 conv => whnf
 refine vAt h (fun x0 he2a he2b he2x h => ?_)
 conv => whnf
 refine vBind h (fun l05Sinks0 hb3 h => ?_)
 conv => whnf
 refine vBind h (fun IsWire0 hb4 h => ?_)
 conv => whnf
 refine vNots ?_
 refine vIfB h (fun h => ?_) (fun h => ?_)
 conv => whnf
 cases h
 exact ⟨⟨rfl, rfl⟩, hI1 _ rfl⟩
 conv => whnf
 cases h
 obtain rfl := hR1 _ rfl
 exact hK
 conv => whnf
 cases h
 obtain rfl := hR1 _ rfl
 exact hK
 conv => whnf
 cases h
 exact hK
 conv => whnf
 cases h
 exact hK
theorem w57 : SoundC Tryz.prog 112 c57 := by
 refine fn_sound tab_ok gam_nil mixed {} (fn := Tryz.f112) Tryz.func112 (by kernel_rfl) (by kernel_rfl) ?_
 rintro ⟨n0, low0, high0, ⟨⟩⟩ K ⟨r, h, hK⟩
 change spec_l01In n0 low0 high0 = some r at h
 unfold spec_l01In at h
 conv => whnf
 refine vIfD h (fun h => ?_) (fun h => ?_)
 conv => whnf
 cases h
 exact hK
 conv => whnf
 cases h
 exact hK
theorem w64 : SoundC Tryz.prog 255 c64 := by
 refine fn_sound tab_ok gam_nil mixed { loops := [(0, [.reg 4 (.dat (.int .i64)), .ent 1 (nat_lit 2) (.flat ti33.ety)])] } (fn := Tryz.f255) Tryz.func255 (by kernel_rfl) (by kernel_rfl) ?_
 rintro ⟨c0, ⟨⟩⟩ K ⟨r, h, hK⟩
 change spec_l03Kinds c0 = some r at h
 unfold spec_l03Kinds at h
 conv => whnf
 refine ⟨by decide, ?_⟩
 conv => whnf
 refine ⟨by decide, ?_⟩
 conv => whnf
 refine ⟨by decide, ?_⟩
 conv => whnf
 refine ⟨by decide, ?_⟩
 conv => whnf
 refine vLoop h ?_
 rintro I0 μ0 ⟨i0, l0, ⟨⟩⟩ zs0 h hI0 hR0
 change spec_l03Kinds_loop0 c0 i0 l0 = some zs0 at h
 unfold spec_l03Kinds_loop0 at h
 conv => whnf
 refine vIfD h (fun h => ?_) (fun h => ?_)
 conv => whnf
 refine vAt h (fun x0 he1a he1b he1x h => ?_)
 conv => whnf
 refine vAt h (fun x1 he2a he2b he2x h => ?_)
 conv => whnf
 refine ⟨by kernel_rfl, ?_⟩
 conv => whnf
 refine ⟨he2a, he2b, vAgain he2x ?_⟩
 conv => whnf
 refine ⟨he2a, he2b, vAgain he2x ?_⟩
 conv => whnf
 refine ⟨by kernel_rfl, ?_⟩
 conv => whnf
 refine ⟨by decide, ?_⟩
 conv => whnf
 refine ⟨he2a, he2b, vAgain he2x ?_⟩
 conv => whnf
 cases h
 exact ⟨⟨rfl, rfl⟩, hI0 _ rfl⟩
 conv => whnf
 cases h
 obtain rfl := hR0 _ rfl
 exact hK
theorem wb_spec_l14Of (rec0 : (List TClock) → Int → Option Tl14Wave) (hrec : SoundC Tryz.prog 68 (cb_spec_l14Of rec0)) : SoundC Tryz.prog 68 (cb_spec_l14Of (spec_l14Of_body rec0)) := by
 refine fn_sound tab_ok (gam_cons hrec gam_nil) mixed {} (fn := Tryz.f68) Tryz.func68 (by kernel_rfl) (by kernel_rfl) ?_
 rintro ⟨list0, k0, ⟨⟩⟩ K ⟨r, h, hK⟩
 change spec_l14Of_body rec0 list0 k0 = some r at h
 unfold spec_l14Of_body at h
 conv => whnf
 refine vAt h (fun x0 he0a he0b he0x h => ?_)
 conv => whnf
 refine vIfD h (fun h => ?_) (fun h => ?_)
 conv => whnf
 cases h
 exact hK
 conv => whnf
 refine vBind h (fun r0 hb1 h => ?_)
 conv => whnf
 refine vIfD h (fun h => ?_) (fun h => ?_)
 conv => whnf
 refine ⟨by decide, ?_⟩
 conv => whnf
 refine vIfB h (fun h => ?_) (fun h => ?_)
 conv => whnf
 cases h
 exact hK
 conv => whnf
 cases h
 exact hK
 conv => whnf
 refine vIfB h (fun h => ?_) (fun h => ?_)
 conv => whnf
 cases h
 exact hK
 conv => whnf
 cases h
 exact hK
theorem w76 : SoundC Tryz.prog 68 c76 := by
 have hn : ∀ n, SoundC Tryz.prog 68 (cb_spec_l14Of (spec_l14Of_n n)) := by
  intro n
  induction n with
  | zero =>
  refine fn_sound tab_ok gam_nil mixed {} (fn := Tryz.f68) Tryz.func68 (by kernel_rfl) (by kernel_rfl) ?_
  rintro ⟨list0, k0, ⟨⟩⟩ K ⟨r, h, hK⟩
  cases h
  | succ n ih => exact wb_spec_l14Of _ ih
 refine ⟨(hn 0).1, ?_⟩
 rintro w S vs ⟨list0, k0, ⟨⟩⟩ fp K h1 h2 h3 h4 ⟨r, h, hK⟩
 obtain ⟨n, hr⟩ := recM_some h
 exact (hn n).2 w S vs _ fp K h1 h2 h3 h4 ⟨r, hr, hK⟩
theorem w79 (q0 : SoundC Tryz.prog 177 c78) : SoundC Tryz.prog 128 c79 := by
 refine fn_sound tab_ok (gam_cons q0 gam_nil) mixed { loops := [(0, [.reg 3 (.dat (.int .i64))]), (2, [.reg 4 (.dat (.int .i64))])], draws := [(9, [0, 0, 3, 7, 15, 0, 0, 96, 224, 480, 1023], .op 0 (.op 1 (.op 2 (.op 3 (.op 4 (.op 5 (.op 6 (.op 7 (.op 8 (.op 9 (.op 10 (.done))))))))))))] } (fn := Tryz.f128) Tryz.func128 (by kernel_rfl) (by kernel_rfl) ?_
 rintro ⟨list0, ⟨⟩⟩ K ⟨r, h, hK⟩
 change spec_l31Corners list0 = some r at h
 unfold spec_l31Corners at h
 conv => whnf
 refine vLoop h ?_
 rintro I0 μ0 ⟨i0, ⟨⟩⟩ zs0 h hI0 hR0
 change spec_l31Corners_loop1 list0 i0 = some zs0 at h
 unfold spec_l31Corners_loop1 at h
 conv => whnf
 refine vIfD h (fun h => ?_) (fun h => ?_)
 conv => whnf
 refine vAt h (fun x0 he1a he1b he1x h => ?_)
 conv => whnf
 refine vBind h (fun IsCorner0 hb2 h => ?_)
 conv => whnf
 refine vNots ?_
 refine vIfB h (fun h => ?_) (fun h => ?_)
 conv => whnf
 refine vLoop h ?_
 rintro I3 μ3 ⟨k0, ⟨⟩⟩ zs3 h hI3 hR3
 change spec_l31Corners_loop0 list0 i0 x0 k0 = some zs3 at h
 unfold spec_l31Corners_loop0 at h
 conv => whnf
 refine vIfD h (fun h => ?_) (fun h => ?_)
 conv => whnf
 refine ⟨by kernel_rfl, ?_⟩
 conv => whnf
 refine vAt h (fun x1 he4a he4b he4x h => ?_)
 conv => whnf
 refine ⟨he1a, he1b, vAgain he1x ?_⟩
 conv => whnf
 refine vIfD h (fun h => ?_) (fun h => ?_)
 conv => whnf
 cases h
 obtain rfl := hR3 _ rfl
 obtain rfl := hR0 _ rfl
 exact hK
 conv => whnf
 cases h
 exact ⟨⟨rfl, rfl⟩, hI3 _ rfl⟩
 conv => whnf
 cases h
 obtain rfl := hR3 _ rfl
 exact ⟨⟨rfl, rfl⟩, hI0 _ rfl⟩
 conv => whnf
 cases h
 obtain rfl := hR0 _ rfl
 exact hK
 conv => whnf
 cases h
 obtain rfl := hR0 _ rfl
 exact hK
theorem w84 (q0 : SoundC Tryz.prog 93 c70) (q2 : SoundC Tryz.prog 112 c57) (q1 : SoundC Tryz.prog 114 c83) : SoundC Tryz.prog 130 c84 := by
 refine fn_sound tab_ok (gam_cons q0 (gam_cons q2 (gam_cons q1 gam_nil))) mixed { loops := [(0, [.reg 10 (.dat (.int .i64))])], draws := [(6, [0, 1, 0, 4, 12, 31, 63, 127, 255, 511, 1023, 2047, 2047, 6143, 16383, 32767, 65535, 2047, 133119, 524287, 1048575, 2097151, 4194303, 8388607, 16777215, 8388607, 41943039, 109051903, 243269631, 536870911, 1073741823, 2147483647], .op 0 (.op 1 (.op 2 (.op 3 (.op 4 (.alt 5 (.op 6 (.op 7 (.op 8 (.op 9 (.op 10 (.op 11 (.op 12 (.op 13 (.op 14 (.op 15 (.op 16 (.op 17 (.op 18 (.op 19 (.op 20 (.op 21 (.op 22 (.op 23 (.op 24 (.op 25 (.op 26 (.op 27 (.op 28 (.alt 29 (.op 30 (.op 31 (.done))) (.done))))))))))))))))))))))))) (.done)))))))] } (fn := Tryz.f130) Tryz.func130 (by kernel_rfl) (by kernel_rfl) ?_
 rintro ⟨a0, a1, a2, a3, ⟨⟩⟩ K ⟨r, h, hK⟩
 change spec_l31Externals a0 a1 a2 a3 = some r at h
 unfold spec_l31Externals at h
 conv => whnf
 refine vBind h (fun l05Places0 hb0 h => ?_)
 conv => whnf
 refine vLoop h ?_
 rintro I1 μ1 ⟨v0, ⟨⟩⟩ zs1 h hI1 hR1
 change spec_l31Externals_loop0 a1 a2 a3 l05Places0 v0 = some zs1 at h
 unfold spec_l31Externals_loop0 at h
 conv => whnf
 refine vIfD h (fun h => ?_) (fun h => ?_)
 conv => whnf
 refine vAt h (fun x0 he2a he2b he2x h => ?_)
 conv => whnf
 refine ⟨by kernel_rfl, ?_⟩
 conv => whnf
 refine vBind h (fun l01In0 hb3 h => ?_)
 conv => whnf
 refine vNot ?_
 refine vIfB h (fun h => ?_) (fun h => ?_)
 conv => whnf
 refine vIfD h (fun h => ?_) (fun h => ?_)
 conv => whnf
 refine vAt h (fun x1 he4a he4b he4x h => ?_)
 conv => whnf
 refine vIfDs h (fun h => ?_) (fun h => ?_)
 conv => whnf
 cases h
 obtain rfl := hR1 _ rfl
 exact hK
 conv => whnf
 refine vBind h (fun l01In1 hb5 h => ?_)
 conv => whnf
 refine vNots ?_
 refine vIfB h (fun h => ?_) (fun h => ?_)
 conv => whnf
 refine vAt h (fun x2 he6a he6b he6x h => ?_)
 conv => whnf
 refine ⟨by kernel_rfl, ?_⟩
 conv => whnf
 refine ⟨he6a, he6b, vAgain he6x ?_⟩
 conv => whnf
 refine vIfDs h (fun h => ?_) (fun h => ?_)
 conv => whnf
 cases h
 obtain rfl := hR1 _ rfl
 exact hK
 conv => whnf
 refine vNot ?_
 refine vIfB h (fun h => ?_) (fun h => ?_)
 conv => whnf
 refine vIfDs h (fun h => ?_) (fun h => ?_)
 conv => whnf
 cases h
 obtain rfl := hR1 _ rfl
 exact hK
 conv => whnf
 refine vIfDs h (fun h => ?_) (fun h => ?_)
 conv => whnf
 cases h
 obtain rfl := hR1 _ rfl
 exact hK
 conv => whnf
 refine vIfD h (fun h => ?_) (fun h => ?_)
 conv => whnf
 cases h
 obtain rfl := hR1 _ rfl
 exact hK
 conv => whnf
 refine vBind h (fun l12Slews0 hb7 h => ?_)
 conv => whnf
 refine vNot ?_
 refine vIfB h (fun h => ?_) (fun h => ?_)
 conv => whnf
 refine vNots ?_
 refine vIfB h (fun h => ?_) (fun h => ?_)
 conv => whnf
 cases h
 exact ⟨⟨rfl, rfl⟩, hI1 _ rfl⟩
 conv => whnf
 refine vNots ?_
 refine vIfB h (fun h => ?_) (fun h => ?_)
 conv => whnf
 cases h
 exact ⟨⟨rfl, rfl⟩, hI1 _ rfl⟩
 conv => whnf
 cases h
 obtain rfl := hR1 _ rfl
 exact hK
 conv => whnf
 cases h
 obtain rfl := hR1 _ rfl
 exact hK
 conv => whnf
 cases h
 obtain rfl := hR1 _ rfl
 exact hK
 conv => whnf
 cases h
 obtain rfl := hR1 _ rfl
 exact hK
 conv => whnf
 refine vBind h (fun l01In1 hb8 h => ?_)
 conv => whnf
 refine vNots ?_
 refine vIfB h (fun h => ?_) (fun h => ?_)
 conv => whnf
 refine vAt h (fun x1 he9a he9b he9x h => ?_)
 conv => whnf
 refine ⟨by kernel_rfl, ?_⟩
 conv => whnf
 refine ⟨he9a, he9b, vAgain he9x ?_⟩
 conv => whnf
 refine vIfDs h (fun h => ?_) (fun h => ?_)
 conv => whnf
 cases h
 obtain rfl := hR1 _ rfl
 exact hK
 conv => whnf
 refine vNot ?_
 refine vIfB h (fun h => ?_) (fun h => ?_)
 conv => whnf
 refine vIfDs h (fun h => ?_) (fun h => ?_)
 conv => whnf
 cases h
 obtain rfl := hR1 _ rfl
 exact hK
 conv => whnf
 refine vIfDs h (fun h => ?_) (fun h => ?_)
 conv => whnf
 cases h
 obtain rfl := hR1 _ rfl
 exact hK
 conv => whnf
 refine vIfD h (fun h => ?_) (fun h => ?_)
 conv => whnf
 cases h
 obtain rfl := hR1 _ rfl
 exact hK
 conv => whnf
 refine vBind h (fun l12Slews0 hb10 h => ?_)
 conv => whnf
 refine vNot ?_
 refine vIfB h (fun h => ?_) (fun h => ?_)
 conv => whnf
 refine vNots ?_
 refine vIfB h (fun h => ?_) (fun h => ?_)
 conv => whnf
 cases h
 exact ⟨⟨rfl, rfl⟩, hI1 _ rfl⟩
 conv => whnf
 refine vNots ?_
 refine vIfB h (fun h => ?_) (fun h => ?_)
 conv => whnf
 cases h
 exact ⟨⟨rfl, rfl⟩, hI1 _ rfl⟩
 conv => whnf
 cases h
 obtain rfl := hR1 _ rfl
 exact hK
 conv => whnf
 cases h
 obtain rfl := hR1 _ rfl
 exact hK
 conv => whnf
 cases h
 obtain rfl := hR1 _ rfl
 exact hK
 conv => whnf
 cases h
 obtain rfl := hR1 _ rfl
 exact hK
 conv => whnf
 cases h
 obtain rfl := hR1 _ rfl
 exact hK
 conv => whnf
 cases h
 obtain rfl := hR1 _ rfl
 exact hK
end Go.Proofs.YtaccffcigblceaaGreatDoor
