/-
  The functions keep their contracts, if what they call does. Printed by program.
-/
import Derived.Test.YtaccffcigblceaaGreatDoorM
import Derived.KernelRfl
namespace Go.Proofs.YtaccffcigblceaaGreatDoor
open Go Go.Sx
set_option maxRecDepth 100000
set_option linter.unusedVariables false
set_option linter.unusedSimpArgs false
theorem w_impl_Block_exactDelays (q0 : SoundC Tryz.prog 170 c_impl_Block_nodeDelays) : SoundC Tryz.prog 119 c_impl_Block_exactDelays := by
 refine fn_sound tab_ok (gam_cons q0 gam_nil) mixed { loops := [(0, [.reg 6 (.own (.ol 2 (.flat (.int .i64)))), .reg 19 (.dat (.int .i64))])] } (fn := Tryz.f119) Tryz.func119 (by kernel_rfl) (by kernel_rfl) ?_
 rintro ⟨b0, net0, ⟨⟩⟩ K ⟨r, h, hK⟩
 change impl_Block_exactDelays b0 net0 = some r at h
 unfold impl_Block_exactDelays at h
 conv => whnf
 refine vBind h (fun nodeDelays0 hb0 h => ?_)
 conv => whnf
 refine vAt h (fun x0 he1a he1b he1x h => ?_)
 conv => whnf
 refine vLoop h ?_
 rintro I2 μ2 ⟨out0, v0, ⟨⟩⟩ zs2 h hI2 hR2
 change impl_Block_exactDelays_loop0 nodeDelays0 x0 out0 v0 = some zs2 at h
 unfold impl_Block_exactDelays_loop0 at h
 conv => whnf
 refine vIfD h (fun h => ?_) (fun h => ?_)
 conv => whnf
 refine vAt h (fun x1 he3a he3b he3x h => ?_)
 conv => whnf
 refine vAt h (fun x2 he4a he4b he4x h => ?_)
 conv => whnf
 refine ⟨by kernel_rfl, ?_⟩
 conv => whnf
 refine ⟨he4a, he4b, vAgain he4x ?_⟩
 conv => whnf
 refine vPre h (fun hp5 h => ?_)
 conv => whnf
 cases h
 exact ⟨⟨rfl, rfl⟩, hI2 _ rfl⟩
 conv => whnf
 cases h
 obtain rfl := hR2 _ rfl
 exact hK
theorem w_impl_Cell_clock_c1 : SoundC Tryz.prog 302 c_impl_Cell_clock_c1 := by
 refine fn_sound tab_ok gam_nil mixed {} (fn := Tryz.f302) Tryz.func302 (by kernel_rfl) (by kernel_rfl) ?_
 rintro ⟨p0, ⟨⟩⟩ K ⟨r, h, hK⟩
 change impl_Cell_clock_c1 p0 = some r at h
 unfold impl_Cell_clock_c1 at h
 conv => whnf
 cases h
 exact hK
theorem w_impl_Edit_isInRange (q7 : SoundC Tryz.prog 171 c_impl_within) (q5 : SoundC Tryz.prog 207 c_impl_Edit_own) (q6 : SoundC Tryz.prog 206 c_impl_sameEdit) (q2 : SoundC Tryz.prog 102 c_impl_Design_places) (q0 : SoundC Tryz.prog 208 c_impl_length_impl_place) (q1 : SoundC Tryz.prog 209 c_impl_length_impl_Cell) (q3 : SoundC Tryz.prog 201 c_impl_Design_isNet) (q4 : SoundC Tryz.prog 117 c_impl_length_int64) : SoundC Tryz.prog 159 c_impl_Edit_isInRange := by
 refine fn_sound tab_ok (gam_cons q7 (gam_cons q5 (gam_cons q6 (gam_cons q2 (gam_cons q0 (gam_cons q1 (gam_cons q3 (gam_cons q4 gam_nil)))))))) mixed { draws := [(1, [0, 1, 3, 7, 15, 31, 31, 95, 255, 511, 1023], .op 0 (.op 1 (.alt 2 (.op 3 (.op 4 (.op 5 (.op 6 (.alt 7 (.alt 8 (.op 9 (.op 10 (.done))) (.done)) (.done)))))) (.done)))), (3, [0, 1, 0, 4, 12, 28, 60, 127, 255], .op 0 (.op 1 (.op 2 (.op 3 (.alt 4 (.alt 5 (.op 6 (.alt 7 (.op 8 (.done)) (.done))) (.done)) (.done)))))), (7, [0, 1, 3, 7, 3, 19, 51, 115, 243, 511, 1023, 2047], .op 0 (.op 1 (.op 2 (.op 3 (.op 4 (.op 5 (.op 6 (.alt 7 (.op 8 (.alt 9 (.op 10 (.op 11 (.done))) (.done))) (.done))))))))), (9, [0, 1, 3, 7, 3, 19, 63, 127, 255, 511, 1023, 511, 2559, 511, 8703, 31231, 63999, 129535, 260607, 522751, 1048575, 2097151, 4194303], .op 0 (.op 1 (.op 2 (.op 3 (.op 4 (.op 5 (.alt 6 (.op 7 (.op 8 (.op 9 (.op 10 (.op 11 (.op 12 (.op 13 (.op 14 (.op 15 (.op 16 (.op 17 (.alt 18 (.op 19 (.alt 20 (.op 21 (.op 22 (.done))) (.done))) (.done))))))))))))) (.done))))))))] } (fn := Tryz.f159) Tryz.func159 (by kernel_rfl) (by kernel_rfl) ?_
 rintro ⟨a0, a1, ⟨⟩⟩ K ⟨r, h, hK⟩
 change impl_Edit_isInRange a0 a1 = some r at h
 unfold impl_Edit_isInRange at h
 conv => whnf
 refine ⟨by kernel_rfl, ?_⟩
 conv => whnf
 refine vBind h (fun within0 hb0 h => ?_)
 conv => whnf
 refine vNot ?_
 refine vIfB h (fun h => ?_) (fun h => ?_)
 conv => whnf
 refine vBind h (fun own0 hb1 h => ?_)
 conv => whnf
 refine vBind h (fun sameEdit0 hb2 h => ?_)
 conv => whnf
 refine vNots ?_
 refine vIfB h (fun h => ?_) (fun h => ?_)
 conv => whnf
 refine ⟨by kernel_rfl, ?_⟩
 conv => whnf
 refine vBind h (fun places0 hb3 h => ?_)
 conv => whnf
 refine vBind h (fun place0 hb4 h => ?_)
 conv => whnf
 refine vBind h (fun within1 hb5 h => ?_)
 conv => whnf
 refine vIfD h (fun h => ?_) (fun h => ?_)
 conv => whnf
 refine vIfD h (fun h => ?_) (fun h => ?_)
 conv => whnf
 refine ⟨by kernel_rfl, ?_⟩
 conv => whnf
 refine vIfB h (fun h => ?_) (fun h => ?_)
 conv => whnf
 refine vBind h (fun Cell0 hb6 h => ?_)
 conv => whnf
 refine vBind h (fun within2 hb7 h => ?_)
 conv => whnf
 cases h
 exact hK
 conv => whnf
 cases h
 exact hK
 conv => whnf
 refine vIfD h (fun h => ?_) (fun h => ?_)
 conv => whnf
 refine ⟨by kernel_rfl, ?_⟩
 conv => whnf
 refine vIfB h (fun h => ?_) (fun h => ?_)
 conv => whnf
 refine vBind h (fun isNet0 hb8 h => ?_)
 conv => whnf
 refine vIfB h (fun h => ?_) (fun h => ?_)
 conv => whnf
 refine vAt h (fun x0 he9a he9b he9x h => ?_)
 conv => whnf
 refine vBind h (fun int64_0 hb10 h => ?_)
 conv => whnf
 refine vBind h (fun within2 hb11 h => ?_)
 conv => whnf
 cases h
 exact hK
 conv => whnf
 cases h
 exact hK
 conv => whnf
 cases h
 exact hK
 conv => whnf
 refine vIfD h (fun h => ?_) (fun h => ?_)
 conv => whnf
 refine vBind h (fun isNet0 hb12 h => ?_)
 conv => whnf
 cases h
 exact hK
 conv => whnf
 cases h
 exact hK
 conv => whnf
 refine vIfD h (fun h => ?_) (fun h => ?_)
 conv => whnf
 refine ⟨by kernel_rfl, ?_⟩
 conv => whnf
 refine vIfB h (fun h => ?_) (fun h => ?_)
 conv => whnf
 refine vBind h (fun Cell0 hb13 h => ?_)
 conv => whnf
 refine vBind h (fun within2 hb14 h => ?_)
 conv => whnf
 cases h
 exact hK
 conv => whnf
 cases h
 exact hK
 conv => whnf
 refine vIfD h (fun h => ?_) (fun h => ?_)
 conv => whnf
 refine ⟨by kernel_rfl, ?_⟩
 conv => whnf
 refine vIfB h (fun h => ?_) (fun h => ?_)
 conv => whnf
 refine vBind h (fun isNet0 hb15 h => ?_)
 conv => whnf
 refine vIfB h (fun h => ?_) (fun h => ?_)
 conv => whnf
 refine vAt h (fun x0 he16a he16b he16x h => ?_)
 conv => whnf
 refine vBind h (fun int64_0 hb17 h => ?_)
 conv => whnf
 refine vBind h (fun within2 hb18 h => ?_)
 conv => whnf
 cases h
 exact hK
 conv => whnf
 cases h
 exact hK
 conv => whnf
 cases h
 exact hK
 conv => whnf
 refine vIfD h (fun h => ?_) (fun h => ?_)
 conv => whnf
 refine vBind h (fun isNet0 hb19 h => ?_)
 conv => whnf
 cases h
 exact hK
 conv => whnf
 cases h
 exact hK
 conv => whnf
 cases h
 exact hK
 conv => whnf
 cases h
 exact hK
theorem w_impl_IsBlock (q1 : SoundC Tryz.prog 157 c_impl_IsDesign) (q0 : SoundC Tryz.prog 102 c_impl_Design_places) (q2 : SoundC Tryz.prog 158 c_impl_IsWire) : SoundC Tryz.prog 99 c_impl_IsBlock := by
 refine fn_sound tab_ok (gam_cons q1 (gam_cons q0 (gam_cons q2 gam_nil))) mixed { loops := [(0, [.reg 32 (.dat (.int .i64)), .ent 1 (nat_lit 2) (.flat ti33.ety)]), (2, [.reg 50 (.dat (.int .i64))])], draws := [(13, [0, 0, 0, 6, 14, 31, 63], .op 0 (.op 1 (.op 2 (.op 3 (.op 4 (.alt 5 (.op 6 (.done)) (.done)))))))] } (fn := Tryz.f99) Tryz.func99 (by kernel_rfl) (by kernel_rfl) ?_
 rintro ⟨b0, ⟨⟩⟩ K ⟨r, h, hK⟩
 change impl_IsBlock b0 = some r at h
 unfold impl_IsBlock at h
 conv => whnf
 refine vBind h (fun IsDesign0 hb0 h => ?_)
 conv => whnf
 refine vNot ?_
 refine vIfB h (fun h => ?_) (fun h => ?_)
 conv => whnf
 refine vNots ?_
 refine vIfD h (fun h => ?_) (fun h => ?_)
 conv => whnf
 refine vPre h (fun hp1 h => ?_)
 conv => whnf
 refine vPre h (fun hp2 h => ?_)
 conv => whnf
 refine vPre h (fun hp3 h => ?_)
 conv => whnf
 refine vPre h (fun hp4 h => ?_)
 conv => whnf
 refine vBind h (fun places0 hb5 h => ?_)
 conv => whnf
 refine vLoop h ?_
 rintro I6 μ6 ⟨v0, l0, ⟨⟩⟩ zs6 h hI6 hR6
 change impl_IsBlock_loop1 b0 places0 v0 l0 = some zs6 at h
 unfold impl_IsBlock_loop1 at h
 conv => whnf
 refine vIfD h (fun h => ?_) (fun h => ?_)
 conv => whnf
 refine vAt h (fun x0 he7a he7b he7x h => ?_)
 conv => whnf
 refine ⟨by kernel_rfl, ?_⟩
 conv => whnf
 refine ⟨he7a, he7b, vAgain he7x ?_⟩
 conv => whnf
 refine vNots ?_
 refine vIfB h (fun h => ?_) (fun h => ?_)
 conv => whnf
 cases h
 exact ⟨⟨rfl, rfl⟩, hI6 _ rfl⟩
 conv => whnf
 refine vAt h (fun x1 he8a he8b he8x h => ?_)
 conv => whnf
 refine ⟨by kernel_rfl, ?_⟩
 conv => whnf
 refine ⟨he8a, he8b, vAgain he8x ?_⟩
 conv => whnf
 refine ⟨he8a, he8b, vAgain he8x ?_⟩
 conv => whnf
 refine ⟨by kernel_rfl, ?_⟩
 conv => whnf
 refine ⟨by decide, ?_⟩
 conv => whnf
 refine ⟨he8a, he8b, vAgain he8x ?_⟩
 conv => whnf
 cases h
 exact ⟨⟨rfl, rfl⟩, hI6 _ rfl⟩
 conv => whnf
 refine vLoop h ?_
 rintro I9 μ9 ⟨v1, ⟨⟩⟩ zs9 h hI9 hR9
 change impl_IsBlock_loop0 b0 l0 v1 = some zs9 at h
 unfold impl_IsBlock_loop0 at h
 conv => whnf
 refine vIfD h (fun h => ?_) (fun h => ?_)
 conv => whnf
 refine vAt h (fun x0 he10a he10b he10x h => ?_)
 conv => whnf
 refine ⟨by kernel_rfl, ?_⟩
 conv => whnf
 refine vAt h (fun x1 he11a he11b he11x h => ?_)
 conv => whnf
 refine ⟨by kernel_rfl, ?_⟩
 conv => whnf
 refine ⟨he11a, he11b, vAgain he11x ?_⟩
 conv => whnf
 refine vBind h (fun IsWire0 hb12 h => ?_)
 conv => whnf
 refine vNots ?_
 refine vIfB h (fun h => ?_) (fun h => ?_)
 conv => whnf
 cases h
 exact ⟨⟨rfl, rfl⟩, hI9 _ rfl⟩
 conv => whnf
 cases h
 obtain rfl := hR9 _ rfl
 obtain rfl := hR6 _ rfl
 exact hK
 conv => whnf
 cases h
 obtain rfl := hR9 _ rfl
 obtain rfl := hR6 _ rfl
 exact hK
 conv => whnf
 cases h
 exact hK
 conv => whnf
 cases h
 exact hK
theorem w_impl_IsSpan (q0 : SoundC Tryz.prog 173 c_impl_isTime) : SoundC Tryz.prog 121 c_impl_IsSpan := by
 refine fn_sound tab_ok (gam_cons q0 gam_nil) mixed {} (fn := Tryz.f121) Tryz.func121 (by kernel_rfl) (by kernel_rfl) ?_
 rintro ⟨s0, ⟨⟩⟩ K ⟨r, h, hK⟩
 change impl_IsSpan s0 = some r at h
 unfold impl_IsSpan at h
 conv => whnf
 refine vBind h (fun isTime0 hb0 h => ?_)
 conv => whnf
 refine vIfB h (fun h => ?_) (fun h => ?_)
 conv => whnf
 refine vBind h (fun isTime1 hb1 h => ?_)
 conv => whnf
 refine vIfB h (fun h => ?_) (fun h => ?_)
 conv => whnf
 cases h
 exact hK
 conv => whnf
 cases h
 exact hK
 conv => whnf
 cases h
 exact hK
theorem w_impl_IsTable (q1 : SoundC Tryz.prog 308 c_impl_isAxis) (q0 : SoundC Tryz.prog 205 c_impl_areWithin) : SoundC Tryz.prog 299 c_impl_IsTable := by
 refine fn_sound tab_ok (gam_cons q1 (gam_cons q0 gam_nil)) mixed {} (fn := Tryz.f299) Tryz.func299 (by kernel_rfl) (by kernel_rfl) ?_
 rintro ⟨t0, ⟨⟩⟩ K ⟨r, h, hK⟩
 change impl_IsTable t0 = some r at h
 unfold impl_IsTable at h
 conv => whnf
 refine vBind h (fun isAxis0 hb0 h => ?_)
 conv => whnf
 refine vIfB h (fun h => ?_) (fun h => ?_)
 conv => whnf
 refine vBind h (fun isAxis1 hb1 h => ?_)
 conv => whnf
 refine vIfB h (fun h => ?_) (fun h => ?_)
 conv => whnf
 refine vIfD h (fun h => ?_) (fun h => ?_)
 conv => whnf
 refine vBind h (fun areWithin0 hb2 h => ?_)
 conv => whnf
 cases h
 exact hK
 conv => whnf
 cases h
 exact hK
 conv => whnf
 cases h
 exact hK
 conv => whnf
 cases h
 exact hK
theorem w_impl_arePins (q2 : SoundC Tryz.prog 171 c_impl_within) (q0 : SoundC Tryz.prog 274 c_impl_length_impl_Pin) (q1 : SoundC Tryz.prog 221 c_impl_areNames) : SoundC Tryz.prog 257 c_impl_arePins := by
 refine fn_sound tab_ok (gam_cons q2 (gam_cons q0 (gam_cons q1 gam_nil))) mixed { loops := [(0, [.reg 3 (.own (.ol 9 (.flat (.str)))), .reg 8 (.dat (.int .i64))])] } (fn := Tryz.f257) Tryz.func257 (by kernel_rfl) (by kernel_rfl) ?_
 rintro ⟨list0, ⟨⟩⟩ K ⟨r, h, hK⟩
 change impl_arePins list0 = some r at h
 unfold impl_arePins at h
 conv => whnf
 refine vLoop h ?_
 rintro I0 μ0 ⟨names0, v0, ⟨⟩⟩ zs0 h hI0 hR0
 change impl_arePins_loop0 list0 names0 v0 = some zs0 at h
 unfold impl_arePins_loop0 at h
 conv => whnf
 refine vIfD h (fun h => ?_) (fun h => ?_)
 conv => whnf
 refine vAt h (fun x0 he1a he1b he1x h => ?_)
 conv => whnf
 refine vPre h (fun hp2 h => ?_)
 conv => whnf
 refine vIfD h (fun h => ?_) (fun h => ?_)
 conv => whnf
 refine vNot ?_
 refine vIfD h (fun h => ?_) (fun h => ?_)
 conv => whnf
 refine vNot ?_
 refine vIfD h (fun h => ?_) (fun h => ?_)
 conv => whnf
 refine vIfB h (fun h => ?_) (fun h => ?_)
 conv => whnf
 cases h
 obtain rfl := hR0 _ rfl
 exact hK
 conv => whnf
 cases h
 exact ⟨⟨rfl, rfl⟩, hI0 _ rfl⟩
 conv => whnf
 cases h
 obtain rfl := hR0 _ rfl
 exact hK
 conv => whnf
 cases h
 obtain rfl := hR0 _ rfl
 exact hK
 conv => whnf
 refine vNot ?_
 refine vIfD h (fun h => ?_) (fun h => ?_)
 conv => whnf
 refine vBind h (fun within0 hb3 h => ?_)
 conv => whnf
 refine vNots ?_
 refine vIfB h (fun h => ?_) (fun h => ?_)
 conv => whnf
 cases h
 exact ⟨⟨rfl, rfl⟩, hI0 _ rfl⟩
 conv => whnf
 cases h
 obtain rfl := hR0 _ rfl
 exact hK
 conv => whnf
 cases h
 obtain rfl := hR0 _ rfl
 exact hK
 conv => whnf
 refine vBind h (fun Pin0 hb4 h => ?_)
 conv => whnf
 refine vBind h (fun within0 hb5 h => ?_)
 conv => whnf
 refine vIfB h (fun h => ?_) (fun h => ?_)
 conv => whnf
 refine vBind h (fun areNames0 hb6 h => ?_)
 conv => whnf
 cases h
 obtain rfl := hR0 _ rfl
 exact hK
 conv => whnf
 cases h
 obtain rfl := hR0 _ rfl
 exact hK
theorem w_impl_areTables_c1 (q1 : SoundC Tryz.prog 299 c_impl_IsTable) (q0 : SoundC Tryz.prog 300 c_slices_Min_Sint64_int64) : SoundC Tryz.prog 298 c_impl_areTables_c1 := by
 refine fn_sound tab_ok (gam_cons q1 (gam_cons q0 gam_nil)) mixed {} (fn := Tryz.f298) Tryz.func298 (by kernel_rfl) (by kernel_rfl) ?_
 rintro ⟨t0, a0, ⟨⟩⟩ K ⟨r, h, hK⟩
 change impl_areTables_c1 t0 a0 = some r at h
 unfold impl_areTables_c1 at h
 conv => whnf
 refine vBind h (fun IsTable0 hb0 h => ?_)
 conv => whnf
 refine vNot ?_
 refine vIfB h (fun h => ?_) (fun h => ?_)
 conv => whnf
 refine vIfB h (fun h => ?_) (fun h => ?_)
 conv => whnf
 refine vBind h (fun int64_0 hb1 h => ?_)
 conv => whnf
 cases h
 exact hK
 conv => whnf
 cases h
 exact hK
 conv => whnf
 cases h
 exact hK
theorem w_impl_isCheck : SoundC Tryz.prog 287 c_impl_isCheck := by
 refine fn_sound tab_ok gam_nil mixed {} (fn := Tryz.f287) Tryz.func287 (by kernel_rfl) (by kernel_rfl) ?_
 rintro ⟨kind0, ⟨⟩⟩ K ⟨r, h, hK⟩
 change impl_isCheck kind0 = some r at h
 unfold impl_isCheck at h
 conv => whnf
 refine vIfDs h (fun h => ?_) (fun h => ?_)
 conv => whnf
 cases h
 exact hK
 conv => whnf
 cases h
 exact hK
theorem w_impl_isSlew (q0 : SoundC Tryz.prog 171 c_impl_within) : SoundC Tryz.prog 174 c_impl_isSlew := by
 refine fn_sound tab_ok (gam_cons q0 gam_nil) mixed {} (fn := Tryz.f174) Tryz.func174 (by kernel_rfl) (by kernel_rfl) ?_
 rintro ⟨n0, ⟨⟩⟩ K ⟨r, h, hK⟩
 change impl_isSlew n0 = some r at h
 unfold impl_isSlew at h
 conv => whnf
 refine vBind h (fun within0 hb0 h => ?_)
 conv => whnf
 cases h
 exact hK
theorem w_impl_length_impl_place : SoundC Tryz.prog 208 c_impl_length_impl_place := by
 refine fn_sound tab_ok gam_nil mixed {} (fn := Tryz.f208) Tryz.func208 (by kernel_rfl) (by kernel_rfl) ?_
 rintro ⟨list0, ⟨⟩⟩ K ⟨r, h, hK⟩
 change impl_length_impl_place list0 = some r at h
 unfold impl_length_impl_place at h
 conv => whnf
 cases h
 exact hK
theorem w_impl_newView (q3 : SoundC Tryz.prog 102 c_impl_Design_places) (q1 : SoundC Tryz.prog 116 c_impl_Block_cellLinks) (q4 : SoundC Tryz.prog 117 c_impl_length_int64) (q2 : SoundC Tryz.prog 118 c_impl_Block_nodeLoads) (q0 : SoundC Tryz.prog 119 c_impl_Block_exactDelays) : SoundC Tryz.prog 58 c_impl_newView := by
 refine fn_sound tabD_ok (gam_cons q3 (gam_cons q1 (gam_cons q4 (gam_cons q2 (gam_cons q0 gam_nil))))) mixed { loops := [(0, [.reg 4 (.dat (.int .i64)), .reg 25 (.dat (.int .i64)), .cello 2 6 (.ol 200 (.flat (tLink)))]), (2, [.reg 60 (.dat (.int .i64)), .ent 4 (nat_lit 2) (.flat ti33.ety), .ent 5 (nat_lit 33) (Dp.ol (2 : Go.TypeId) (Dp.flat (Ty.int IntKind.i64)))]), (4, [.reg 88 (.dat (.int .i64)), .cello 2 7 (.ol 2 (.flat (.int .i64))), .cello 2 8 (.ol 33 (.ol 2 (.flat (.int .i64)))), .cello 2 6 (.ol (nat_lit 200) (.flat tLink)), .ent 5 (nat_lit 33) (Dp.ol (2 : Go.TypeId) (Dp.flat (Ty.int IntKind.i64)))]), (6, [.reg 122 (.dat (.int .i64)), .cello 2 6 (.ol (nat_lit 200) (.flat tLink))]), (8, [.reg 127 (.dat (.int .i64)), .cello 2 6 (.ol (nat_lit 200) (.flat tLink))])], draws := [(1, [0, 0, 2, 6, 15, 31, 63], .op 0 (.op 1 (.op 2 (.alt 3 (.op 4 (.alt 5 (.op 6 (.done)) (.done))) (.done))))), (6, [0, 0, 2, 6, 14, 0, 0, 0, 224, 510, 1023, 2047, 4095], .op 0 (.op 1 (.op 2 (.op 3 (.op 4 (.op 5 (.op 6 (.op 7 (.alt 8 (.alt 9 (.op 10 (.op 11 (.alt 12 (.done) (.done)))) (.done)) (.done)))))))))), (16, [0, 0, 2, 0, 0, 16, 56, 120, 0, 256, 1016, 2047, 4095], .op 0 (.op 1 (.op 3 (.op 4 (.op 5 (.op 6 (.op 7 (.op 8 (.alt 2 (.alt 9 (.alt 10 (.op 11 (.alt 12 (.done) (.done))) (.done)) (.done)) (.alt 9 (.alt 2 (.alt 10 (.op 11 (.alt 12 (.done) (.done))) (.done)) (.alt 10 (.alt 2 (.op 11 (.alt 12 (.done) (.done))) (.done)) (.done))) (.done))))))))))), (21, [0, 0, 2, 6, 14, 0, 0, 96, 224, 480, 992, 2046, 4095, 8191, 16383], .op 0 (.op 1 (.op 2 (.op 3 (.op 4 (.op 5 (.op 6 (.alt 7 (.op 8 (.op 9 (.alt 10 (.alt 11 (.op 12 (.op 13 (.alt 14 (.done) (.done)))) (.done)) (.done)))) (.done))))))))), (22, [0, 0, 2, 6, 14, 0, 0, 96, 224, 510, 1023, 2047, 4095], .op 0 (.op 1 (.op 2 (.op 3 (.op 4 (.op 5 (.op 6 (.alt 7 (.alt 8 (.alt 9 (.op 10 (.op 11 (.alt 12 (.done) (.done)))) (.done)) (.done)) (.done))))))))), (29, [0, 0, 2, 6, 14, 0, 0, 96, 224, 480, 0, 2016, 0, 4096, 0, 28672, 0, 131040, 262112, 524286, 1048575, 2097151, 4194303], .op 0 (.op 1 (.op 2 (.op 3 (.op 4 (.op 5 (.op 6 (.op 7 (.op 8 (.op 9 (.op 10 (.op 11 (.op 12 (.op 13 (.op 14 (.op 15 (.op 16 (.op 17 (.alt 18 (.alt 19 (.op 20 (.op 21 (.alt 22 (.done) (.done)))) (.done)) (.done))))))))))))))))))))] } (fn := Tryz.f58) Tryz.func58 (by kernel_rfl) (by kernel_rfl) ?_
 rintro ⟨a0, ⟨⟩⟩ K ⟨r, h, hK⟩
 change impl_newView a0 = some r at h
 unfold impl_newView at h
 conv => whnf
 refine ⟨by kernel_rfl, ?_⟩
 conv => whnf
 refine vBind h (fun places0 hb0 h => ?_)
 conv => whnf
 refine vLoop h ?_
 rintro I1 μ1 ⟨v0, v1, c0, ⟨⟩⟩ zs1 h hI1 hR1
 change impl_newView_loop4 a0 places0 v0 v1 c0 = some zs1 at h
 unfold impl_newView_loop4 at h
 conv => whnf
 refine vIfD h (fun h => ?_) (fun h => ?_)
 conv => whnf
 refine vAt h (fun x0 he2a he2b he2x h => ?_)
 conv => whnf
 refine ⟨by kernel_rfl, ?_⟩
 conv => whnf
 refine vBind h (fun cellLinks0 hb3 h => ?_)
 conv => whnf
 refine vPre h (fun hp4 h => ?_)
 conv => whnf
 refine vBind h (fun int64_0 hb5 h => ?_)
 conv => whnf
 cases h
 exact ⟨⟨rfl, rfl⟩, hI1 _ rfl⟩
 conv => whnf
 refine vPre h (fun hp6 h => ?_)
 conv => whnf
 refine vPre h (fun hp7 h => ?_)
 conv => whnf
 refine vPre h (fun hp8 h => ?_)
 conv => whnf
 refine vPre h (fun hp9 h => ?_)
 conv => whnf
 refine ⟨hp6, ?_⟩
 conv => whnf
 refine ⟨hp7, ?_⟩
 conv => whnf
 refine ⟨hp8, ?_⟩
 conv => whnf
 refine vPre h (fun hp10 h => ?_)
 conv => whnf
 intro fp11
 conv => whnf
 refine vLoop h ?_
 rintro I12 μ12 ⟨v2, l0, l1, ⟨⟩⟩ zs12 h hI12 hR12
 change impl_newView_loop3 a0 places0 c0 v2 l0 l1 = some zs12 at h
 unfold impl_newView_loop3 at h
 conv => whnf
 intro fp13
 conv => whnf
 refine vIfD h (fun h => ?_) (fun h => ?_)
 conv => whnf
 refine vAt h (fun x0 he14a he14b he14x h => ?_)
 conv => whnf
 refine ⟨by kernel_rfl, ?_⟩
 conv => whnf
 refine ⟨he14a, he14b, vAgain he14x ?_⟩
 conv => whnf
 refine vIfB h (fun h => ?_) (fun h => ?_)
 conv => whnf
 refine vAt h (fun x1 he15a he15b he15x h => ?_)
 conv => whnf
 refine ⟨by kernel_rfl, ?_⟩
 conv => whnf
 refine ⟨by decide, ?_⟩
 conv => whnf
 refine ⟨he15a, he15b, vAgain he15x ?_⟩
 conv => whnf
 cases h
 exact ⟨⟨rfl, rfl⟩, hI12 _ rfl⟩
 conv => whnf
 refine ⟨by kernel_rfl, ?_⟩
 conv => whnf
 refine vAt h (fun x1 he16a he16b he16x h => ?_)
 conv => whnf
 refine ⟨he16a, he16b, vAgain he16x ?_⟩
 conv => whnf
 intro fp17
 conv => whnf
 refine ⟨?_, ?_⟩
 conv => whnf
 refine vPre h (fun hp18 h => ?_)
 conv => whnf
 refine ⟨he16a, he16b, vAgain he16x ?_⟩
 conv => whnf
 refine .inl ⟨rfl, ?_⟩
 conv => whnf
 cases h
 exact ⟨⟨rfl, rfl⟩, hI12 _ rfl⟩
 obtain ⟨hp18, h⟩ := guardE h
 conv => whnf
 refine ⟨?_, ?_⟩
 conv => whnf
 refine ⟨hp18, ?_⟩
 conv => whnf
 refine ⟨he16a, he16b, vAgain he16x ?_⟩
 conv => whnf
 refine .inl ⟨rfl, ?_⟩
 conv => whnf
 cases h
 exact ⟨⟨rfl, rfl⟩, hI12 _ rfl⟩
 conv => whnf
 refine ⟨hp18, ?_⟩
 conv => whnf
 refine ⟨he16a, he16b, vAgain he16x ?_⟩
 conv => whnf
 refine .inl ⟨rfl, ?_⟩
 conv => whnf
 cases h
 exact ⟨⟨rfl, rfl⟩, hI12 _ rfl⟩
 conv => whnf
 refine vLoop h ?_
 rintro I19 μ19 ⟨v3, c1, c2, c3, l2, ⟨⟩⟩ zs19 h hI19 hR19
 change impl_newView_loop2 a0 places0 l0 v3 c1 c2 c3 l2 = some zs19 at h
 unfold impl_newView_loop2 at h
 conv => whnf
 intro fp20
 conv => whnf
 intro fp21
 conv => whnf
 refine vIfD h (fun h => ?_) (fun h => ?_)
 conv => whnf
 refine ⟨by kernel_rfl, ?_⟩
 conv => whnf
 refine vBind h (fun nodeLoads0 hb22 h => ?_)
 conv => whnf
 refine vAt h (fun x0 he23a he23b he23x h => ?_)
 conv => whnf
 refine ⟨by kernel_rfl, ?_⟩
 conv => whnf
 refine ⟨he23a, he23b, vAgain he23x ?_⟩
 conv => whnf
 refine vPre h (fun hp24 h => ?_)
 conv => whnf
 refine ⟨by kernel_rfl, ?_⟩
 conv => whnf
 refine vBind h (fun exactDelays0 hb25 h => ?_)
 conv => whnf
 intro fp26
 conv => whnf
 refine vPre h (fun hp27 h => ?_)
 conv => whnf
 intro fp28
 conv => whnf
 refine vAt h (fun x1 he29a he29b he29x h => ?_)
 conv => whnf
 refine ⟨he29a, he29b, vAgain he29x ?_⟩
 conv => whnf
 intro fp30
 conv => whnf
 refine vLoop h ?_
 rintro I31 μ31 ⟨v4, c4, ⟨⟩⟩ zs31 h hI31 hR31
 change impl_newView_loop1 l0 v3 c1 c2 l2 x0 exactDelays0 x1 v4 c4 = some zs31 at h
 unfold impl_newView_loop1 at h
 conv => whnf
 refine vIfD h (fun h => ?_) (fun h => ?_)
 conv => whnf
 refine vAt h (fun x2 he32a he32b he32x h => ?_)
 conv => whnf
 refine ⟨by kernel_rfl, ?_⟩
 conv => whnf
 refine ⟨he32a, he32b, vAgain he32x ?_⟩
 conv => whnf
 refine vLoop h ?_
 rintro I33 μ33 ⟨v5, c5, ⟨⟩⟩ zs33 h hI33 hR33
 change impl_newView_loop0 l0 v3 v4 x2 v5 c5 = some zs33 at h
 unfold impl_newView_loop0 at h
 conv => whnf
 refine vIfD h (fun h => ?_) (fun h => ?_)
 conv => whnf
 refine ⟨by kernel_rfl, ?_⟩
 conv => whnf
 refine vAt h (fun x3 he34a he34b he34x h => ?_)
 conv => whnf
 refine ⟨by kernel_rfl, ?_⟩
 conv => whnf
 refine ⟨he34a, he34b, vAgain he34x ?_⟩
 conv => whnf
 refine vPre h (fun hp35 h => ?_)
 conv => whnf
 cases h
 exact ⟨⟨rfl, rfl⟩, hI33 _ rfl⟩
 conv => whnf
 cases h
 obtain rfl := hR33 _ rfl
 exact ⟨⟨rfl, rfl⟩, hI31 _ rfl⟩
 conv => whnf
 cases h
 obtain rfl := hR31 _ rfl
 exact ⟨⟨rfl, rfl⟩, hI19 _ rfl⟩
 conv => whnf
 cases h
 obtain rfl := hR19 _ rfl
 obtain rfl := hR12 _ rfl
 obtain rfl := hR1 _ rfl
 exact hK
theorem w_impl_view_isNode (q0 : SoundC Tryz.prog 172 c_impl_view_nodes) (q1 : SoundC Tryz.prog 171 c_impl_within) : SoundC Tryz.prog 120 c_impl_view_isNode := by
 refine fn_sound tab_ok (gam_cons q0 (gam_cons q1 gam_nil)) mixed {} (fn := Tryz.f120) Tryz.func120 (by kernel_rfl) (by kernel_rfl) ?_
 rintro ⟨v0, node0, ⟨⟩⟩ K ⟨r, h, hK⟩
 change impl_view_isNode v0 node0 = some r at h
 unfold impl_view_isNode at h
 conv => whnf
 refine vBind h (fun nodes0 hb0 h => ?_)
 conv => whnf
 refine vBind h (fun within0 hb1 h => ?_)
 conv => whnf
 cases h
 exact hK
theorem w_laws_eqBlock (q0 : SoundC Tryz.prog 47 c_laws_eqLibrary) (q1 : SoundC Tryz.prog 48 c_laws_eqDesign) (q2 : SoundC Tryz.prog 49 c_laws_eqWireS) : SoundC Tryz.prog 13 c_laws_eqBlock := by
 refine fn_sound tab_ok (gam_cons q0 (gam_cons q1 (gam_cons q2 gam_nil))) mixed {} (fn := Tryz.f13) Tryz.func13 (by kernel_rfl) (by kernel_rfl) ?_
 rintro ⟨a0, b0, ⟨⟩⟩ K ⟨r, h, hK⟩
 change laws_eqBlock a0 b0 = some r at h
 unfold laws_eqBlock at h
 conv => whnf
 refine vBind h (fun eqLibrary0 hb0 h => ?_)
 conv => whnf
 refine vNots ?_
 refine vIfB h (fun h => ?_) (fun h => ?_)
 conv => whnf
 refine vBind h (fun eqDesign0 hb1 h => ?_)
 conv => whnf
 refine vNots ?_
 refine vIfB h (fun h => ?_) (fun h => ?_)
 conv => whnf
 refine vBind h (fun eqWireS0 hb2 h => ?_)
 conv => whnf
 refine vNots ?_
 refine vIfB h (fun h => ?_) (fun h => ?_)
 conv => whnf
 cases h
 exact hK
 conv => whnf
 cases h
 exact hK
 conv => whnf
 cases h
 exact hK
 conv => whnf
 cases h
 exact hK
theorem w_laws_eqPin : SoundC Tryz.prog 247 c_laws_eqPin := by
 refine fn_sound tab_ok gam_nil mixed {} (fn := Tryz.f247) Tryz.func247 (by kernel_rfl) (by kernel_rfl) ?_
 rintro ⟨a0, b0, ⟨⟩⟩ K ⟨r, h, hK⟩
 change laws_eqPin a0 b0 = some r at h
 unfold laws_eqPin at h
 conv => whnf
 refine vNots ?_
 refine vIfD h (fun h => ?_) (fun h => ?_)
 conv => whnf
 refine vNots ?_
 refine vIfD h (fun h => ?_) (fun h => ?_)
 conv => whnf
 refine vNots ?_
 refine vIfD h (fun h => ?_) (fun h => ?_)
 conv => whnf
 refine vNots ?_
 refine vIfB h (fun h => ?_) (fun h => ?_)
 conv => whnf
 cases h
 exact hK
 conv => whnf
 cases h
 exact hK
 conv => whnf
 cases h
 exact hK
 conv => whnf
 cases h
 exact hK
 conv => whnf
 cases h
 exact hK
theorem w_laws_eqTable (q0 : SoundC Tryz.prog 12 c_laws_eqInt64S) : SoundC Tryz.prog 285 c_laws_eqTable := by
 refine fn_sound tab_ok (gam_cons q0 gam_nil) mixed {} (fn := Tryz.f285) Tryz.func285 (by kernel_rfl) (by kernel_rfl) ?_
 rintro ⟨a0, b0, ⟨⟩⟩ K ⟨r, h, hK⟩
 change laws_eqTable a0 b0 = some r at h
 unfold laws_eqTable at h
 conv => whnf
 refine vBind h (fun eqInt64S0 hb0 h => ?_)
 conv => whnf
 refine vNots ?_
 refine vIfB h (fun h => ?_) (fun h => ?_)
 conv => whnf
 refine vBind h (fun eqInt64S1 hb1 h => ?_)
 conv => whnf
 refine vNots ?_
 refine vIfB h (fun h => ?_) (fun h => ?_)
 conv => whnf
 refine vBind h (fun eqInt64S2 hb2 h => ?_)
 conv => whnf
 refine vNots ?_
 refine vIfB h (fun h => ?_) (fun h => ?_)
 conv => whnf
 cases h
 exact hK
 conv => whnf
 cases h
 exact hK
 conv => whnf
 cases h
 exact hK
 conv => whnf
 cases h
 exact hK
theorem w_laws_eqWireS (q0 : SoundC Tryz.prog 50 c_laws_eqWire) : SoundC Tryz.prog 49 c_laws_eqWireS := by
 refine fn_sound tab_ok (gam_cons q0 gam_nil) mixed { loops := [(0, [.reg 5 (.dat (.int .i64))])], draws := [(6, [0, 0, 3, 7, 0, 0, 48, 112, 255, 511], .op 0 (.op 1 (.op 2 (.op 3 (.op 4 (.op 5 (.op 6 (.op 7 (.alt 8 (.op 9 (.done)) (.done))))))))))] } (fn := Tryz.f49) Tryz.func49 (by kernel_rfl) (by kernel_rfl) ?_
 rintro ⟨a0, b0, ⟨⟩⟩ K ⟨r, h, hK⟩
 change laws_eqWireS a0 b0 = some r at h
 unfold laws_eqWireS at h
 conv => whnf
 refine vNots ?_
 refine vIfD h (fun h => ?_) (fun h => ?_)
 conv => whnf
 refine vLoop h ?_
 rintro I0 μ0 ⟨i0, ⟨⟩⟩ zs0 h hI0 hR0
 change laws_eqWireS_loop0 a0 b0 i0 = some zs0 at h
 unfold laws_eqWireS_loop0 at h
 conv => whnf
 refine vIfD h (fun h => ?_) (fun h => ?_)
 conv => whnf
 refine ⟨by kernel_rfl, ?_⟩
 conv => whnf
 refine vAt h (fun x0 he1a he1b he1x h => ?_)
 conv => whnf
 refine vAt h (fun x1 he2a he2b he2x h => ?_)
 conv => whnf
 refine vBind h (fun eqWire0 hb3 h => ?_)
 conv => whnf
 refine vNots ?_
 refine vIfB h (fun h => ?_) (fun h => ?_)
 conv => whnf
 cases h
 exact ⟨⟨rfl, rfl⟩, hI0 _ rfl⟩
 conv => whnf
 cases h
 obtain rfl := hR0 _ rfl
 exact hK
 conv => whnf
 cases h
 obtain rfl := hR0 _ rfl
 exact hK
 conv => whnf
 cases h
 exact hK
theorem w_laws_markEdit (q0 : SoundC Tryz.prog 54 c_laws_markWire) : SoundC Tryz.prog 16 c_laws_markEdit := by
 refine fn_sound tabD_ok (gam_cons q0 gam_nil) mixed {} (fn := Tryz.f16) Tryz.func16 (by kernel_rfl) (by kernel_rfl) ?_
 rintro ⟨a0, k0, ⟨⟩⟩ K ⟨r, h, hK⟩
 change laws_markEdit a0 k0 = some r at h
 unfold laws_markEdit at h
 conv => whnf
 refine vBind h (fun markWire0 hb0 h => ?_)
 conv => whnf
 cases h
 exact hK
theorem w_laws_markLibrary (q0 : SoundC Tryz.prog 107 c_laws_markCellS) : SoundC Tryz.prog 51 c_laws_markLibrary := by
 refine fn_sound tabD_ok (gam_cons q0 gam_nil) mixed {} (fn := Tryz.f51) Tryz.func51 (by kernel_rfl) (by kernel_rfl) ?_
 rintro ⟨a0, k0, ⟨⟩⟩ K ⟨r, h, hK⟩
 change laws_markLibrary a0 k0 = some r at h
 unfold laws_markLibrary at h
 conv => whnf
 intro fp0
 conv => whnf
 refine vBind h (fun markCellS0 hb1 h => ?_)
 conv => whnf
 intro fp2
 conv => whnf
 cases h
 exact hK
theorem w_laws_markPortS (q0 : SoundC Tryz.prog 141 c_laws_markText) : SoundC Tryz.prog 110 c_laws_markPortS := by
 refine fn_sound tabD_ok (gam_cons q0 gam_nil) mixed { loops := [(0, [.reg 1 (.dat (.int .i64)), .reg 5 (.dat (.int .i64)), .ent 0 (nat_lit 256) (.flat tPort)])] } (fn := Tryz.f110) Tryz.func110 (by kernel_rfl) (by kernel_rfl) ?_
 rintro ⟨a0, k0, ⟨⟩⟩ K ⟨r, h, hK⟩
 change laws_markPortS a0 k0 = some r at h
 unfold laws_markPortS at h
 conv => whnf
 refine vLoop h ?_
 rintro I0 μ0 ⟨k1, i0, l0, ⟨⟩⟩ zs0 h hI0 hR0
 change laws_markPortS_loop0 k1 i0 l0 = some zs0 at h
 unfold laws_markPortS_loop0 at h
 conv => whnf
 refine vIfD h (fun h => ?_) (fun h => ?_)
 conv => whnf
 refine vBind h (fun markText0 hb1 h => ?_)
 conv => whnf
 refine vAt h (fun x0 he2a he2b he2x h => ?_)
 conv => whnf
 refine ⟨by kernel_rfl, ?_⟩
 conv => whnf
 refine ⟨by decide, ?_⟩
 conv => whnf
 refine ⟨he2a, he2b, vAgain he2x ?_⟩
 conv => whnf
 refine vAt h (fun x1 he3a he3b he3x h => ?_)
 conv => whnf
 refine ⟨by kernel_rfl, ?_⟩
 conv => whnf
 refine ⟨by decide, ?_⟩
 conv => whnf
 refine ⟨he3a, he3b, vAgain he3x ?_⟩
 conv => whnf
 refine vAt h (fun x2 he4a he4b he4x h => ?_)
 conv => whnf
 refine ⟨by kernel_rfl, ?_⟩
 conv => whnf
 refine ⟨by decide, ?_⟩
 conv => whnf
 refine ⟨he4a, he4b, vAgain he4x ?_⟩
 conv => whnf
 cases h
 exact ⟨⟨rfl, rfl⟩, hI0 _ rfl⟩
 conv => whnf
 cases h
 obtain rfl := hR0 _ rfl
 exact hK
theorem w_laws_markSourceS : SoundC Tryz.prog 24 c_laws_markSourceS := by
 refine fn_sound tabD_ok gam_nil mixed { loops := [(0, [.reg 1 (.dat (.int .i64)), .reg 5 (.dat (.int .i64)), .ent 0 (nat_lit 120) (.flat tSource)])] } (fn := Tryz.f24) Tryz.func24 (by kernel_rfl) (by kernel_rfl) ?_
 rintro ⟨a0, k0, ⟨⟩⟩ K ⟨r, h, hK⟩
 change laws_markSourceS a0 k0 = some r at h
 unfold laws_markSourceS at h
 conv => whnf
 refine vLoop h ?_
 rintro I0 μ0 ⟨k1, i0, l0, ⟨⟩⟩ zs0 h hI0 hR0
 change laws_markSourceS_loop0 k1 i0 l0 = some zs0 at h
 unfold laws_markSourceS_loop0 at h
 conv => whnf
 refine vIfD h (fun h => ?_) (fun h => ?_)
 conv => whnf
 refine vAt h (fun x0 he1a he1b he1x h => ?_)
 conv => whnf
 refine ⟨by kernel_rfl, ?_⟩
 conv => whnf
 refine ⟨by decide, ?_⟩
 conv => whnf
 refine ⟨he1a, he1b, vAgain he1x ?_⟩
 conv => whnf
 refine vAt h (fun x1 he2a he2b he2x h => ?_)
 conv => whnf
 refine ⟨by kernel_rfl, ?_⟩
 conv => whnf
 refine ⟨by decide, ?_⟩
 conv => whnf
 refine ⟨he2a, he2b, vAgain he2x ?_⟩
 conv => whnf
 refine vAt h (fun x2 he3a he3b he3x h => ?_)
 conv => whnf
 refine ⟨by kernel_rfl, ?_⟩
 conv => whnf
 refine ⟨by decide, ?_⟩
 conv => whnf
 refine ⟨he3a, he3b, vAgain he3x ?_⟩
 conv => whnf
 refine vAt h (fun x3 he4a he4b he4x h => ?_)
 conv => whnf
 refine ⟨by kernel_rfl, ?_⟩
 conv => whnf
 refine ⟨by decide, ?_⟩
 conv => whnf
 refine ⟨he4a, he4b, vAgain he4x ?_⟩
 conv => whnf
 refine vAt h (fun x4 he5a he5b he5x h => ?_)
 conv => whnf
 refine ⟨by kernel_rfl, ?_⟩
 conv => whnf
 refine ⟨by decide, ?_⟩
 conv => whnf
 refine ⟨he5a, he5b, vAgain he5x ?_⟩
 conv => whnf
 cases h
 exact ⟨⟨rfl, rfl⟩, hI0 _ rfl⟩
 conv => whnf
 cases h
 obtain rfl := hR0 _ rfl
 exact hK
theorem w_laws_szCellS (q0 : SoundC Tryz.prog 142 c_laws_szCell) : SoundC Tryz.prog 84 c_laws_szCellS := by
 refine fn_sound tab_ok (gam_cons q0 gam_nil) mixed { loops := [(0, [.reg 1 (.dat (.int .i64)), .reg 5 (.dat (.int .i64))])] } (fn := Tryz.f84) Tryz.func84 (by kernel_rfl) (by kernel_rfl) ?_
 rintro ⟨a0, left0, ⟨⟩⟩ K ⟨r, h, hK⟩
 change laws_szCellS a0 left0 = some r at h
 unfold laws_szCellS at h
 conv => whnf
 refine vIfD h (fun h => ?_) (fun h => ?_)
 conv => whnf
 cases h
 exact hK
 conv => whnf
 refine vLoop h ?_
 rintro I0 μ0 ⟨left1, i0, ⟨⟩⟩ zs0 h hI0 hR0
 change laws_szCellS_loop0 a0 left1 i0 = some zs0 at h
 unfold laws_szCellS_loop0 at h
 conv => whnf
 refine vIfD h (fun h => ?_) (fun h => ?_)
 conv => whnf
 refine vAt h (fun x0 he1a he1b he1x h => ?_)
 conv => whnf
 refine vBind h (fun szCell0 hb2 h => ?_)
 conv => whnf
 refine vIfD h (fun h => ?_) (fun h => ?_)
 conv => whnf
 cases h
 obtain rfl := hR0 _ rfl
 exact hK
 conv => whnf
 cases h
 exact ⟨⟨rfl, rfl⟩, hI0 _ rfl⟩
 conv => whnf
 cases h
 obtain rfl := hR0 _ rfl
 exact hK
theorem w_laws_szInstance (q0 : SoundC Tryz.prog 88 c_laws_szInt64S) : SoundC Tryz.prog 143 c_laws_szInstance := by
 refine fn_sound tab_ok (gam_cons q0 gam_nil) mixed {} (fn := Tryz.f143) Tryz.func143 (by kernel_rfl) (by kernel_rfl) ?_
 rintro ⟨a0, left0, ⟨⟩⟩ K ⟨r, h, hK⟩
 change laws_szInstance a0 left0 = some r at h
 unfold laws_szInstance at h
 conv => whnf
 refine vIfD h (fun h => ?_) (fun h => ?_)
 conv => whnf
 cases h
 exact hK
 conv => whnf
 refine vBind h (fun szInt64S0 hb0 h => ?_)
 conv => whnf
 refine vIfD h (fun h => ?_) (fun h => ?_)
 conv => whnf
 cases h
 exact hK
 conv => whnf
 cases h
 exact hK
theorem w_laws_toCell (q1 : SoundC Tryz.prog 196 c_laws_toPinS) (q2 : SoundC Tryz.prog 197 c_laws_toArcS) (q0 : SoundC Tryz.prog 98 c_laws_toInt64S) : SoundC Tryz.prog 154 c_laws_toCell := by
 refine fn_sound tabD_ok (gam_cons q1 (gam_cons q2 (gam_cons q0 gam_nil))) mixed {} (fn := Tryz.f154) Tryz.func154 (by kernel_rfl) (by kernel_rfl) ?_
 rintro ⟨a0, ⟨⟩⟩ K ⟨r, h, hK⟩
 change laws_toCell a0 = some r at h
 unfold laws_toCell at h
 conv => whnf
 refine vBind h (fun toPinS0 hb0 h => ?_)
 conv => whnf
 refine vBind h (fun toArcS0 hb1 h => ?_)
 conv => whnf
 intro fp2
 conv => whnf
 refine vBind h (fun toInt64S0 hb3 h => ?_)
 conv => whnf
 cases h
 exact hK
theorem w_laws_toInt64S : SoundC Tryz.prog 98 c_laws_toInt64S := by
 refine fn_sound tab_ok gam_nil mixed { loops := [(0, [.reg 4 (.dat (.int .i64)), .ent 0 (nat_lit 2) (.flat ti33.ety)])] } (fn := Tryz.f98) Tryz.func98 (by kernel_rfl) (by kernel_rfl) ?_
 rintro ⟨a0, ⟨⟩⟩ K ⟨r, h, hK⟩
 change laws_toInt64S a0 = some r at h
 unfold laws_toInt64S at h
 conv => whnf
 refine vPre h (fun hp0 h => ?_)
 conv => whnf
 refine vPre h (fun hp1 h => ?_)
 conv => whnf
 refine vPre h (fun hp2 h => ?_)
 conv => whnf
 refine vPre h (fun hp3 h => ?_)
 conv => whnf
 refine vLoop h ?_
 rintro I4 μ4 ⟨i0, l0, ⟨⟩⟩ zs4 h hI4 hR4
 change laws_toInt64S_loop0 a0 i0 l0 = some zs4 at h
 unfold laws_toInt64S_loop0 at h
 conv => whnf
 refine vIfD h (fun h => ?_) (fun h => ?_)
 conv => whnf
 refine vAt h (fun x0 he5a he5b he5x h => ?_)
 conv => whnf
 refine vAt h (fun x1 he6a he6b he6x h => ?_)
 conv => whnf
 refine ⟨by kernel_rfl, ?_⟩
 conv => whnf
 refine ⟨by decide, ?_⟩
 conv => whnf
 refine ⟨he6a, he6b, vAgain he6x ?_⟩
 conv => whnf
 cases h
 exact ⟨⟨rfl, rfl⟩, hI4 _ rfl⟩
 conv => whnf
 cases h
 obtain rfl := hR4 _ rfl
 exact hK
theorem w_laws_toPort : SoundC Tryz.prog 156 c_laws_toPort := by
 refine fn_sound tab_ok gam_nil mixed {} (fn := Tryz.f156) Tryz.func156 (by kernel_rfl) (by kernel_rfl) ?_
 rintro ⟨a0, ⟨⟩⟩ K ⟨r, h, hK⟩
 change laws_toPort a0 = some r at h
 unfold laws_toPort at h
 conv => whnf
 cases h
 exact hK
theorem w_laws_toSourceS (q0 : SoundC Tryz.prog 57 c_laws_toSource) : SoundC Tryz.prog 21 c_laws_toSourceS := by
 refine fn_sound tab_ok (gam_cons q0 gam_nil) mixed { loops := [(0, [.reg 4 (.dat (.int .i64)), .ent 0 (nat_lit 120) (.flat ti66.ety)])] } (fn := Tryz.f21) Tryz.func21 (by kernel_rfl) (by kernel_rfl) ?_
 rintro ⟨a0, ⟨⟩⟩ K ⟨r, h, hK⟩
 change laws_toSourceS a0 = some r at h
 unfold laws_toSourceS at h
 conv => whnf
 refine vPre h (fun hp0 h => ?_)
 conv => whnf
 refine vPre h (fun hp1 h => ?_)
 conv => whnf
 refine vPre h (fun hp2 h => ?_)
 conv => whnf
 refine vPre h (fun hp3 h => ?_)
 conv => whnf
 refine vLoop h ?_
 rintro I4 μ4 ⟨i0, l0, ⟨⟩⟩ zs4 h hI4 hR4
 change laws_toSourceS_loop0 a0 i0 l0 = some zs4 at h
 unfold laws_toSourceS_loop0 at h
 conv => whnf
 refine vIfD h (fun h => ?_) (fun h => ?_)
 conv => whnf
 refine vAt h (fun x0 he5a he5b he5x h => ?_)
 conv => whnf
 refine vBind h (fun toSource0 hb6 h => ?_)
 conv => whnf
 refine vAt h (fun x1 he7a he7b he7x h => ?_)
 conv => whnf
 refine ⟨by kernel_rfl, ?_⟩
 conv => whnf
 refine ⟨by decide, ?_⟩
 conv => whnf
 refine ⟨he7a, he7b, vAgain he7x ?_⟩
 conv => whnf
 cases h
 exact ⟨⟨rfl, rfl⟩, hI4 _ rfl⟩
 conv => whnf
 cases h
 obtain rfl := hR4 _ rfl
 exact hK
theorem w_slices_Contains_Sstring_string (q0 : SoundC Tryz.prog 246 c_slices_Index_Sstring_string) : SoundC Tryz.prog 250 c_slices_Contains_Sstring_string := by
 refine fn_sound tab_ok (gam_cons q0 gam_nil) mixed {} (fn := Tryz.f250) Tryz.func250 (by kernel_rfl) (by kernel_rfl) ?_
 rintro ⟨s0, v0, ⟨⟩⟩ K ⟨r, h, hK⟩
 change slices_Contains_Sstring_string s0 v0 = some r at h
 unfold slices_Contains_Sstring_string at h
 conv => whnf
 refine vBind h (fun string0 hb0 h => ?_)
 conv => whnf
 cases h
 exact hK
theorem w_slices_IndexFunc_Simpl_Arc_impl_Arc_at_impl_Cell_areArcs_c1 (q0 : SoundC Tryz.prog 277 c_impl_Cell_areArcs_c1) : SoundC Tryz.prog 291 c_slices_IndexFunc_Simpl_Arc_impl_Arc_at_impl_Cell_areArcs_c1 := by
 refine fn_sound tab_ok (gam_cons q0 gam_nil) mixed { loops := [(0, [.reg 8 (.dat (.int .i64))])] } (fn := Tryz.f291) Tryz.func291 (by kernel_rfl) (by kernel_rfl) ?_
 rintro ⟨s0, f0, ⟨⟩⟩ K ⟨r, h, hK⟩
 change slices_IndexFunc_Simpl_Arc_impl_Arc_at_impl_Cell_areArcs_c1 s0 f0 = some r at h
 unfold slices_IndexFunc_Simpl_Arc_impl_Arc_at_impl_Cell_areArcs_c1 at h
 conv => whnf
 refine vLoop h ?_
 rintro I0 μ0 ⟨v0, ⟨⟩⟩ zs0 h hI0 hR0
 change slices_IndexFunc_Simpl_Arc_impl_Arc_at_impl_Cell_areArcs_c1_loop0 s0 f0 v0 = some zs0 at h
 unfold slices_IndexFunc_Simpl_Arc_impl_Arc_at_impl_Cell_areArcs_c1_loop0 at h
 conv => whnf
 refine vIfD h (fun h => ?_) (fun h => ?_)
 conv => whnf
 refine vAt h (fun x0 he1a he1b he1x h => ?_)
 conv => whnf
 refine vBind h (fun c1_0 hb2 h => ?_)
 conv => whnf
 refine vIfB h (fun h => ?_) (fun h => ?_)
 conv => whnf
 cases h
 obtain rfl := hR0 _ rfl
 exact hK
 conv => whnf
 cases h
 exact ⟨⟨rfl, rfl⟩, hI0 _ rfl⟩
 conv => whnf
 cases h
 obtain rfl := hR0 _ rfl
 exact hK
theorem w_slices_IndexFunc_Simpl_Arc_impl_Arc_at_impl_Cell_has_c1 (q0 : SoundC Tryz.prog 292 c_impl_Cell_has_c1) : SoundC Tryz.prog 291 c_slices_IndexFunc_Simpl_Arc_impl_Arc_at_impl_Cell_has_c1 := by
 refine fn_sound tab_ok (gam_cons q0 gam_nil) mixed { loops := [(0, [.reg 8 (.dat (.int .i64))])] } (fn := Tryz.f291) Tryz.func291 (by kernel_rfl) (by kernel_rfl) ?_
 rintro ⟨s0, f0, ⟨⟩⟩ K ⟨r, h, hK⟩
 change slices_IndexFunc_Simpl_Arc_impl_Arc_at_impl_Cell_has_c1 s0 f0 = some r at h
 unfold slices_IndexFunc_Simpl_Arc_impl_Arc_at_impl_Cell_has_c1 at h
 conv => whnf
 refine vLoop h ?_
 rintro I0 μ0 ⟨v0, ⟨⟩⟩ zs0 h hI0 hR0
 change slices_IndexFunc_Simpl_Arc_impl_Arc_at_impl_Cell_has_c1_loop0 s0 f0 v0 = some zs0 at h
 unfold slices_IndexFunc_Simpl_Arc_impl_Arc_at_impl_Cell_has_c1_loop0 at h
 conv => whnf
 refine vIfD h (fun h => ?_) (fun h => ?_)
 conv => whnf
 refine vAt h (fun x0 he1a he1b he1x h => ?_)
 conv => whnf
 refine vBind h (fun c1_0 hb2 h => ?_)
 conv => whnf
 refine vIfB h (fun h => ?_) (fun h => ?_)
 conv => whnf
 cases h
 obtain rfl := hR0 _ rfl
 exact hK
 conv => whnf
 cases h
 exact ⟨⟨rfl, rfl⟩, hI0 _ rfl⟩
 conv => whnf
 cases h
 obtain rfl := hR0 _ rfl
 exact hK
theorem w_spec_IsTable (q0 : SoundC Tryz.prog 306 c_spec_l02Axis) (q1 : SoundC Tryz.prog 112 c_spec_l01In) : SoundC Tryz.prog 296 c_spec_IsTable := by
 refine fn_sound tab_ok (gam_cons q0 (gam_cons q1 gam_nil)) mixed { loops := [(0, [.reg 3 (.dat (.int .i64))])] } (fn := Tryz.f296) Tryz.func296 (by kernel_rfl) (by kernel_rfl) ?_
 rintro ⟨t0, ⟨⟩⟩ K ⟨r, h, hK⟩
 change spec_IsTable t0 = some r at h
 unfold spec_IsTable at h
 conv => whnf
 refine vBind h (fun l02Axis0 hb0 h => ?_)
 conv => whnf
 refine vNot ?_
 refine vIfB h (fun h => ?_) (fun h => ?_)
 conv => whnf
 refine vBind h (fun l02Axis1 hb1 h => ?_)
 conv => whnf
 refine vNot ?_
 refine vIfB h (fun h => ?_) (fun h => ?_)
 conv => whnf
 refine vNots ?_
 refine vIfD h (fun h => ?_) (fun h => ?_)
 conv => whnf
 refine vLoop h ?_
 rintro I2 μ2 ⟨i0, ⟨⟩⟩ zs2 h hI2 hR2
 change spec_IsTable_loop0 t0 i0 = some zs2 at h
 unfold spec_IsTable_loop0 at h
 conv => whnf
 refine vIfD h (fun h => ?_) (fun h => ?_)
 conv => whnf
 refine vAt h (fun x0 he3a he3b he3x h => ?_)
 conv => whnf
 refine vBind h (fun l01In0 hb4 h => ?_)
 conv => whnf
 refine vNots ?_
 refine vIfB h (fun h => ?_) (fun h => ?_)
 conv => whnf
 cases h
 exact ⟨⟨rfl, rfl⟩, hI2 _ rfl⟩
 conv => whnf
 cases h
 obtain rfl := hR2 _ rfl
 exact hK
 conv => whnf
 cases h
 obtain rfl := hR2 _ rfl
 exact hK
 conv => whnf
 cases h
 exact hK
 conv => whnf
 cases h
 exact hK
 conv => whnf
 cases h
 exact hK
theorem w_spec_l02Axis (q0 : SoundC Tryz.prog 112 c_spec_l01In) : SoundC Tryz.prog 306 c_spec_l02Axis := by
 refine fn_sound tab_ok (gam_cons q0 gam_nil) mixed { loops := [(0, [.reg 3 (.dat (.int .i64))])], draws := [(4, [0, 0, 3, 7, 15, 31, 63, 127, 255, 511, 1023, 1023, 3071, 8191, 16383, 1023, 1023, 99327, 230399, 524287, 1048575, 2097151], .op 0 (.op 1 (.op 2 (.op 3 (.alt 4 (.op 5 (.op 6 (.op 7 (.op 8 (.op 9 (.op 10 (.op 11 (.op 12 (.op 13 (.op 14 (.op 15 (.op 16 (.op 17 (.op 18 (.op 19 (.op 20 (.op 21 (.done)))))))))))))))))) (.done))))))] } (fn := Tryz.f306) Tryz.func306 (by kernel_rfl) (by kernel_rfl) ?_
 rintro ⟨list0, ⟨⟩⟩ K ⟨r, h, hK⟩
 change spec_l02Axis list0 = some r at h
 unfold spec_l02Axis at h
 conv => whnf
 refine vLoop h ?_
 rintro I0 μ0 ⟨i0, ⟨⟩⟩ zs0 h hI0 hR0
 change spec_l02Axis_loop0 list0 i0 = some zs0 at h
 unfold spec_l02Axis_loop0 at h
 conv => whnf
 refine vIfD h (fun h => ?_) (fun h => ?_)
 conv => whnf
 refine ⟨by kernel_rfl, ?_⟩
 conv => whnf
 refine vAt h (fun x0 he1a he1b he1x h => ?_)
 conv => whnf
 refine vBind h (fun l01In0 hb2 h => ?_)
 conv => whnf
 refine vNot ?_
 refine vIfB h (fun h => ?_) (fun h => ?_)
 conv => whnf
 refine vIfD h (fun h => ?_) (fun h => ?_)
 conv => whnf
 refine vAt h (fun x1 he3a he3b he3x h => ?_)
 conv => whnf
 refine ⟨he1a, he1b, vAgain he1x ?_⟩
 conv => whnf
 refine vIfD h (fun h => ?_) (fun h => ?_)
 conv => whnf
 cases h
 obtain rfl := hR0 _ rfl
 exact hK
 conv => whnf
 cases h
 exact ⟨⟨rfl, rfl⟩, hI0 _ rfl⟩
 conv => whnf
 cases h
 exact ⟨⟨rfl, rfl⟩, hI0 _ rfl⟩
 conv => whnf
 cases h
 obtain rfl := hR0 _ rfl
 exact hK
 conv => whnf
 refine vIfD h (fun h => ?_) (fun h => ?_)
 conv => whnf
 cases h
 obtain rfl := hR0 _ rfl
 exact hK
 conv => whnf
 cases h
 obtain rfl := hR0 _ rfl
 exact hK
theorem w_spec_l05Names (q0 : SoundC Tryz.prog 150 c_spec_l03Name) : SoundC Tryz.prog 193 c_spec_l05Names := by
 refine fn_sound tab_ok (gam_cons q0 gam_nil) mixed { loops := [(0, [.reg 3 (.dat (.int .i64))]), (2, [.reg 4 (.dat (.int .i64))])], draws := [(9, [0, 0, 3, 7, 0, 0, 48, 112, 255], .op 0 (.op 1 (.op 2 (.op 3 (.op 4 (.op 5 (.op 6 (.op 7 (.op 8 (.done))))))))))] } (fn := Tryz.f193) Tryz.func193 (by kernel_rfl) (by kernel_rfl) ?_
 rintro ⟨list0, ⟨⟩⟩ K ⟨r, h, hK⟩
 change spec_l05Names list0 = some r at h
 unfold spec_l05Names at h
 conv => whnf
 refine vLoop h ?_
 rintro I0 μ0 ⟨i0, ⟨⟩⟩ zs0 h hI0 hR0
 change spec_l05Names_loop1 list0 i0 = some zs0 at h
 unfold spec_l05Names_loop1 at h
 conv => whnf
 refine vIfD h (fun h => ?_) (fun h => ?_)
 conv => whnf
 refine vAt h (fun x0 he1a he1b he1x h => ?_)
 conv => whnf
 refine vBind h (fun l03Name0 hb2 h => ?_)
 conv => whnf
 refine vNots ?_
 refine vIfB h (fun h => ?_) (fun h => ?_)
 conv => whnf
 refine vLoop h ?_
 rintro I3 μ3 ⟨k0, ⟨⟩⟩ zs3 h hI3 hR3
 change spec_l05Names_loop0 list0 i0 x0 k0 = some zs3 at h
 unfold spec_l05Names_loop0 at h
 conv => whnf
 refine vIfD h (fun h => ?_) (fun h => ?_)
 conv => whnf
 refine ⟨by kernel_rfl, ?_⟩
 conv => whnf
 refine vAt h (fun x1 he4a he4b he4x h => ?_)
 conv => whnf
 refine ⟨he1a, he1b, vAgain he1x ?_⟩
 conv => whnf
 refine vIfD h (fun h => ?_) (fun h => ?_)
 conv => whnf
 cases h
 obtain rfl := hR3 _ rfl
 obtain rfl := hR0 _ rfl
 exact hK
 conv => whnf
 cases h
 exact ⟨⟨rfl, rfl⟩, hI3 _ rfl⟩
 conv => whnf
 cases h
 obtain rfl := hR3 _ rfl
 exact ⟨⟨rfl, rfl⟩, hI0 _ rfl⟩
 conv => whnf
 cases h
 obtain rfl := hR0 _ rfl
 exact hK
 conv => whnf
 cases h
 obtain rfl := hR0 _ rfl
 exact hK
theorem w_spec_l12Slews : SoundC Tryz.prog 114 c_spec_l12Slews := by
 refine fn_sound tab_ok gam_nil mixed {} (fn := Tryz.f114) Tryz.func114 (by kernel_rfl) (by kernel_rfl) ?_
 rintro ⟨s0, ⟨⟩⟩ K ⟨r, h, hK⟩
 change spec_l12Slews s0 = some r at h
 unfold spec_l12Slews at h
 conv => whnf
 refine vIfD h (fun h => ?_) (fun h => ?_)
 conv => whnf
 refine vIfD h (fun h => ?_) (fun h => ?_)
 conv => whnf
 cases h
 exact hK
 conv => whnf
 cases h
 exact hK
 conv => whnf
 cases h
 exact hK
theorem w_spec_l32Places (q0 : SoundC Tryz.prog 93 c_spec_l05Places) : SoundC Tryz.prog 40 c_spec_l32Places := by
 refine fn_sound tab_ok (gam_cons q0 gam_nil) mixed { loops := [(0, [.reg 5 (.own (.ol 2 (.flat (.int .i64)))), .reg 8 (.dat (.int .i64))])] } (fn := Tryz.f40) Tryz.func40 (by kernel_rfl) (by kernel_rfl) ?_
 rintro ⟨b0, e0, ⟨⟩⟩ K ⟨r, h, hK⟩
 change spec_l32Places b0 e0 = some r at h
 unfold spec_l32Places at h
 conv => whnf
 refine vBind h (fun l05Places0 hb0 h => ?_)
 conv => whnf
 refine vLoop h ?_
 rintro I1 μ1 ⟨out0, p0, ⟨⟩⟩ zs1 h hI1 hR1
 change spec_l32Places_loop0 b0 e0 l05Places0 out0 p0 = some zs1 at h
 unfold spec_l32Places_loop0 at h
 conv => whnf
 refine vIfD h (fun h => ?_) (fun h => ?_)
 conv => whnf
 refine vIfD h (fun h => ?_) (fun h => ?_)
 conv => whnf
 refine vIfD h (fun h => ?_) (fun h => ?_)
 conv => whnf
 refine vPre h (fun hp2 h => ?_)
 conv => whnf
 cases h
 exact ⟨⟨rfl, rfl⟩, hI1 _ rfl⟩
 conv => whnf
 refine vIfD h (fun h => ?_) (fun h => ?_)
 conv => whnf
 refine vIfD h (fun h => ?_) (fun h => ?_)
 conv => whnf
 refine vPre h (fun hp3 h => ?_)
 conv => whnf
 cases h
 exact ⟨⟨rfl, rfl⟩, hI1 _ rfl⟩
 conv => whnf
 refine vIfD h (fun h => ?_) (fun h => ?_)
 conv => whnf
 refine vIfD h (fun h => ?_) (fun h => ?_)
 conv => whnf
 refine vPre h (fun hp4 h => ?_)
 conv => whnf
 cases h
 exact ⟨⟨rfl, rfl⟩, hI1 _ rfl⟩
 conv => whnf
 refine vPre h (fun hp5 h => ?_)
 conv => whnf
 cases h
 exact ⟨⟨rfl, rfl⟩, hI1 _ rfl⟩
 conv => whnf
 refine vPre h (fun hp6 h => ?_)
 conv => whnf
 cases h
 exact ⟨⟨rfl, rfl⟩, hI1 _ rfl⟩
 conv => whnf
 refine vIfD h (fun h => ?_) (fun h => ?_)
 conv => whnf
 refine vIfD h (fun h => ?_) (fun h => ?_)
 conv => whnf
 refine vPre h (fun hp7 h => ?_)
 conv => whnf
 cases h
 exact ⟨⟨rfl, rfl⟩, hI1 _ rfl⟩
 conv => whnf
 refine vPre h (fun hp8 h => ?_)
 conv => whnf
 cases h
 exact ⟨⟨rfl, rfl⟩, hI1 _ rfl⟩
 conv => whnf
 refine vPre h (fun hp9 h => ?_)
 conv => whnf
 cases h
 exact ⟨⟨rfl, rfl⟩, hI1 _ rfl⟩
 conv => whnf
 refine vIfD h (fun h => ?_) (fun h => ?_)
 conv => whnf
 refine vIfD h (fun h => ?_) (fun h => ?_)
 conv => whnf
 refine vPre h (fun hp10 h => ?_)
 conv => whnf
 cases h
 exact ⟨⟨rfl, rfl⟩, hI1 _ rfl⟩
 conv => whnf
 refine vIfD h (fun h => ?_) (fun h => ?_)
 conv => whnf
 refine vIfD h (fun h => ?_) (fun h => ?_)
 conv => whnf
 refine vPre h (fun hp11 h => ?_)
 conv => whnf
 cases h
 exact ⟨⟨rfl, rfl⟩, hI1 _ rfl⟩
 conv => whnf
 refine vPre h (fun hp12 h => ?_)
 conv => whnf
 cases h
 exact ⟨⟨rfl, rfl⟩, hI1 _ rfl⟩
 conv => whnf
 refine vPre h (fun hp13 h => ?_)
 conv => whnf
 cases h
 exact ⟨⟨rfl, rfl⟩, hI1 _ rfl⟩
 conv => whnf
 refine vIfD h (fun h => ?_) (fun h => ?_)
 conv => whnf
 refine vIfD h (fun h => ?_) (fun h => ?_)
 conv => whnf
 refine vPre h (fun hp14 h => ?_)
 conv => whnf
 cases h
 exact ⟨⟨rfl, rfl⟩, hI1 _ rfl⟩
 conv => whnf
 refine vPre h (fun hp15 h => ?_)
 conv => whnf
 cases h
 exact ⟨⟨rfl, rfl⟩, hI1 _ rfl⟩
 conv => whnf
 refine vPre h (fun hp16 h => ?_)
 conv => whnf
 cases h
 exact ⟨⟨rfl, rfl⟩, hI1 _ rfl⟩
 conv => whnf
 cases h
 obtain rfl := hR1 _ rfl
 exact hK
theorem w_spec_l32Sources (q0 : SoundC Tryz.prog 40 c_spec_l32Places) : SoundC Tryz.prog 56 c_spec_l32Sources := by
 refine fn_sound tab_ok (gam_cons q0 gam_nil) mixed { loops := [(0, [.reg 9 (.own (.ol 120 (.flat (tSource)))), .reg 10 (.dat (.int .i64))])] } (fn := Tryz.f56) Tryz.func56 (by kernel_rfl) (by kernel_rfl) ?_
 rintro ⟨b0, e0, list0, ⟨⟩⟩ K ⟨r, h, hK⟩
 change spec_l32Sources b0 e0 list0 = some r at h
 unfold spec_l32Sources at h
 conv => whnf
 refine vBind h (fun l32Places0 hb0 h => ?_)
 conv => whnf
 refine vLoop h ?_
 rintro I1 μ1 ⟨out0, i0, ⟨⟩⟩ zs1 h hI1 hR1
 change spec_l32Sources_loop0 list0 l32Places0 out0 i0 = some zs1 at h
 unfold spec_l32Sources_loop0 at h
 conv => whnf
 refine vIfD h (fun h => ?_) (fun h => ?_)
 conv => whnf
 refine vAt h (fun x0 he2a he2b he2x h => ?_)
 conv => whnf
 refine ⟨by decide, ?_⟩
 conv => whnf
 refine vAt h (fun x1 he3a he3b he3x h => ?_)
 conv => whnf
 refine ⟨by kernel_rfl, ?_⟩
 conv => whnf
 refine ⟨he3a, he3b, vAgain he3x ?_⟩
 conv => whnf
 refine vIfD h (fun h => ?_) (fun h => ?_)
 conv => whnf
 cases h
 obtain rfl := hR1 _ rfl
 exact hK
 conv => whnf
 refine ⟨by decide, ?_⟩
 conv => whnf
 refine vPre h (fun hp4 h => ?_)
 conv => whnf
 cases h
 exact ⟨⟨rfl, rfl⟩, hI1 _ rfl⟩
 conv => whnf
 cases h
 obtain rfl := hR1 _ rfl
 exact hK
end Go.Proofs.YtaccffcigblceaaGreatDoor
