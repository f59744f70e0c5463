/-
  The functions keep their contracts, if what they call does. Printed by program.
-/
import Derived.Test.YtaccffcigblceaaGreatDoorM
import Derived.KernelRfl
namespace Go.Proofs.YtaccffcigblceaaGreatDoor
open Go Go.Sx
set_option maxRecDepth 100000
set_option linter.unusedVariables false
set_option linter.unusedSimpArgs false
theorem w148 (q0 : SoundC Tryz.prog 170 c147) : SoundC Tryz.prog 119 c148 := by
 refine fn_sound tab_ok (gam_cons q0 gam_nil) mixed { loops := [(0, [.reg 6 (.own (.ol 2 (.flat (.int .i64)))), .reg 19 (.dat (.int .i64))])] } (fn := Tryz.f119) Tryz.func119 (by kernel_rfl) (by kernel_rfl) ?_
 rintro ⟨b0, net0, ⟨⟩⟩ K ⟨r, h, hK⟩
 change impl_Block_exactDelays b0 net0 = some r at h
 unfold impl_Block_exactDelays at h
 conv => whnf
 refine vBind h (fun nodeDelays0 hb0 h => ?_)
 conv => whnf
 refine vAt h (fun x0 he1a he1b he1x h => ?_)
 conv => whnf
 refine vLoop h ?_
 rintro I2 μ2 ⟨out0, v0, ⟨⟩⟩ zs2 h hI2 hR2
 change impl_Block_exactDelays_loop0 nodeDelays0 x0 out0 v0 = some zs2 at h
 unfold impl_Block_exactDelays_loop0 at h
 conv => whnf
 refine vIfD h (fun h => ?_) (fun h => ?_)
 conv => whnf
 refine vAt h (fun x1 he3a he3b he3x h => ?_)
 conv => whnf
 refine vAt h (fun x2 he4a he4b he4x h => ?_)
 conv => whnf
 refine ⟨by kernel_rfl, ?_⟩
 conv => whnf
 refine ⟨he4a, he4b, vAgain he4x ?_⟩
 conv => whnf
 refine vPre h (fun hp5 h => ?_)
 conv => whnf
 cases h
 exact ⟨⟨rfl, rfl⟩, hI2 _ rfl⟩
 conv => whnf
 cases h
 obtain rfl := hR2 _ rfl
 exact hK
theorem w147 (q0 : SoundC Tryz.prog 118 c146) : SoundC Tryz.prog 170 c147 := by
 refine fn_sound tab_ok (gam_cons q0 gam_nil) mixed { loops := [(0, [.reg 8 (.dat (.int .i64)), .ent 3 (nat_lit 2) (.flat ti33.ety)])], draws := [(1, [0, 1, 0, 7, 15, 0, 0, 96, 0, 511, 1023], .op 0 (.op 1 (.op 2 (.op 3 (.op 4 (.op 5 (.op 6 (.alt 7 (.alt 8 (.alt 9 (.op 10 (.done)) (.done)) (.done)) (.alt 8 (.alt 7 (.alt 9 (.op 10 (.done)) (.done)) (.done)) (.done)))))))))), (6, [0, 0, 0, 0, 8, 0, 56, 120, 252, 508, 0, 1024, 0, 7168, 15360, 0, 0, 98304, 229376, 523264, 1048572, 2097151, 4194303], .op 0 (.op 1 (.op 2 (.op 3 (.op 4 (.op 5 (.op 6 (.op 7 (.op 8 (.op 9 (.op 10 (.op 11 (.op 12 (.op 13 (.op 14 (.op 15 (.op 16 (.op 17 (.op 18 (.op 19 (.op 20 (.op 21 (.alt 22 (.done) (.done))))))))))))))))))))))))] } (fn := Tryz.f170) Tryz.func170 (by kernel_rfl) (by kernel_rfl) ?_
 rintro ⟨b0, net0, ⟨⟩⟩ K ⟨r, h, hK⟩
 change impl_Block_nodeDelays b0 net0 = some r at h
 unfold impl_Block_nodeDelays at h
 conv => whnf
 refine ⟨by kernel_rfl, ?_⟩
 conv => whnf
 refine vAt h (fun x0 he0a he0b he0x h => ?_)
 conv => whnf
 refine ⟨?_, ?_⟩
 conv => whnf
 refine vBind h (fun nodeLoads0 hb1 h => ?_)
 conv => whnf
 refine vPre h (fun hp2 h => ?_)
 conv => whnf
 refine vPre h (fun hp3 h => ?_)
 conv => whnf
 refine vPre h (fun hp4 h => ?_)
 conv => whnf
 refine vPre h (fun hp5 h => ?_)
 conv => whnf
 refine vLoop h ?_
 rintro I6 μ6 ⟨i0, l0, ⟨⟩⟩ zs6 h hI6 hR6
 change impl_Block_nodeDelays_loop0 x0 nodeLoads0 i0 l0 = some zs6 at h
 unfold impl_Block_nodeDelays_loop0 at h
 conv => whnf
 refine vIfD h (fun h => ?_) (fun h => ?_)
 conv => whnf
 refine ⟨by kernel_rfl, ?_⟩
 conv => whnf
 refine vAt h (fun x1 he7a he7b he7x h => ?_)
 conv => whnf
 refine vAt h (fun x2 he8a he8b he8x h => ?_)
 conv => whnf
 refine ⟨by kernel_rfl, ?_⟩
 conv => whnf
 refine ⟨he8a, he8b, vAgain he8x ?_⟩
 conv => whnf
 refine vAt h (fun x3 he9a he9b he9x h => ?_)
 conv => whnf
 refine vAt h (fun x4 he10a he10b he10x h => ?_)
 conv => whnf
 refine ⟨by kernel_rfl, ?_⟩
 conv => whnf
 refine ⟨he10a, he10b, vAgain he10x ?_⟩
 conv => whnf
 refine vAt h (fun x5 he11a he11b he11x h => ?_)
 conv => whnf
 refine ⟨by kernel_rfl, ?_⟩
 conv => whnf
 refine ⟨by decide, ?_⟩
 conv => whnf
 refine ⟨he11a, he11b, vAgain he11x ?_⟩
 conv => whnf
 cases h
 exact ⟨⟨rfl, rfl⟩, hI6 _ rfl⟩
 conv => whnf
 cases h
 obtain rfl := hR6 _ rfl
 exact hK
 obtain ⟨nodeLoads0, hb1, h⟩ := Option.bind_eq_some_iff.1 h
 obtain ⟨hp2, h⟩ := guardE h
 obtain ⟨hp3, h⟩ := guardE h
 obtain ⟨hp4, h⟩ := guardE h
 obtain ⟨hp5, h⟩ := guardE h
 conv => whnf
 refine ⟨_, hb1, ?_⟩
 conv => whnf
 refine ⟨hp2, ?_⟩
 conv => whnf
 refine ⟨hp3, ?_⟩
 conv => whnf
 refine ⟨hp4, ?_⟩
 conv => whnf
 refine ⟨hp5, ?_⟩
 conv => whnf
 refine vLoop h ?_
 rintro I12 μ12 ⟨i0, l0, ⟨⟩⟩ zs12 h hI12 hR12
 change impl_Block_nodeDelays_loop0 x0 nodeLoads0 i0 l0 = some zs12 at h
 unfold impl_Block_nodeDelays_loop0 at h
 conv => whnf
 refine vIfD h (fun h => ?_) (fun h => ?_)
 conv => whnf
 refine ⟨by kernel_rfl, ?_⟩
 conv => whnf
 refine vAt h (fun x1 he13a he13b he13x h => ?_)
 conv => whnf
 refine vAt h (fun x2 he14a he14b he14x h => ?_)
 conv => whnf
 refine ⟨by kernel_rfl, ?_⟩
 conv => whnf
 refine ⟨he14a, he14b, vAgain he14x ?_⟩
 conv => whnf
 refine vAt h (fun x3 he15a he15b he15x h => ?_)
 conv => whnf
 refine vAt h (fun x4 he16a he16b he16x h => ?_)
 conv => whnf
 refine ⟨by kernel_rfl, ?_⟩
 conv => whnf
 refine ⟨he16a, he16b, vAgain he16x ?_⟩
 conv => whnf
 refine vAt h (fun x5 he17a he17b he17x h => ?_)
 conv => whnf
 refine ⟨by kernel_rfl, ?_⟩
 conv => whnf
 refine ⟨by decide, ?_⟩
 conv => whnf
 refine ⟨he17a, he17b, vAgain he17x ?_⟩
 conv => whnf
 cases h
 exact ⟨⟨rfl, rfl⟩, hI12 _ rfl⟩
 conv => whnf
 cases h
 obtain rfl := hR12 _ rfl
 exact hK
theorem w121 (q0 : SoundC Tryz.prog 276 c120) : SoundC Tryz.prog 279 c121 := by
 refine fn_sound tab_ok (gam_cons q0 gam_nil) mixed {} (fn := Tryz.f279) Tryz.func279 (by kernel_rfl) (by kernel_rfl) ?_
 rintro ⟨c0, kind0, ⟨⟩⟩ K ⟨r, h, hK⟩
 change impl_Cell_has c0 kind0 = some r at h
 unfold impl_Cell_has at h
 conv => whnf
 refine vBind h (fun c1_0 hb0 h => ?_)
 conv => whnf
 cases h
 exact hK
theorem w112 (q0 : SoundC Tryz.prog 278 c111) (q1 : SoundC Tryz.prog 171 c87) : SoundC Tryz.prog 290 c112 := by
 refine fn_sound tab_ok (gam_cons q0 (gam_cons q1 gam_nil)) mixed {} (fn := Tryz.f290) Tryz.func290 (by kernel_rfl) (by kernel_rfl) ?_
 rintro ⟨c0, pin0, ⟨⟩⟩ K ⟨r, h, hK⟩
 change impl_Cell_isInput c0 pin0 = some r at h
 unfold impl_Cell_isInput at h
 conv => whnf
 refine vBind h (fun output0 hb0 h => ?_)
 conv => whnf
 refine vBind h (fun within0 hb1 h => ?_)
 conv => whnf
 cases h
 exact hK
theorem w111 (q0 : SoundC Tryz.prog 274 c89) : SoundC Tryz.prog 278 c111 := by
 refine fn_sound tab_ok (gam_cons q0 gam_nil) mixed {} (fn := Tryz.f278) Tryz.func278 (by kernel_rfl) (by kernel_rfl) ?_
 rintro ⟨c0, ⟨⟩⟩ K ⟨r, h, hK⟩
 change impl_Cell_output c0 = some r at h
 unfold impl_Cell_output at h
 conv => whnf
 refine vBind h (fun Pin0 hb0 h => ?_)
 conv => whnf
 cases h
 exact hK
theorem w145 : SoundC Tryz.prog 169 c145 := by
 refine fn_sound tab_ok gam_nil mixed { draws := [(3, [0, 1, 0, 4, 0, 16, 60, 124, 252, 511, 1023, 2047, 0, 4096, 16383, 32767, 65535, 131071], .op 0 (.op 1 (.op 2 (.op 3 (.op 4 (.op 5 (.op 6 (.op 7 (.op 8 (.op 9 (.op 10 (.op 11 (.op 12 (.op 13 (.op 14 (.op 15 (.op 16 (.op 17 (.done)))))))))))))))))))] } (fn := Tryz.f169) Tryz.func169 (by kernel_rfl) (by kernel_rfl) ?_
 rintro ⟨d0, l0, p0, ⟨⟩⟩ K ⟨r, h, hK⟩
 change impl_Design_capOf d0 l0 p0 = some r at h
 unfold impl_Design_capOf at h
 conv => whnf
 refine vIfD h (fun h => ?_) (fun h => ?_)
 conv => whnf
 cases h
 exact hK
 conv => whnf
 refine ⟨by kernel_rfl, ?_⟩
 conv => whnf
 refine vAt h (fun x0 he0a he0b he0x h => ?_)
 conv => whnf
 refine vAt h (fun x1 he1a he1b he1x h => ?_)
 conv => whnf
 refine vAt h (fun x2 he2a he2b he2x h => ?_)
 conv => whnf
 cases h
 exact hK
theorem w154 (q1 : SoundC Tryz.prog 220 c153) (q0 : SoundC Tryz.prog 221 c92) : SoundC Tryz.prog 180 c154 := by
 refine fn_sound tab_ok (gam_cons q1 (gam_cons q0 gam_nil)) mixed { loops := [(0, [.reg 3 (.own (.ol 9 (.flat (.str)))), .reg 11 (.dat (.int .i64))])] } (fn := Tryz.f180) Tryz.func180 (by kernel_rfl) (by kernel_rfl) ?_
 rintro ⟨list0, ⟨⟩⟩ K ⟨r, h, hK⟩
 change impl_IsClocks list0 = some r at h
 unfold impl_IsClocks at h
 conv => whnf
 refine vIfD h (fun h => ?_) (fun h => ?_)
 conv => whnf
 cases h
 exact hK
 conv => whnf
 refine vLoop h ?_
 rintro I0 μ0 ⟨names0, v0, ⟨⟩⟩ zs0 h hI0 hR0
 change impl_IsClocks_loop0 list0 names0 v0 = some zs0 at h
 unfold impl_IsClocks_loop0 at h
 conv => whnf
 refine vIfD h (fun h => ?_) (fun h => ?_)
 conv => whnf
 refine vAt h (fun x0 he1a he1b he1x h => ?_)
 conv => whnf
 refine vBind h (fun isClock0 hb2 h => ?_)
 conv => whnf
 refine vNots ?_
 refine vIfB h (fun h => ?_) (fun h => ?_)
 conv => whnf
 refine vPre h (fun hp3 h => ?_)
 conv => whnf
 cases h
 exact ⟨⟨rfl, rfl⟩, hI0 _ rfl⟩
 conv => whnf
 cases h
 obtain rfl := hR0 _ rfl
 exact hK
 conv => whnf
 refine vBind h (fun areNames0 hb4 h => ?_)
 conv => whnf
 cases h
 obtain rfl := hR0 _ rfl
 exact hK
theorem w139 (q0 : SoundC Tryz.prog 117 c95) (q3 : SoundC Tryz.prog 171 c87) (q1 : SoundC Tryz.prog 204 c138) (q2 : SoundC Tryz.prog 205 c99) : SoundC Tryz.prog 158 c139 := by
 refine fn_sound tab_ok (gam_cons q0 (gam_cons q3 (gam_cons q1 (gam_cons q2 gam_nil)))) mixed {} (fn := Tryz.f158) Tryz.func158 (by kernel_rfl) (by kernel_rfl) ?_
 rintro ⟨w0, sinks0, ⟨⟩⟩ K ⟨r, h, hK⟩
 change impl_IsWire w0 sinks0 = some r at h
 unfold impl_IsWire at h
 conv => whnf
 refine vBind h (fun int64_0 hb0 h => ?_)
 conv => whnf
 refine vBind h (fun within0 hb1 h => ?_)
 conv => whnf
 refine vIfB h (fun h => ?_) (fun h => ?_)
 conv => whnf
 refine vBind h (fun int64_1 hb2 h => ?_)
 conv => whnf
 refine vIfD h (fun h => ?_) (fun h => ?_)
 conv => whnf
 refine vBind h (fun int64_2 hb3 h => ?_)
 conv => whnf
 refine vIfD h (fun h => ?_) (fun h => ?_)
 conv => whnf
 refine vBind h (fun isTree0 hb4 h => ?_)
 conv => whnf
 refine vIfB h (fun h => ?_) (fun h => ?_)
 conv => whnf
 refine vBind h (fun areWithin0 hb5 h => ?_)
 conv => whnf
 refine vIfB h (fun h => ?_) (fun h => ?_)
 conv => whnf
 refine vBind h (fun areWithin1 hb6 h => ?_)
 conv => whnf
 refine vIfB h (fun h => ?_) (fun h => ?_)
 conv => whnf
 refine vBind h (fun int64_3 hb7 h => ?_)
 conv => whnf
 refine vIfD h (fun h => ?_) (fun h => ?_)
 conv => whnf
 refine vBind h (fun areWithin2 hb8 h => ?_)
 conv => whnf
 cases h
 exact hK
 conv => whnf
 cases h
 exact hK
 conv => whnf
 cases h
 exact hK
 conv => whnf
 cases h
 exact hK
 conv => whnf
 cases h
 exact hK
 conv => whnf
 cases h
 exact hK
 conv => whnf
 cases h
 exact hK
 conv => whnf
 cases h
 exact hK
theorem w177 (q0 : SoundC Tryz.prog 73 c175) (q1 : SoundC Tryz.prog 74 c176) : SoundC Tryz.prog 29 c177 := by
 refine fn_sound tab_ok (gam_cons q0 (gam_cons q1 gam_nil)) mixed {} (fn := Tryz.f29) Tryz.func29 (by kernel_rfl) (by kernel_rfl) ?_
 rintro ⟨b0, s0, ⟨⟩⟩ K ⟨r, h, hK⟩
 change impl_SetupTargets b0 s0 = some r at h
 unfold impl_SetupTargets at h
 conv => whnf
 refine vBind h (fun IsSetup0 hb0 h => ?_)
 conv => whnf
 refine vNots ?_
 refine vIfB h (fun h => ?_) (fun h => ?_)
 conv => whnf
 refine vBind h (fun demands0 hb1 h => ?_)
 conv => whnf
 cases h
 exact hK
 conv => whnf
 cases h
 exact hK
theorem w100 : SoundC Tryz.prog 225 c100 := by
 refine fn_sound tab_ok gam_nil mixed { loops := [(0, [.reg 3 (.dat (.int .i64))])], draws := [(4, [0, 0, 2, 7, 15, 0, 0, 96, 224, 511], .op 0 (.op 1 (.op 2 (.op 3 (.op 4 (.op 5 (.op 6 (.op 7 (.op 8 (.op 9 (.done)))))))))))] } (fn := Tryz.f225) Tryz.func225 (by kernel_rfl) (by kernel_rfl) ?_
 rintro ⟨list0, ⟨⟩⟩ K ⟨r, h, hK⟩
 change impl_isIncreasing list0 = some r at h
 unfold impl_isIncreasing at h
 conv => whnf
 refine vLoop h ?_
 rintro I0 μ0 ⟨i0, ⟨⟩⟩ zs0 h hI0 hR0
 change impl_isIncreasing_loop0 list0 i0 = some zs0 at h
 unfold impl_isIncreasing_loop0 at h
 conv => whnf
 refine vIfD h (fun h => ?_) (fun h => ?_)
 conv => whnf
 refine ⟨by kernel_rfl, ?_⟩
 conv => whnf
 refine vAt h (fun x0 he1a he1b he1x h => ?_)
 conv => whnf
 refine vAt h (fun x1 he2a he2b he2x h => ?_)
 conv => whnf
 refine vIfD h (fun h => ?_) (fun h => ?_)
 conv => whnf
 cases h
 obtain rfl := hR0 _ rfl
 exact hK
 conv => whnf
 cases h
 exact ⟨⟨rfl, rfl⟩, hI0 _ rfl⟩
 conv => whnf
 cases h
 obtain rfl := hR0 _ rfl
 exact hK
theorem w88 (q2 : SoundC Tryz.prog 171 c87) (q1 : SoundC Tryz.prog 242 c_strings_Trim) (q0 : SoundC Tryz.prog 243 c_strings_IndexByte) : SoundC Tryz.prog 212 c88 := by
 refine fn_sound tab_ok (gam_cons q2 (gam_cons q1 (gam_cons q0 gam_nil))) mixed {} (fn := Tryz.f212) Tryz.func212 (by kernel_rfl) (by kernel_rfl) ?_
 rintro ⟨s0, ⟨⟩⟩ K ⟨r, h, hK⟩
 change impl_isName s0 = some r at h
 unfold impl_isName at h
 conv => whnf
 refine vBind h (fun within0 hb0 h => ?_)
 conv => whnf
 refine vIfB h (fun h => ?_) (fun h => ?_)
 conv => whnf
 refine vPre h (fun hp1 h => ?_)
 conv => whnf
 refine ⟨by decide, ?_⟩
 conv => whnf
 refine ⟨by kernel_rfl, ?_⟩
 conv => whnf
 refine vIfD h (fun h => ?_) (fun h => ?_)
 conv => whnf
 refine vAt h (fun x0 he2a he2b he2x h => ?_)
 conv => whnf
 cases h
 exact hK
 conv => whnf
 cases h
 exact hK
 conv => whnf
 cases h
 exact hK
theorem w89 : SoundC Tryz.prog 274 c89 := by
 refine fn_sound tab_ok gam_nil mixed {} (fn := Tryz.f274) Tryz.func274 (by kernel_rfl) (by kernel_rfl) ?_
 rintro ⟨list0, ⟨⟩⟩ K ⟨r, h, hK⟩
 change impl_length_impl_Pin list0 = some r at h
 unfold impl_length_impl_Pin at h
 conv => whnf
 cases h
 exact hK
theorem w149 (q3 : SoundC Tryz.prog 102 c137) (q1 : SoundC Tryz.prog 116 c142) (q4 : SoundC Tryz.prog 117 c95) (q2 : SoundC Tryz.prog 118 c146) (q0 : SoundC Tryz.prog 119 c148) : SoundC Tryz.prog 58 c149 := by
 refine fn_sound tabD_ok (gam_cons q3 (gam_cons q1 (gam_cons q4 (gam_cons q2 (gam_cons q0 gam_nil))))) mixed { loops := [(0, [.reg 4 (.dat (.int .i64)), .reg 25 (.dat (.int .i64)), .cello 2 6 (.ol 200 (.flat (tLink)))]), (2, [.reg 60 (.dat (.int .i64)), .ent 4 (nat_lit 2) (.flat ti33.ety), .ent 5 (nat_lit 33) (Dp.ol (2 : Go.TypeId) (Dp.flat (Ty.int IntKind.i64)))]), (4, [.reg 88 (.dat (.int .i64)), .cello 2 7 (.ol 2 (.flat (.int .i64))), .cello 2 8 (.ol 33 (.ol 2 (.flat (.int .i64)))), .cello 2 6 (.ol (nat_lit 200) (.flat tLink)), .ent 5 (nat_lit 33) (Dp.ol (2 : Go.TypeId) (Dp.flat (Ty.int IntKind.i64)))]), (6, [.reg 122 (.dat (.int .i64)), .cello 2 6 (.ol (nat_lit 200) (.flat tLink))]), (8, [.reg 127 (.dat (.int .i64)), .cello 2 6 (.ol (nat_lit 200) (.flat tLink))])], draws := [(1, [0, 0, 2, 6, 15, 31, 63], .op 0 (.op 1 (.op 2 (.alt 3 (.op 4 (.alt 5 (.op 6 (.done)) (.done))) (.done))))), (6, [0, 0, 2, 6, 14, 0, 0, 0, 224, 510, 1023, 2047, 4095], .op 0 (.op 1 (.op 2 (.op 3 (.op 4 (.op 5 (.op 6 (.op 7 (.alt 8 (.alt 9 (.op 10 (.op 11 (.alt 12 (.done) (.done)))) (.done)) (.done)))))))))), (16, [0, 0, 2, 0, 0, 16, 56, 120, 0, 256, 1016, 2047, 4095], .op 0 (.op 1 (.op 3 (.op 4 (.op 5 (.op 6 (.op 7 (.op 8 (.alt 2 (.alt 9 (.alt 10 (.op 11 (.alt 12 (.done) (.done))) (.done)) (.done)) (.alt 9 (.alt 2 (.alt 10 (.op 11 (.alt 12 (.done) (.done))) (.done)) (.alt 10 (.alt 2 (.op 11 (.alt 12 (.done) (.done))) (.done)) (.done))) (.done))))))))))), (21, [0, 0, 2, 6, 14, 0, 0, 96, 224, 480, 992, 2046, 4095, 8191, 16383], .op 0 (.op 1 (.op 2 (.op 3 (.op 4 (.op 5 (.op 6 (.alt 7 (.op 8 (.op 9 (.alt 10 (.alt 11 (.op 12 (.op 13 (.alt 14 (.done) (.done)))) (.done)) (.done)))) (.done))))))))), (22, [0, 0, 2, 6, 14, 0, 0, 96, 224, 510, 1023, 2047, 4095], .op 0 (.op 1 (.op 2 (.op 3 (.op 4 (.op 5 (.op 6 (.alt 7 (.alt 8 (.alt 9 (.op 10 (.op 11 (.alt 12 (.done) (.done)))) (.done)) (.done)) (.done))))))))), (29, [0, 0, 2, 6, 14, 0, 0, 96, 224, 480, 0, 2016, 0, 4096, 0, 28672, 0, 131040, 262112, 524286, 1048575, 2097151, 4194303], .op 0 (.op 1 (.op 2 (.op 3 (.op 4 (.op 5 (.op 6 (.op 7 (.op 8 (.op 9 (.op 10 (.op 11 (.op 12 (.op 13 (.op 14 (.op 15 (.op 16 (.op 17 (.alt 18 (.alt 19 (.op 20 (.op 21 (.alt 22 (.done) (.done)))) (.done)) (.done))))))))))))))))))))] } (fn := Tryz.f58) Tryz.func58 (by kernel_rfl) (by kernel_rfl) ?_
 rintro ⟨a0, ⟨⟩⟩ K ⟨r, h, hK⟩
 change impl_newView a0 = some r at h
 unfold impl_newView at h
 conv => whnf
 refine ⟨by kernel_rfl, ?_⟩
 conv => whnf
 refine vBind h (fun places0 hb0 h => ?_)
 conv => whnf
 refine vLoop h ?_
 rintro I1 μ1 ⟨v0, v1, c0, ⟨⟩⟩ zs1 h hI1 hR1
 change impl_newView_loop4 a0 places0 v0 v1 c0 = some zs1 at h
 unfold impl_newView_loop4 at h
 conv => whnf
 refine vIfD h (fun h => ?_) (fun h => ?_)
 conv => whnf
 refine vAt h (fun x0 he2a he2b he2x h => ?_)
 conv => whnf
 refine ⟨by kernel_rfl, ?_⟩
 conv => whnf
 refine vBind h (fun cellLinks0 hb3 h => ?_)
 conv => whnf
 refine vPre h (fun hp4 h => ?_)
 conv => whnf
 refine vBind h (fun int64_0 hb5 h => ?_)
 conv => whnf
 cases h
 exact ⟨⟨rfl, rfl⟩, hI1 _ rfl⟩
 conv => whnf
 refine vPre h (fun hp6 h => ?_)
 conv => whnf
 refine vPre h (fun hp7 h => ?_)
 conv => whnf
 refine vPre h (fun hp8 h => ?_)
 conv => whnf
 refine vPre h (fun hp9 h => ?_)
 conv => whnf
 refine ⟨hp6, ?_⟩
 conv => whnf
 refine ⟨hp7, ?_⟩
 conv => whnf
 refine ⟨hp8, ?_⟩
 conv => whnf
 refine vPre h (fun hp10 h => ?_)
 conv => whnf
 intro fp11
 conv => whnf
 refine vLoop h ?_
 rintro I12 μ12 ⟨v2, l0, l1, ⟨⟩⟩ zs12 h hI12 hR12
 change impl_newView_loop3 a0 places0 c0 v2 l0 l1 = some zs12 at h
 unfold impl_newView_loop3 at h
 conv => whnf
 intro fp13
 conv => whnf
 refine vIfD h (fun h => ?_) (fun h => ?_)
 conv => whnf
 refine vAt h (fun x0 he14a he14b he14x h => ?_)
 conv => whnf
 refine ⟨by kernel_rfl, ?_⟩
 conv => whnf
 refine ⟨he14a, he14b, vAgain he14x ?_⟩
 conv => whnf
 refine vIfB h (fun h => ?_) (fun h => ?_)
 conv => whnf
 refine vAt h (fun x1 he15a he15b he15x h => ?_)
 conv => whnf
 refine ⟨by kernel_rfl, ?_⟩
 conv => whnf
 refine ⟨by decide, ?_⟩
 conv => whnf
 refine ⟨he15a, he15b, vAgain he15x ?_⟩
 conv => whnf
 cases h
 exact ⟨⟨rfl, rfl⟩, hI12 _ rfl⟩
 conv => whnf
 refine ⟨by kernel_rfl, ?_⟩
 conv => whnf
 refine vAt h (fun x1 he16a he16b he16x h => ?_)
 conv => whnf
 refine ⟨he16a, he16b, vAgain he16x ?_⟩
 conv => whnf
 intro fp17
 conv => whnf
 refine ⟨?_, ?_⟩
 conv => whnf
 refine vPre h (fun hp18 h => ?_)
 conv => whnf
 refine ⟨he16a, he16b, vAgain he16x ?_⟩
 conv => whnf
 refine .inl ⟨rfl, ?_⟩
 conv => whnf
 cases h
 exact ⟨⟨rfl, rfl⟩, hI12 _ rfl⟩
 obtain ⟨hp18, h⟩ := guardE h
 conv => whnf
 refine ⟨?_, ?_⟩
 conv => whnf
 refine ⟨hp18, ?_⟩
 conv => whnf
 refine ⟨he16a, he16b, vAgain he16x ?_⟩
 conv => whnf
 refine .inl ⟨rfl, ?_⟩
 conv => whnf
 cases h
 exact ⟨⟨rfl, rfl⟩, hI12 _ rfl⟩
 conv => whnf
 refine ⟨hp18, ?_⟩
 conv => whnf
 refine ⟨he16a, he16b, vAgain he16x ?_⟩
 conv => whnf
 refine .inl ⟨rfl, ?_⟩
 conv => whnf
 cases h
 exact ⟨⟨rfl, rfl⟩, hI12 _ rfl⟩
 conv => whnf
 refine vLoop h ?_
 rintro I19 μ19 ⟨v3, c1, c2, c3, l2, ⟨⟩⟩ zs19 h hI19 hR19
 change impl_newView_loop2 a0 places0 l0 v3 c1 c2 c3 l2 = some zs19 at h
 unfold impl_newView_loop2 at h
 conv => whnf
 intro fp20
 conv => whnf
 intro fp21
 conv => whnf
 refine vIfD h (fun h => ?_) (fun h => ?_)
 conv => whnf
 refine ⟨by kernel_rfl, ?_⟩
 conv => whnf
 refine vBind h (fun nodeLoads0 hb22 h => ?_)
 conv => whnf
 refine vAt h (fun x0 he23a he23b he23x h => ?_)
 conv => whnf
 refine ⟨by kernel_rfl, ?_⟩
 conv => whnf
 refine ⟨he23a, he23b, vAgain he23x ?_⟩
 conv => whnf
 refine vPre h (fun hp24 h => ?_)
 conv => whnf
 refine ⟨by kernel_rfl, ?_⟩
 conv => whnf
 refine vBind h (fun exactDelays0 hb25 h => ?_)
 conv => whnf
 intro fp26
 conv => whnf
 refine vPre h (fun hp27 h => ?_)
 conv => whnf
 intro fp28
 conv => whnf
 refine vAt h (fun x1 he29a he29b he29x h => ?_)
 conv => whnf
 refine ⟨he29a, he29b, vAgain he29x ?_⟩
 conv => whnf
 intro fp30
 conv => whnf
 refine vLoop h ?_
 rintro I31 μ31 ⟨v4, c4, ⟨⟩⟩ zs31 h hI31 hR31
 change impl_newView_loop1 l0 v3 c1 c2 l2 x0 exactDelays0 x1 v4 c4 = some zs31 at h
 unfold impl_newView_loop1 at h
 conv => whnf
 refine vIfD h (fun h => ?_) (fun h => ?_)
 conv => whnf
 refine vAt h (fun x2 he32a he32b he32x h => ?_)
 conv => whnf
 refine ⟨by kernel_rfl, ?_⟩
 conv => whnf
 refine ⟨he32a, he32b, vAgain he32x ?_⟩
 conv => whnf
 refine vLoop h ?_
 rintro I33 μ33 ⟨v5, c5, ⟨⟩⟩ zs33 h hI33 hR33
 change impl_newView_loop0 l0 v3 v4 x2 v5 c5 = some zs33 at h
 unfold impl_newView_loop0 at h
 conv => whnf
 refine vIfD h (fun h => ?_) (fun h => ?_)
 conv => whnf
 refine ⟨by kernel_rfl, ?_⟩
 conv => whnf
 refine vAt h (fun x3 he34a he34b he34x h => ?_)
 conv => whnf
 refine ⟨by kernel_rfl, ?_⟩
 conv => whnf
 refine ⟨he34a, he34b, vAgain he34x ?_⟩
 conv => whnf
 refine vPre h (fun hp35 h => ?_)
 conv => whnf
 cases h
 exact ⟨⟨rfl, rfl⟩, hI33 _ rfl⟩
 conv => whnf
 cases h
 obtain rfl := hR33 _ rfl
 exact ⟨⟨rfl, rfl⟩, hI31 _ rfl⟩
 conv => whnf
 cases h
 obtain rfl := hR31 _ rfl
 exact ⟨⟨rfl, rfl⟩, hI19 _ rfl⟩
 conv => whnf
 cases h
 obtain rfl := hR19 _ rfl
 obtain rfl := hR12 _ rfl
 obtain rfl := hR1 _ rfl
 exact hK
theorem w174 (q2 : SoundC Tryz.prog 179 c150) (q5 : SoundC Tryz.prog 180 c154) (q1 : SoundC Tryz.prog 181 c159) (q3 : SoundC Tryz.prog 184 c164) (q0 : SoundC Tryz.prog 185 c169) (q4 : SoundC Tryz.prog 188 c173) : SoundC Tryz.prog 135 c174 := by
 refine fn_sound tab_ok (gam_cons q2 (gam_cons q5 (gam_cons q1 (gam_cons q3 (gam_cons q0 (gam_cons q4 gam_nil)))))) mixed {} (fn := Tryz.f135) Tryz.func135 (by kernel_rfl) (by kernel_rfl) ?_
 rintro ⟨v0, s0, ⟨⟩⟩ K ⟨r, h, hK⟩
 change impl_view_isSetup v0 s0 = some r at h
 unfold impl_view_isSetup at h
 conv => whnf
 refine vBind h (fun Clock0 hb0 h => ?_)
 conv => whnf
 refine vBind h (fun IsClocks0 hb1 h => ?_)
 conv => whnf
 refine vNot ?_
 refine vIfB h (fun h => ?_) (fun h => ?_)
 conv => whnf
 refine vBind h (fun c1_0 hb2 h => ?_)
 conv => whnf
 refine vIfB h (fun h => ?_) (fun h => ?_)
 conv => whnf
 cases h
 exact hK
 conv => whnf
 refine vBind h (fun areExternals0 hb3 h => ?_)
 conv => whnf
 refine vNot ?_
 refine vIfB h (fun h => ?_) (fun h => ?_)
 conv => whnf
 refine vBind h (fun areExternals1 hb4 h => ?_)
 conv => whnf
 refine vNot ?_
 refine vIfB h (fun h => ?_) (fun h => ?_)
 conv => whnf
 refine vIfD h (fun h => ?_) (fun h => ?_)
 conv => whnf
 cases h
 exact hK
 conv => whnf
 refine vBind h (fun c2_0 hb5 h => ?_)
 conv => whnf
 refine vNots ?_
 refine vIfB h (fun h => ?_) (fun h => ?_)
 conv => whnf
 cases h
 exact hK
 conv => whnf
 refine vIfDs h (fun h => ?_) (fun h => ?_)
 conv => whnf
 cases h
 exact hK
 conv => whnf
 refine vBind h (fun IsCornerList0 hb6 h => ?_)
 conv => whnf
 cases h
 exact hK
 conv => whnf
 cases h
 exact hK
 conv => whnf
 cases h
 exact hK
 conv => whnf
 cases h
 exact hK
theorem w87 : SoundC Tryz.prog 171 c87 := by
 refine fn_sound tab_ok gam_nil mixed {} (fn := Tryz.f171) Tryz.func171 (by kernel_rfl) (by kernel_rfl) ?_
 rintro ⟨x0, low0, high0, ⟨⟩⟩ K ⟨r, h, hK⟩
 change impl_within x0 low0 high0 = some r at h
 unfold impl_within at h
 conv => whnf
 refine vIfD h (fun h => ?_) (fun h => ?_)
 conv => whnf
 cases h
 exact hK
 conv => whnf
 cases h
 exact hK
theorem w200 : SoundC Tryz.prog 137 c200 := by
 refine fn_sound tab_ok gam_nil mixed {} (fn := Tryz.f137) Tryz.func137 (by kernel_rfl) (by kernel_rfl) ?_
 rintro ⟨a0, b0, ⟨⟩⟩ K ⟨r, h, hK⟩
 change laws_eqClock a0 b0 = some r at h
 unfold laws_eqClock at h
 conv => whnf
 refine vNots ?_
 refine vIfD h (fun h => ?_) (fun h => ?_)
 conv => whnf
 refine vNots ?_
 refine vIfD h (fun h => ?_) (fun h => ?_)
 conv => whnf
 refine vNots ?_
 refine vIfD h (fun h => ?_) (fun h => ?_)
 conv => whnf
 refine vNots ?_
 refine vIfD h (fun h => ?_) (fun h => ?_)
 conv => whnf
 refine vNots ?_
 refine vIfD h (fun h => ?_) (fun h => ?_)
 conv => whnf
 refine vNots ?_
 refine vIfD h (fun h => ?_) (fun h => ?_)
 conv => whnf
 refine vNots ?_
 refine vIfD h (fun h => ?_) (fun h => ?_)
 conv => whnf
 refine vNots ?_
 refine vIfB h (fun h => ?_) (fun h => ?_)
 conv => whnf
 refine vNots ?_
 refine vIfD h (fun h => ?_) (fun h => ?_)
 conv => whnf
 refine vNots ?_
 refine vIfD h (fun h => ?_) (fun h => ?_)
 conv => whnf
 refine vNots ?_
 refine vIfD h (fun h => ?_) (fun h => ?_)
 conv => whnf
 cases h
 exact hK
 conv => whnf
 cases h
 exact hK
 conv => whnf
 cases h
 exact hK
 conv => whnf
 cases h
 exact hK
 conv => whnf
 cases h
 exact hK
 conv => whnf
 cases h
 exact hK
 conv => whnf
 cases h
 exact hK
 conv => whnf
 cases h
 exact hK
 conv => whnf
 cases h
 exact hK
 conv => whnf
 cases h
 exact hK
 conv => whnf
 cases h
 exact hK
 conv => whnf
 cases h
 exact hK
theorem w206 : SoundC Tryz.prog 140 c206 := by
 refine fn_sound tab_ok gam_nil mixed {} (fn := Tryz.f140) Tryz.func140 (by kernel_rfl) (by kernel_rfl) ?_
 rintro ⟨a0, b0, ⟨⟩⟩ K ⟨r, h, hK⟩
 change laws_eqCorner a0 b0 = some r at h
 unfold laws_eqCorner at h
 conv => whnf
 refine vNots ?_
 refine vIfD h (fun h => ?_) (fun h => ?_)
 conv => whnf
 refine vNots ?_
 refine vIfD h (fun h => ?_) (fun h => ?_)
 conv => whnf
 refine vNots ?_
 refine vIfD h (fun h => ?_) (fun h => ?_)
 conv => whnf
 refine vNots ?_
 refine vIfD h (fun h => ?_) (fun h => ?_)
 conv => whnf
 refine vNots ?_
 refine vIfD h (fun h => ?_) (fun h => ?_)
 conv => whnf
 cases h
 exact hK
 conv => whnf
 cases h
 exact hK
 conv => whnf
 cases h
 exact hK
 conv => whnf
 cases h
 exact hK
 conv => whnf
 cases h
 exact hK
 conv => whnf
 cases h
 exact hK
theorem w180 (q0 : SoundC Tryz.prog 75 c179) : SoundC Tryz.prog 30 c180 := by
 refine fn_sound tab_ok (gam_cons q0 gam_nil) mixed { loops := [(0, [.reg 5 (.dat (.int .i64))])], draws := [(6, [0, 0, 3, 7, 0, 0, 48, 112, 255, 511], .op 0 (.op 1 (.op 2 (.op 3 (.op 4 (.op 5 (.op 6 (.op 7 (.alt 8 (.op 9 (.done)) (.done))))))))))] } (fn := Tryz.f30) Tryz.func30 (by kernel_rfl) (by kernel_rfl) ?_
 rintro ⟨a0, b0, ⟨⟩⟩ K ⟨r, h, hK⟩
 change laws_eqTargetS a0 b0 = some r at h
 unfold laws_eqTargetS at h
 conv => whnf
 refine vNots ?_
 refine vIfD h (fun h => ?_) (fun h => ?_)
 conv => whnf
 refine vLoop h ?_
 rintro I0 μ0 ⟨i0, ⟨⟩⟩ zs0 h hI0 hR0
 change laws_eqTargetS_loop0 a0 b0 i0 = some zs0 at h
 unfold laws_eqTargetS_loop0 at h
 conv => whnf
 refine vIfD h (fun h => ?_) (fun h => ?_)
 conv => whnf
 refine ⟨by kernel_rfl, ?_⟩
 conv => whnf
 refine vAt h (fun x0 he1a he1b he1x h => ?_)
 conv => whnf
 refine vAt h (fun x1 he2a he2b he2x h => ?_)
 conv => whnf
 refine vBind h (fun eqTarget0 hb3 h => ?_)
 conv => whnf
 refine vNots ?_
 refine vIfB h (fun h => ?_) (fun h => ?_)
 conv => whnf
 cases h
 exact ⟨⟨rfl, rfl⟩, hI0 _ rfl⟩
 conv => whnf
 cases h
 obtain rfl := hR0 _ rfl
 exact hK
 conv => whnf
 cases h
 obtain rfl := hR0 _ rfl
 exact hK
 conv => whnf
 cases h
 exact hK
theorem w221 (q0 : SoundC Tryz.prog 51 c215) (q1 : SoundC Tryz.prog 52 c219) (q2 : SoundC Tryz.prog 53 c220) : SoundC Tryz.prog 15 c221 := by
 refine fn_sound tabD_ok (gam_cons q0 (gam_cons q1 (gam_cons q2 gam_nil))) mixed {} (fn := Tryz.f15) Tryz.func15 (by kernel_rfl) (by kernel_rfl) ?_
 rintro ⟨a0, k0, ⟨⟩⟩ K ⟨r, h, hK⟩
 change laws_markBlock a0 k0 = some r at h
 unfold laws_markBlock at h
 conv => whnf
 intro fp0
 conv => whnf
 intro fp1
 conv => whnf
 intro fp2
 conv => whnf
 refine vBind h (fun markLibrary0 hb3 h => ?_)
 conv => whnf
 intro fp4
 conv => whnf
 refine vBind h (fun markDesign0 hb5 h => ?_)
 conv => whnf
 intro fp6
 conv => whnf
 refine vBind h (fun markWireS0 hb7 h => ?_)
 conv => whnf
 intro fp8
 conv => whnf
 cases h
 exact hK
theorem w224 (q0 : SoundC Tryz.prog 17 c211) : SoundC Tryz.prog 82 c224 := by
 refine fn_sound tabD_ok (gam_cons q0 gam_nil) mixed { loops := [(0, [.reg 1 (.dat (.int .i64)), .reg 5 (.dat (.int .i64)), .ent 0 (nat_lit 214) (Dp.pair (Dp.flat (Ty.int IntKind.i64)) (Dp.pair (Dp.flat (Ty.int IntKind.i64)) (Dp.pair (Dp.ol (2 : Go.TypeId) (Dp.flat (Ty.int IntKind.i64))) (Dp.pair (Dp.ol (2 : Go.TypeId) (Dp.flat (Ty.int IntKind.i64))) (Dp.pair (Dp.ol (2 : Go.TypeId) (Dp.flat (Ty.int IntKind.i64))) (Dp.flat Ty.unit))))))])] } (fn := Tryz.f82) Tryz.func82 (by kernel_rfl) (by kernel_rfl) ?_
 rintro ⟨a0, k0, ⟨⟩⟩ K ⟨r, h, hK⟩
 change laws_markExceptionS a0 k0 = some r at h
 unfold laws_markExceptionS at h
 conv => whnf
 intro fp0
 conv => whnf
 refine vLoop h ?_
 rintro I1 μ1 ⟨k1, i0, l0, ⟨⟩⟩ zs1 h hI1 hR1
 change laws_markExceptionS_loop0 k1 i0 l0 = some zs1 at h
 unfold laws_markExceptionS_loop0 at h
 conv => whnf
 intro fp2
 conv => whnf
 refine vIfD h (fun h => ?_) (fun h => ?_)
 conv => whnf
 refine vAt h (fun x0 he3a he3b he3x h => ?_)
 conv => whnf
 refine ⟨he3a, he3b, vAgain he3x ?_⟩
 conv => whnf
 intro fp4
 conv => whnf
 refine ⟨he3a, he3b, vAgain he3x ?_⟩
 conv => whnf
 refine .inl ⟨rfl, ?_⟩
 conv => whnf
 refine ⟨he3a, he3b, vAgain he3x ?_⟩
 conv => whnf
 refine .inl ⟨rfl, ?_⟩
 conv => whnf
 refine vBind h (fun markInt64S0 hb5 h => ?_)
 conv => whnf
 refine ⟨he3a, he3b, vAgain he3x ?_⟩
 conv => whnf
 refine .inl ⟨rfl, ?_⟩
 conv => whnf
 refine vBind h (fun markInt64S1 hb6 h => ?_)
 conv => whnf
 refine ⟨he3a, he3b, vAgain he3x ?_⟩
 conv => whnf
 refine .inl ⟨rfl, ?_⟩
 conv => whnf
 refine vBind h (fun markInt64S2 hb7 h => ?_)
 conv => whnf
 cases h
 exact ⟨⟨rfl, rfl⟩, hI1 _ rfl⟩
 conv => whnf
 cases h
 obtain rfl := hR1 _ rfl
 exact hK
theorem w216 (q1 : SoundC Tryz.prog 141 c209) (q0 : SoundC Tryz.prog 17 c211) : SoundC Tryz.prog 108 c216 := by
 refine fn_sound tabD_ok (gam_cons q1 (gam_cons q0 gam_nil)) mixed { loops := [(0, [.reg 1 (.dat (.int .i64)), .reg 5 (.dat (.int .i64)), .ent 0 (nat_lit 177) (Dp.pair (Dp.flat Ty.str) (Dp.pair (Dp.flat (Ty.int IntKind.i64)) (Dp.pair (Dp.ol (2 : Go.TypeId) (Dp.flat (Ty.int IntKind.i64))) (Dp.flat Ty.unit))))])] } (fn := Tryz.f108) Tryz.func108 (by kernel_rfl) (by kernel_rfl) ?_
 rintro ⟨a0, k0, ⟨⟩⟩ K ⟨r, h, hK⟩
 change laws_markInstanceS a0 k0 = some r at h
 unfold laws_markInstanceS at h
 conv => whnf
 intro fp0
 conv => whnf
 refine vLoop h ?_
 rintro I1 μ1 ⟨k1, i0, l0, ⟨⟩⟩ zs1 h hI1 hR1
 change laws_markInstanceS_loop0 k1 i0 l0 = some zs1 at h
 unfold laws_markInstanceS_loop0 at h
 conv => whnf
 intro fp2
 conv => whnf
 refine vIfD h (fun h => ?_) (fun h => ?_)
 conv => whnf
 refine vBind h (fun markText0 hb3 h => ?_)
 conv => whnf
 refine vAt h (fun x0 he4a he4b he4x h => ?_)
 conv => whnf
 refine ⟨he4a, he4b, vAgain he4x ?_⟩
 conv => whnf
 intro fp5
 conv => whnf
 refine ⟨he4a, he4b, vAgain he4x ?_⟩
 conv => whnf
 refine .inl ⟨rfl, ?_⟩
 conv => whnf
 refine ⟨he4a, he4b, vAgain he4x ?_⟩
 conv => whnf
 refine .inl ⟨rfl, ?_⟩
 conv => whnf
 refine vBind h (fun markInt64S0 hb6 h => ?_)
 conv => whnf
 cases h
 exact ⟨⟨rfl, rfl⟩, hI1 _ rfl⟩
 conv => whnf
 cases h
 obtain rfl := hR1 _ rfl
 exact hK
theorem w215 (q0 : SoundC Tryz.prog 107 c214) : SoundC Tryz.prog 51 c215 := by
 refine fn_sound tabD_ok (gam_cons q0 gam_nil) mixed {} (fn := Tryz.f51) Tryz.func51 (by kernel_rfl) (by kernel_rfl) ?_
 rintro ⟨a0, k0, ⟨⟩⟩ K ⟨r, h, hK⟩
 change laws_markLibrary a0 k0 = some r at h
 unfold laws_markLibrary at h
 conv => whnf
 intro fp0
 conv => whnf
 refine vBind h (fun markCellS0 hb1 h => ?_)
 conv => whnf
 intro fp2
 conv => whnf
 cases h
 exact hK
theorem w210 (q0 : SoundC Tryz.prog 141 c209) : SoundC Tryz.prog 164 c210 := by
 refine fn_sound tabD_ok (gam_cons q0 gam_nil) mixed { loops := [(0, [.reg 1 (.dat (.int .i64)), .reg 5 (.dat (.int .i64)), .ent 0 (nat_lit 285) (.flat tPin)])] } (fn := Tryz.f164) Tryz.func164 (by kernel_rfl) (by kernel_rfl) ?_
 rintro ⟨a0, k0, ⟨⟩⟩ K ⟨r, h, hK⟩
 change laws_markPinS a0 k0 = some r at h
 unfold laws_markPinS at h
 conv => whnf
 refine vLoop h ?_
 rintro I0 μ0 ⟨k1, i0, l0, ⟨⟩⟩ zs0 h hI0 hR0
 change laws_markPinS_loop0 k1 i0 l0 = some zs0 at h
 unfold laws_markPinS_loop0 at h
 conv => whnf
 refine vIfD h (fun h => ?_) (fun h => ?_)
 conv => whnf
 refine vBind h (fun markText0 hb1 h => ?_)
 conv => whnf
 refine vAt h (fun x0 he2a he2b he2x h => ?_)
 conv => whnf
 refine ⟨by kernel_rfl, ?_⟩
 conv => whnf
 refine ⟨by decide, ?_⟩
 conv => whnf
 refine ⟨he2a, he2b, vAgain he2x ?_⟩
 conv => whnf
 refine vAt h (fun x1 he3a he3b he3x h => ?_)
 conv => whnf
 refine ⟨by kernel_rfl, ?_⟩
 conv => whnf
 refine ⟨by decide, ?_⟩
 conv => whnf
 refine ⟨he3a, he3b, vAgain he3x ?_⟩
 conv => whnf
 refine vAt h (fun x2 he4a he4b he4x h => ?_)
 conv => whnf
 refine ⟨by kernel_rfl, ?_⟩
 conv => whnf
 refine ⟨by decide, ?_⟩
 conv => whnf
 refine ⟨he4a, he4b, vAgain he4x ?_⟩
 conv => whnf
 refine ⟨by decide, ?_⟩
 conv => whnf
 refine vAt h (fun x3 he5a he5b he5x h => ?_)
 conv => whnf
 refine ⟨by kernel_rfl, ?_⟩
 conv => whnf
 refine ⟨by decide, ?_⟩
 conv => whnf
 refine ⟨he5a, he5b, vAgain he5x ?_⟩
 conv => whnf
 cases h
 exact ⟨⟨rfl, rfl⟩, hI0 _ rfl⟩
 conv => whnf
 cases h
 obtain rfl := hR0 _ rfl
 exact hK
theorem w218 (q0 : SoundC Tryz.prog 141 c209) : SoundC Tryz.prog 110 c218 := by
 refine fn_sound tabD_ok (gam_cons q0 gam_nil) mixed { loops := [(0, [.reg 1 (.dat (.int .i64)), .reg 5 (.dat (.int .i64)), .ent 0 (nat_lit 256) (.flat tPort)])] } (fn := Tryz.f110) Tryz.func110 (by kernel_rfl) (by kernel_rfl) ?_
 rintro ⟨a0, k0, ⟨⟩⟩ K ⟨r, h, hK⟩
 change laws_markPortS a0 k0 = some r at h
 unfold laws_markPortS at h
 conv => whnf
 refine vLoop h ?_
 rintro I0 μ0 ⟨k1, i0, l0, ⟨⟩⟩ zs0 h hI0 hR0
 change laws_markPortS_loop0 k1 i0 l0 = some zs0 at h
 unfold laws_markPortS_loop0 at h
 conv => whnf
 refine vIfD h (fun h => ?_) (fun h => ?_)
 conv => whnf
 refine vBind h (fun markText0 hb1 h => ?_)
 conv => whnf
 refine vAt h (fun x0 he2a he2b he2x h => ?_)
 conv => whnf
 refine ⟨by kernel_rfl, ?_⟩
 conv => whnf
 refine ⟨by decide, ?_⟩
 conv => whnf
 refine ⟨he2a, he2b, vAgain he2x ?_⟩
 conv => whnf
 refine vAt h (fun x1 he3a he3b he3x h => ?_)
 conv => whnf
 refine ⟨by kernel_rfl, ?_⟩
 conv => whnf
 refine ⟨by decide, ?_⟩
 conv => whnf
 refine ⟨he3a, he3b, vAgain he3x ?_⟩
 conv => whnf
 refine vAt h (fun x2 he4a he4b he4x h => ?_)
 conv => whnf
 refine ⟨by kernel_rfl, ?_⟩
 conv => whnf
 refine ⟨by decide, ?_⟩
 conv => whnf
 refine ⟨he4a, he4b, vAgain he4x ?_⟩
 conv => whnf
 cases h
 exact ⟨⟨rfl, rfl⟩, hI0 _ rfl⟩
 conv => whnf
 cases h
 obtain rfl := hR0 _ rfl
 exact hK
theorem w227 : SoundC Tryz.prog 33 c227 := by
 refine fn_sound tabD_ok gam_nil mixed { loops := [(0, [.reg 1 (.dat (.int .i64)), .reg 5 (.dat (.int .i64)), .ent 0 (nat_lit 145) (.flat tTarget)])] } (fn := Tryz.f33) Tryz.func33 (by kernel_rfl) (by kernel_rfl) ?_
 rintro ⟨a0, k0, ⟨⟩⟩ K ⟨r, h, hK⟩
 change laws_markTargetS a0 k0 = some r at h
 unfold laws_markTargetS at h
 conv => whnf
 refine vLoop h ?_
 rintro I0 μ0 ⟨k1, i0, l0, ⟨⟩⟩ zs0 h hI0 hR0
 change laws_markTargetS_loop0 k1 i0 l0 = some zs0 at h
 unfold laws_markTargetS_loop0 at h
 conv => whnf
 refine vIfD h (fun h => ?_) (fun h => ?_)
 conv => whnf
 refine vAt h (fun x0 he1a he1b he1x h => ?_)
 conv => whnf
 refine ⟨by kernel_rfl, ?_⟩
 conv => whnf
 refine ⟨by decide, ?_⟩
 conv => whnf
 refine ⟨he1a, he1b, vAgain he1x ?_⟩
 conv => whnf
 refine vAt h (fun x1 he2a he2b he2x h => ?_)
 conv => whnf
 refine ⟨by kernel_rfl, ?_⟩
 conv => whnf
 refine ⟨by decide, ?_⟩
 conv => whnf
 refine ⟨he2a, he2b, vAgain he2x ?_⟩
 conv => whnf
 refine vAt h (fun x2 he3a he3b he3x h => ?_)
 conv => whnf
 refine ⟨by kernel_rfl, ?_⟩
 conv => whnf
 refine ⟨by decide, ?_⟩
 conv => whnf
 refine ⟨he3a, he3b, vAgain he3x ?_⟩
 conv => whnf
 cases h
 exact ⟨⟨rfl, rfl⟩, hI0 _ rfl⟩
 conv => whnf
 cases h
 obtain rfl := hR0 _ rfl
 exact hK
theorem w25 (q0 : SoundC Tryz.prog 126 c24) : SoundC Tryz.prog 66 c25 := by
 refine fn_sound tab_ok (gam_cons q0 gam_nil) mixed { loops := [(0, [.reg 1 (.dat (.int .i64)), .reg 5 (.dat (.int .i64))])] } (fn := Tryz.f66) Tryz.func66 (by kernel_rfl) (by kernel_rfl) ?_
 rintro ⟨a0, left0, ⟨⟩⟩ K ⟨r, h, hK⟩
 change laws_szCornerS a0 left0 = some r at h
 unfold laws_szCornerS at h
 conv => whnf
 refine vIfD h (fun h => ?_) (fun h => ?_)
 conv => whnf
 cases h
 exact hK
 conv => whnf
 refine vLoop h ?_
 rintro I0 μ0 ⟨left1, i0, ⟨⟩⟩ zs0 h hI0 hR0
 change laws_szCornerS_loop0 a0 left1 i0 = some zs0 at h
 unfold laws_szCornerS_loop0 at h
 conv => whnf
 refine vIfD h (fun h => ?_) (fun h => ?_)
 conv => whnf
 refine vAt h (fun x0 he1a he1b he1x h => ?_)
 conv => whnf
 refine vBind h (fun szCorner0 hb2 h => ?_)
 conv => whnf
 refine vIfD h (fun h => ?_) (fun h => ?_)
 conv => whnf
 cases h
 obtain rfl := hR0 _ rfl
 exact hK
 conv => whnf
 cases h
 exact ⟨⟨rfl, rfl⟩, hI0 _ rfl⟩
 conv => whnf
 cases h
 obtain rfl := hR0 _ rfl
 exact hK
theorem w2 : SoundC Tryz.prog 88 c2 := by
 refine fn_sound tab_ok gam_nil mixed {} (fn := Tryz.f88) Tryz.func88 (by kernel_rfl) (by kernel_rfl) ?_
 rintro ⟨a0, left0, ⟨⟩⟩ K ⟨r, h, hK⟩
 change laws_szInt64S a0 left0 = some r at h
 unfold laws_szInt64S at h
 conv => whnf
 refine vIfD h (fun h => ?_) (fun h => ?_)
 conv => whnf
 cases h
 exact hK
 conv => whnf
 cases h
 exact hK
theorem w45 (q0 : SoundC Tryz.prog 41 c36) (q1 : SoundC Tryz.prog 42 c42) (q2 : SoundC Tryz.prog 43 c44) : SoundC Tryz.prog 9 c45 := by
 refine fn_sound tabD_ok (gam_cons q0 (gam_cons q1 (gam_cons q2 gam_nil))) mixed {} (fn := Tryz.f9) Tryz.func9 (by kernel_rfl) (by kernel_rfl) ?_
 rintro ⟨a0, ⟨⟩⟩ K ⟨r, h, hK⟩
 change laws_toBlock a0 = some r at h
 unfold laws_toBlock at h
 conv => whnf
 refine vBind h (fun toLibrary0 hb0 h => ?_)
 conv => whnf
 intro fp1
 conv => whnf
 refine vBind h (fun toDesign0 hb2 h => ?_)
 conv => whnf
 intro fp3
 conv => whnf
 refine vBind h (fun toWireS0 hb4 h => ?_)
 conv => whnf
 intro fp5
 conv => whnf
 cases h
 exact hK
theorem w53 : SoundC Tryz.prog 134 c53 := by
 refine fn_sound tab_ok gam_nil mixed {} (fn := Tryz.f134) Tryz.func134 (by kernel_rfl) (by kernel_rfl) ?_
 rintro ⟨a0, ⟨⟩⟩ K ⟨r, h, hK⟩
 change laws_toCorner a0 = some r at h
 unfold laws_toCorner at h
 conv => whnf
 cases h
 exact hK
theorem w50 (q0 : SoundC Tryz.prog 132 c49) : SoundC Tryz.prog 70 c50 := by
 refine fn_sound tab_ok (gam_cons q0 gam_nil) mixed { loops := [(0, [.reg 4 (.dat (.int .i64)), .ent 0 (nat_lit 138) (.flat ti84.ety)])] } (fn := Tryz.f70) Tryz.func70 (by kernel_rfl) (by kernel_rfl) ?_
 rintro ⟨a0, ⟨⟩⟩ K ⟨r, h, hK⟩
 change laws_toExternalS a0 = some r at h
 unfold laws_toExternalS at h
 conv => whnf
 refine vPre h (fun hp0 h => ?_)
 conv => whnf
 refine vPre h (fun hp1 h => ?_)
 conv => whnf
 refine vPre h (fun hp2 h => ?_)
 conv => whnf
 refine vPre h (fun hp3 h => ?_)
 conv => whnf
 refine vLoop h ?_
 rintro I4 μ4 ⟨i0, l0, ⟨⟩⟩ zs4 h hI4 hR4
 change laws_toExternalS_loop0 a0 i0 l0 = some zs4 at h
 unfold laws_toExternalS_loop0 at h
 conv => whnf
 refine vIfD h (fun h => ?_) (fun h => ?_)
 conv => whnf
 refine vAt h (fun x0 he5a he5b he5x h => ?_)
 conv => whnf
 refine vBind h (fun toExternal0 hb6 h => ?_)
 conv => whnf
 refine vAt h (fun x1 he7a he7b he7x h => ?_)
 conv => whnf
 refine ⟨by kernel_rfl, ?_⟩
 conv => whnf
 refine ⟨by decide, ?_⟩
 conv => whnf
 refine ⟨he7a, he7b, vAgain he7x ?_⟩
 conv => whnf
 cases h
 exact ⟨⟨rfl, rfl⟩, hI4 _ rfl⟩
 conv => whnf
 cases h
 obtain rfl := hR4 _ rfl
 exact hK
theorem w29 : SoundC Tryz.prog 98 c29 := by
 refine fn_sound tab_ok gam_nil mixed { loops := [(0, [.reg 4 (.dat (.int .i64)), .ent 0 (nat_lit 2) (.flat ti33.ety)])] } (fn := Tryz.f98) Tryz.func98 (by kernel_rfl) (by kernel_rfl) ?_
 rintro ⟨a0, ⟨⟩⟩ K ⟨r, h, hK⟩
 change laws_toInt64S a0 = some r at h
 unfold laws_toInt64S at h
 conv => whnf
 refine vPre h (fun hp0 h => ?_)
 conv => whnf
 refine vPre h (fun hp1 h => ?_)
 conv => whnf
 refine vPre h (fun hp2 h => ?_)
 conv => whnf
 refine vPre h (fun hp3 h => ?_)
 conv => whnf
 refine vLoop h ?_
 rintro I4 μ4 ⟨i0, l0, ⟨⟩⟩ zs4 h hI4 hR4
 change laws_toInt64S_loop0 a0 i0 l0 = some zs4 at h
 unfold laws_toInt64S_loop0 at h
 conv => whnf
 refine vIfD h (fun h => ?_) (fun h => ?_)
 conv => whnf
 refine vAt h (fun x0 he5a he5b he5x h => ?_)
 conv => whnf
 refine vAt h (fun x1 he6a he6b he6x h => ?_)
 conv => whnf
 refine ⟨by kernel_rfl, ?_⟩
 conv => whnf
 refine ⟨by decide, ?_⟩
 conv => whnf
 refine ⟨he6a, he6b, vAgain he6x ?_⟩
 conv => whnf
 cases h
 exact ⟨⟨rfl, rfl⟩, hI4 _ rfl⟩
 conv => whnf
 cases h
 obtain rfl := hR4 _ rfl
 exact hK
theorem w30 (q0 : SoundC Tryz.prog 98 c29) : SoundC Tryz.prog 273 c30 := by
 refine fn_sound tab_ok (gam_cons q0 gam_nil) mixed {} (fn := Tryz.f273) Tryz.func273 (by kernel_rfl) (by kernel_rfl) ?_
 rintro ⟨a0, ⟨⟩⟩ K ⟨r, h, hK⟩
 change laws_toTable a0 = some r at h
 unfold laws_toTable at h
 conv => whnf
 refine vBind h (fun toInt64S0 hb0 h => ?_)
 conv => whnf
 refine vBind h (fun toInt64S1 hb1 h => ?_)
 conv => whnf
 refine vBind h (fun toInt64S2 hb2 h => ?_)
 conv => whnf
 cases h
 exact hK
theorem w120 (q0 : SoundC Tryz.prog 291 c119) : SoundC Tryz.prog 276 c120 := by
 refine fn_sound tab_ok (gam_cons q0 gam_nil) mixed {} (fn := Tryz.f276) Tryz.func276 (by kernel_rfl) (by kernel_rfl) ?_
 rintro ⟨s0, f0, ⟨⟩⟩ K ⟨r, h, hK⟩
 change slices_ContainsFunc_Simpl_Arc_impl_Arc_at_impl_Cell_has_c1 s0 f0 = some r at h
 unfold slices_ContainsFunc_Simpl_Arc_impl_Arc_at_impl_Cell_has_c1 at h
 conv => whnf
 refine vBind h (fun c1_0 hb0 h => ?_)
 conv => whnf
 cases h
 exact hK
theorem w119 (q0 : SoundC Tryz.prog 292 c118) : SoundC Tryz.prog 291 c119 := by
 refine fn_sound tab_ok (gam_cons q0 gam_nil) mixed { loops := [(0, [.reg 8 (.dat (.int .i64))])] } (fn := Tryz.f291) Tryz.func291 (by kernel_rfl) (by kernel_rfl) ?_
 rintro ⟨s0, f0, ⟨⟩⟩ K ⟨r, h, hK⟩
 change slices_IndexFunc_Simpl_Arc_impl_Arc_at_impl_Cell_has_c1 s0 f0 = some r at h
 unfold slices_IndexFunc_Simpl_Arc_impl_Arc_at_impl_Cell_has_c1 at h
 conv => whnf
 refine vLoop h ?_
 rintro I0 μ0 ⟨v0, ⟨⟩⟩ zs0 h hI0 hR0
 change slices_IndexFunc_Simpl_Arc_impl_Arc_at_impl_Cell_has_c1_loop0 s0 f0 v0 = some zs0 at h
 unfold slices_IndexFunc_Simpl_Arc_impl_Arc_at_impl_Cell_has_c1_loop0 at h
 conv => whnf
 refine vIfD h (fun h => ?_) (fun h => ?_)
 conv => whnf
 refine vAt h (fun x0 he1a he1b he1x h => ?_)
 conv => whnf
 refine vBind h (fun c1_0 hb2 h => ?_)
 conv => whnf
 refine vIfB h (fun h => ?_) (fun h => ?_)
 conv => whnf
 cases h
 obtain rfl := hR0 _ rfl
 exact hK
 conv => whnf
 cases h
 exact ⟨⟨rfl, rfl⟩, hI0 _ rfl⟩
 conv => whnf
 cases h
 obtain rfl := hR0 _ rfl
 exact hK
theorem w130 (q0 : SoundC Tryz.prog 235 c129) : SoundC Tryz.prog 260 c130 := by
 refine fn_sound tab_ok (gam_cons q0 gam_nil) mixed { loops := [(0, [.reg 8 (.dat (.int .i64))])] } (fn := Tryz.f260) Tryz.func260 (by kernel_rfl) (by kernel_rfl) ?_
 rintro ⟨s0, f0, ⟨⟩⟩ K ⟨r, h, hK⟩
 change slices_IndexFunc_Sint64_int64_at_impl_Design_isInstance_c1 s0 f0 = some r at h
 unfold slices_IndexFunc_Sint64_int64_at_impl_Design_isInstance_c1 at h
 conv => whnf
 refine vLoop h ?_
 rintro I0 μ0 ⟨v0, ⟨⟩⟩ zs0 h hI0 hR0
 change slices_IndexFunc_Sint64_int64_at_impl_Design_isInstance_c1_loop0 s0 f0 v0 = some zs0 at h
 unfold slices_IndexFunc_Sint64_int64_at_impl_Design_isInstance_c1_loop0 at h
 conv => whnf
 refine vIfD h (fun h => ?_) (fun h => ?_)
 conv => whnf
 refine vAt h (fun x0 he1a he1b he1x h => ?_)
 conv => whnf
 refine vBind h (fun c1_0 hb2 h => ?_)
 conv => whnf
 refine vIfB h (fun h => ?_) (fun h => ?_)
 conv => whnf
 cases h
 obtain rfl := hR0 _ rfl
 exact hK
 conv => whnf
 cases h
 exact ⟨⟨rfl, rfl⟩, hI0 _ rfl⟩
 conv => whnf
 cases h
 obtain rfl := hR0 _ rfl
 exact hK
theorem w60 (q0 : SoundC Tryz.prog 306 c59) (q1 : SoundC Tryz.prog 112 c57) : SoundC Tryz.prog 296 c60 := by
 refine fn_sound tab_ok (gam_cons q0 (gam_cons q1 gam_nil)) mixed { loops := [(0, [.reg 3 (.dat (.int .i64))])] } (fn := Tryz.f296) Tryz.func296 (by kernel_rfl) (by kernel_rfl) ?_
 rintro ⟨t0, ⟨⟩⟩ K ⟨r, h, hK⟩
 change spec_IsTable t0 = some r at h
 unfold spec_IsTable at h
 conv => whnf
 refine vBind h (fun l02Axis0 hb0 h => ?_)
 conv => whnf
 refine vNot ?_
 refine vIfB h (fun h => ?_) (fun h => ?_)
 conv => whnf
 refine vBind h (fun l02Axis1 hb1 h => ?_)
 conv => whnf
 refine vNot ?_
 refine vIfB h (fun h => ?_) (fun h => ?_)
 conv => whnf
 refine vNots ?_
 refine vIfD h (fun h => ?_) (fun h => ?_)
 conv => whnf
 refine vLoop h ?_
 rintro I2 μ2 ⟨i0, ⟨⟩⟩ zs2 h hI2 hR2
 change spec_IsTable_loop0 t0 i0 = some zs2 at h
 unfold spec_IsTable_loop0 at h
 conv => whnf
 refine vIfD h (fun h => ?_) (fun h => ?_)
 conv => whnf
 refine vAt h (fun x0 he3a he3b he3x h => ?_)
 conv => whnf
 refine vBind h (fun l01In0 hb4 h => ?_)
 conv => whnf
 refine vNots ?_
 refine vIfB h (fun h => ?_) (fun h => ?_)
 conv => whnf
 cases h
 exact ⟨⟨rfl, rfl⟩, hI2 _ rfl⟩
 conv => whnf
 cases h
 obtain rfl := hR2 _ rfl
 exact hK
 conv => whnf
 cases h
 obtain rfl := hR2 _ rfl
 exact hK
 conv => whnf
 cases h
 exact hK
 conv => whnf
 cases h
 exact hK
 conv => whnf
 cases h
 exact hK
theorem w58 (q0 : SoundC Tryz.prog 150 c56) (q1 : SoundC Tryz.prog 112 c57) : SoundC Tryz.prog 253 c58 := by
 refine fn_sound tab_ok (gam_cons q0 (gam_cons q1 gam_nil)) mixed { loops := [(0, [.reg 5 (.dat (.int .i64)), .reg 6 (.dat (.int .i64))]), (2, [.reg 8 (.dat (.int .i64))])], draws := [(12, [0, 1, 0, 7, 15, 31, 0, 64, 255], .op 0 (.op 1 (.op 2 (.op 3 (.op 4 (.op 5 (.op 6 (.op 7 (.op 8 (.done))))))))))] } (fn := Tryz.f253) Tryz.func253 (by kernel_rfl) (by kernel_rfl) ?_
 rintro ⟨a0, ⟨⟩⟩ K ⟨r, h, hK⟩
 change spec_l03Pins a0 = some r at h
 unfold spec_l03Pins at h
 conv => whnf
 refine vIfDs h (fun h => ?_) (fun h => ?_)
 conv => whnf
 cases h
 exact hK
 conv => whnf
 refine vIfD h (fun h => ?_) (fun h => ?_)
 conv => whnf
 cases h
 exact hK
 conv => whnf
 refine vLoop h ?_
 rintro I0 μ0 ⟨v0, v1, ⟨⟩⟩ zs0 h hI0 hR0
 change spec_l03Pins_loop1 a0 v0 v1 = some zs0 at h
 unfold spec_l03Pins_loop1 at h
 conv => whnf
 refine vIfD h (fun h => ?_) (fun h => ?_)
 conv => whnf
 refine vAt h (fun x0 he1a he1b he1x h => ?_)
 conv => whnf
 refine vLoop h ?_
 rintro I2 μ2 ⟨v2, ⟨⟩⟩ zs2 h hI2 hR2
 change spec_l03Pins_loop0 a0 v0 v1 x0 v2 = some zs2 at h
 unfold spec_l03Pins_loop0 at h
 conv => whnf
 refine vIfD h (fun h => ?_) (fun h => ?_)
 conv => whnf
 refine ⟨by kernel_rfl, ?_⟩
 conv => whnf
 refine vAt h (fun x1 he3a he3b he3x h => ?_)
 conv => whnf
 refine vIfD h (fun h => ?_) (fun h => ?_)
 conv => whnf
 cases h
 obtain rfl := hR2 _ rfl
 obtain rfl := hR0 _ rfl
 exact hK
 conv => whnf
 cases h
 exact ⟨⟨rfl, rfl⟩, hI2 _ rfl⟩
 conv => whnf
 refine vBind h (fun l03Name0 hb4 h => ?_)
 conv => whnf
 refine vNot ?_
 refine vIfB h (fun h => ?_) (fun h => ?_)
 conv => whnf
 refine vBind h (fun l01In0 hb5 h => ?_)
 conv => whnf
 refine vNots ?_
 refine vIfB h (fun h => ?_) (fun h => ?_)
 conv => whnf
 refine vIfD h (fun h => ?_) (fun h => ?_)
 conv => whnf
 refine vNot ?_
 refine vIfD h (fun h => ?_) (fun h => ?_)
 conv => whnf
 refine vNot ?_
 refine vIfD h (fun h => ?_) (fun h => ?_)
 conv => whnf
 refine vIfBs h (fun h => ?_) (fun h => ?_)
 conv => whnf
 cases h
 obtain rfl := hR2 _ rfl
 obtain rfl := hR0 _ rfl
 exact hK
 conv => whnf
 refine vIfD h (fun h => ?_) (fun h => ?_)
 conv => whnf
 refine vNots ?_
 refine vIfD h (fun h => ?_) (fun h => ?_)
 conv => whnf
 refine vIfB h (fun h => ?_) (fun h => ?_)
 conv => whnf
 cases h
 obtain rfl := hR2 _ rfl
 exact ⟨⟨rfl, rfl⟩, hI0 _ rfl⟩
 conv => whnf
 cases h
 obtain rfl := hR2 _ rfl
 exact ⟨⟨rfl, rfl⟩, hI0 _ rfl⟩
 conv => whnf
 cases h
 obtain rfl := hR2 _ rfl
 obtain rfl := hR0 _ rfl
 exact hK
 conv => whnf
 refine vIfB h (fun h => ?_) (fun h => ?_)
 conv => whnf
 cases h
 obtain rfl := hR2 _ rfl
 exact ⟨⟨rfl, rfl⟩, hI0 _ rfl⟩
 conv => whnf
 cases h
 obtain rfl := hR2 _ rfl
 exact ⟨⟨rfl, rfl⟩, hI0 _ rfl⟩
 conv => whnf
 cases h
 obtain rfl := hR2 _ rfl
 obtain rfl := hR0 _ rfl
 exact hK
 conv => whnf
 cases h
 obtain rfl := hR2 _ rfl
 obtain rfl := hR0 _ rfl
 exact hK
 conv => whnf
 refine vIfD h (fun h => ?_) (fun h => ?_)
 conv => whnf
 refine vNots ?_
 refine vIfD h (fun h => ?_) (fun h => ?_)
 conv => whnf
 refine vIfB h (fun h => ?_) (fun h => ?_)
 conv => whnf
 cases h
 obtain rfl := hR2 _ rfl
 exact ⟨⟨rfl, rfl⟩, hI0 _ rfl⟩
 conv => whnf
 cases h
 obtain rfl := hR2 _ rfl
 exact ⟨⟨rfl, rfl⟩, hI0 _ rfl⟩
 conv => whnf
 cases h
 obtain rfl := hR2 _ rfl
 obtain rfl := hR0 _ rfl
 exact hK
 conv => whnf
 refine vIfB h (fun h => ?_) (fun h => ?_)
 conv => whnf
 cases h
 obtain rfl := hR2 _ rfl
 exact ⟨⟨rfl, rfl⟩, hI0 _ rfl⟩
 conv => whnf
 cases h
 obtain rfl := hR2 _ rfl
 exact ⟨⟨rfl, rfl⟩, hI0 _ rfl⟩
 conv => whnf
 cases h
 obtain rfl := hR2 _ rfl
 obtain rfl := hR0 _ rfl
 exact hK
 conv => whnf
 cases h
 obtain rfl := hR2 _ rfl
 obtain rfl := hR0 _ rfl
 exact hK
 conv => whnf
 cases h
 obtain rfl := hR0 _ rfl
 exact hK
theorem w74 (q0 : SoundC Tryz.prog 150 c56) (q1 : SoundC Tryz.prog 112 c57) : SoundC Tryz.prog 175 c74 := by
 refine fn_sound tab_ok (gam_cons q0 (gam_cons q1 gam_nil)) mixed {} (fn := Tryz.f175) Tryz.func175 (by kernel_rfl) (by kernel_rfl) ?_
 rintro ⟨c0, ⟨⟩⟩ K ⟨r, h, hK⟩
 change spec_l14Plain c0 = some r at h
 unfold spec_l14Plain at h
 conv => whnf
 refine vBind h (fun l03Name0 hb0 h => ?_)
 conv => whnf
 refine vIfB h (fun h => ?_) (fun h => ?_)
 conv => whnf
 refine vIfD h (fun h => ?_) (fun h => ?_)
 conv => whnf
 refine vBind h (fun l01In0 hb1 h => ?_)
 conv => whnf
 refine vIfB h (fun h => ?_) (fun h => ?_)
 conv => whnf
 refine vBind h (fun l01In1 hb2 h => ?_)
 conv => whnf
 refine vIfB h (fun h => ?_) (fun h => ?_)
 conv => whnf
 refine vBind h (fun l01In2 hb3 h => ?_)
 conv => whnf
 cases h
 exact hK
 conv => whnf
 cases h
 exact hK
 conv => whnf
 cases h
 exact hK
 conv => whnf
 cases h
 exact hK
 conv => whnf
 cases h
 exact hK
end Go.Proofs.YtaccffcigblceaaGreatDoor
