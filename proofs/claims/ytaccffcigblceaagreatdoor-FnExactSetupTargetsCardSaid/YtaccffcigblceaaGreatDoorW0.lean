/-
  The functions keep their contracts, if what they call does. Printed by program.
-/
import Derived.Test.YtaccffcigblceaaGreatDoorM
import Derived.KernelRfl
namespace Go.Proofs.YtaccffcigblceaaGreatDoor
open Go Go.Sx
set_option maxRecDepth 100000
set_option linter.unusedVariables false
set_option linter.unusedSimpArgs false
theorem w132 (q1 : SoundC Tryz.prog 209 c126) (q2 : SoundC Tryz.prog 171 c87) (q0 : SoundC Tryz.prog 234 c131) : SoundC Tryz.prog 200 c132 := by
 refine fn_sound tab_ok (gam_cons q1 (gam_cons q2 (gam_cons q0 gam_nil))) mixed { draws := [(1, [0, 1, 0, 4, 12, 28, 63, 127, 255, 511, 1023, 255, 2303, 255, 8447, 30975, 63743, 129279, 260351, 524287, 1048575, 2097151, 4194303, 8388607, 4194303, 33554431, 67108863, 134217727, 268435455], .op 0 (.op 1 (.op 2 (.op 3 (.alt 4 (.op 5 (.alt 6 (.op 7 (.op 8 (.op 9 (.op 10 (.op 11 (.op 12 (.op 13 (.op 14 (.op 15 (.op 16 (.op 17 (.op 18 (.op 19 (.op 20 (.op 21 (.op 22 (.op 23 (.op 24 (.alt 25 (.op 26 (.op 27 (.op 28 (.done)))) (.done)))))))))))))))))))) (.done))) (.done))))))] } (fn := Tryz.f200) Tryz.func200 (by kernel_rfl) (by kernel_rfl) ?_
 rintro ⟨d0, l0, x0, ⟨⟩⟩ K ⟨r, h, hK⟩
 change impl_Design_isInstance d0 l0 x0 = some r at h
 unfold impl_Design_isInstance at h
 conv => whnf
 refine ⟨by kernel_rfl, ?_⟩
 conv => whnf
 refine vBind h (fun Cell0 hb0 h => ?_)
 conv => whnf
 refine vBind h (fun within0 hb1 h => ?_)
 conv => whnf
 refine vIfB h (fun h => ?_) (fun h => ?_)
 conv => whnf
 refine vAt h (fun x1 he2a he2b he2x h => ?_)
 conv => whnf
 refine vIfD h (fun h => ?_) (fun h => ?_)
 conv => whnf
 refine vBind h (fun c1_0 hb3 h => ?_)
 conv => whnf
 cases h
 exact hK
 conv => whnf
 cases h
 exact hK
 conv => whnf
 cases h
 exact hK
theorem w140 (q1 : SoundC Tryz.prog 157 c136) (q0 : SoundC Tryz.prog 102 c137) (q2 : SoundC Tryz.prog 158 c139) : SoundC Tryz.prog 99 c140 := by
 refine fn_sound tab_ok (gam_cons q1 (gam_cons q0 (gam_cons q2 gam_nil))) mixed { loops := [(0, [.reg 32 (.dat (.int .i64)), .ent 1 (nat_lit 2) (.flat ti33.ety)]), (2, [.reg 50 (.dat (.int .i64))])], draws := [(13, [0, 0, 0, 6, 14, 31, 63], .op 0 (.op 1 (.op 2 (.op 3 (.op 4 (.alt 5 (.op 6 (.done)) (.done)))))))] } (fn := Tryz.f99) Tryz.func99 (by kernel_rfl) (by kernel_rfl) ?_
 rintro ⟨b0, ⟨⟩⟩ K ⟨r, h, hK⟩
 change impl_IsBlock b0 = some r at h
 unfold impl_IsBlock at h
 conv => whnf
 refine vBind h (fun IsDesign0 hb0 h => ?_)
 conv => whnf
 refine vNot ?_
 refine vIfB h (fun h => ?_) (fun h => ?_)
 conv => whnf
 refine vNots ?_
 refine vIfD h (fun h => ?_) (fun h => ?_)
 conv => whnf
 refine vPre h (fun hp1 h => ?_)
 conv => whnf
 refine vPre h (fun hp2 h => ?_)
 conv => whnf
 refine vPre h (fun hp3 h => ?_)
 conv => whnf
 refine vPre h (fun hp4 h => ?_)
 conv => whnf
 refine vBind h (fun places0 hb5 h => ?_)
 conv => whnf
 refine vLoop h ?_
 rintro I6 μ6 ⟨v0, l0, ⟨⟩⟩ zs6 h hI6 hR6
 change impl_IsBlock_loop1 b0 places0 v0 l0 = some zs6 at h
 unfold impl_IsBlock_loop1 at h
 conv => whnf
 refine vIfD h (fun h => ?_) (fun h => ?_)
 conv => whnf
 refine vAt h (fun x0 he7a he7b he7x h => ?_)
 conv => whnf
 refine ⟨by kernel_rfl, ?_⟩
 conv => whnf
 refine ⟨he7a, he7b, vAgain he7x ?_⟩
 conv => whnf
 refine vNots ?_
 refine vIfB h (fun h => ?_) (fun h => ?_)
 conv => whnf
 cases h
 exact ⟨⟨rfl, rfl⟩, hI6 _ rfl⟩
 conv => whnf
 refine vAt h (fun x1 he8a he8b he8x h => ?_)
 conv => whnf
 refine ⟨by kernel_rfl, ?_⟩
 conv => whnf
 refine ⟨he8a, he8b, vAgain he8x ?_⟩
 conv => whnf
 refine ⟨he8a, he8b, vAgain he8x ?_⟩
 conv => whnf
 refine ⟨by kernel_rfl, ?_⟩
 conv => whnf
 refine ⟨by decide, ?_⟩
 conv => whnf
 refine ⟨he8a, he8b, vAgain he8x ?_⟩
 conv => whnf
 cases h
 exact ⟨⟨rfl, rfl⟩, hI6 _ rfl⟩
 conv => whnf
 refine vLoop h ?_
 rintro I9 μ9 ⟨v1, ⟨⟩⟩ zs9 h hI9 hR9
 change impl_IsBlock_loop0 b0 l0 v1 = some zs9 at h
 unfold impl_IsBlock_loop0 at h
 conv => whnf
 refine vIfD h (fun h => ?_) (fun h => ?_)
 conv => whnf
 refine vAt h (fun x0 he10a he10b he10x h => ?_)
 conv => whnf
 refine ⟨by kernel_rfl, ?_⟩
 conv => whnf
 refine vAt h (fun x1 he11a he11b he11x h => ?_)
 conv => whnf
 refine ⟨by kernel_rfl, ?_⟩
 conv => whnf
 refine ⟨he11a, he11b, vAgain he11x ?_⟩
 conv => whnf
 refine vBind h (fun IsWire0 hb12 h => ?_)
 conv => whnf
 refine vNots ?_
 refine vIfB h (fun h => ?_) (fun h => ?_)
 conv => whnf
 cases h
 exact ⟨⟨rfl, rfl⟩, hI9 _ rfl⟩
 conv => whnf
 cases h
 obtain rfl := hR9 _ rfl
 obtain rfl := hR6 _ rfl
 exact hK
 conv => whnf
 cases h
 obtain rfl := hR9 _ rfl
 obtain rfl := hR6 _ rfl
 exact hK
 conv => whnf
 cases h
 exact hK
 conv => whnf
 cases h
 exact hK
theorem w161 (q0 : SoundC Tryz.prog 173 c160) : SoundC Tryz.prog 121 c161 := by
 refine fn_sound tab_ok (gam_cons q0 gam_nil) mixed {} (fn := Tryz.f121) Tryz.func121 (by kernel_rfl) (by kernel_rfl) ?_
 rintro ⟨s0, ⟨⟩⟩ K ⟨r, h, hK⟩
 change impl_IsSpan s0 = some r at h
 unfold impl_IsSpan at h
 conv => whnf
 refine vBind h (fun isTime0 hb0 h => ?_)
 conv => whnf
 refine vIfB h (fun h => ?_) (fun h => ?_)
 conv => whnf
 refine vBind h (fun isTime1 hb1 h => ?_)
 conv => whnf
 refine vIfB h (fun h => ?_) (fun h => ?_)
 conv => whnf
 cases h
 exact hK
 conv => whnf
 cases h
 exact hK
 conv => whnf
 cases h
 exact hK
theorem w170 : SoundC Tryz.prog 251 c170 := by
 refine fn_sound tab_ok gam_nil mixed {} (fn := Tryz.f251) Tryz.func251 (by kernel_rfl) (by kernel_rfl) ?_
 rintro ⟨early0, late0, ⟨⟩⟩ K ⟨r, h, hK⟩
 change impl_areFactors early0 late0 = some r at h
 unfold impl_areFactors at h
 conv => whnf
 refine vIfD h (fun h => ?_) (fun h => ?_)
 conv => whnf
 refine vIfD h (fun h => ?_) (fun h => ?_)
 conv => whnf
 cases h
 exact hK
 conv => whnf
 cases h
 exact hK
 conv => whnf
 cases h
 exact hK
theorem w94 : SoundC Tryz.prog 287 c94 := by
 refine fn_sound tab_ok gam_nil mixed {} (fn := Tryz.f287) Tryz.func287 (by kernel_rfl) (by kernel_rfl) ?_
 rintro ⟨kind0, ⟨⟩⟩ K ⟨r, h, hK⟩
 change impl_isCheck kind0 = some r at h
 unfold impl_isCheck at h
 conv => whnf
 refine vIfDs h (fun h => ?_) (fun h => ?_)
 conv => whnf
 cases h
 exact hK
 conv => whnf
 cases h
 exact hK
theorem w162 (q0 : SoundC Tryz.prog 171 c87) : SoundC Tryz.prog 174 c162 := by
 refine fn_sound tab_ok (gam_cons q0 gam_nil) mixed {} (fn := Tryz.f174) Tryz.func174 (by kernel_rfl) (by kernel_rfl) ?_
 rintro ⟨n0, ⟨⟩⟩ K ⟨r, h, hK⟩
 change impl_isSlew n0 = some r at h
 unfold impl_isSlew at h
 conv => whnf
 refine vBind h (fun within0 hb0 h => ?_)
 conv => whnf
 cases h
 exact hK
theorem w150 : SoundC Tryz.prog 179 c150 := by
 refine fn_sound tab_ok gam_nil mixed {} (fn := Tryz.f179) Tryz.func179 (by kernel_rfl) (by kernel_rfl) ?_
 rintro ⟨list0, ⟨⟩⟩ K ⟨r, h, hK⟩
 change impl_length_impl_Clock list0 = some r at h
 unfold impl_length_impl_Clock at h
 conv => whnf
 cases h
 exact hK
theorem w167 (q0 : SoundC Tryz.prog 187 c166) : SoundC Tryz.prog 186 c167 := by
 refine fn_sound tab_ok (gam_cons q0 gam_nil) mixed {} (fn := Tryz.f186) Tryz.func186 (by kernel_rfl) (by kernel_rfl) ?_
 rintro ⟨e0, a0, ⟨⟩⟩ K ⟨r, h, hK⟩
 change impl_view_isSetup_c2 e0 a0 = some r at h
 unfold impl_view_isSetup_c2 at h
 conv => whnf
 refine vBind h (fun isException0 hb0 h => ?_)
 conv => whnf
 cases h
 exact hK
theorem w201 (q0 : SoundC Tryz.prog 137 c200) : SoundC Tryz.prog 76 c201 := by
 refine fn_sound tab_ok (gam_cons q0 gam_nil) mixed { loops := [(0, [.reg 5 (.dat (.int .i64))])], draws := [(6, [0, 0, 3, 7, 0, 0, 48, 112, 255, 511], .op 0 (.op 1 (.op 2 (.op 3 (.op 4 (.op 5 (.op 6 (.op 7 (.alt 8 (.op 9 (.done)) (.done))))))))))] } (fn := Tryz.f76) Tryz.func76 (by kernel_rfl) (by kernel_rfl) ?_
 rintro ⟨a0, b0, ⟨⟩⟩ K ⟨r, h, hK⟩
 change laws_eqClockS a0 b0 = some r at h
 unfold laws_eqClockS at h
 conv => whnf
 refine vNots ?_
 refine vIfD h (fun h => ?_) (fun h => ?_)
 conv => whnf
 refine vLoop h ?_
 rintro I0 μ0 ⟨i0, ⟨⟩⟩ zs0 h hI0 hR0
 change laws_eqClockS_loop0 a0 b0 i0 = some zs0 at h
 unfold laws_eqClockS_loop0 at h
 conv => whnf
 refine vIfD h (fun h => ?_) (fun h => ?_)
 conv => whnf
 refine ⟨by kernel_rfl, ?_⟩
 conv => whnf
 refine vAt h (fun x0 he1a he1b he1x h => ?_)
 conv => whnf
 refine vAt h (fun x1 he2a he2b he2x h => ?_)
 conv => whnf
 refine vBind h (fun eqClock0 hb3 h => ?_)
 conv => whnf
 refine vNots ?_
 refine vIfB h (fun h => ?_) (fun h => ?_)
 conv => whnf
 cases h
 exact ⟨⟨rfl, rfl⟩, hI0 _ rfl⟩
 conv => whnf
 cases h
 obtain rfl := hR0 _ rfl
 exact hK
 conv => whnf
 cases h
 obtain rfl := hR0 _ rfl
 exact hK
 conv => whnf
 cases h
 exact hK
theorem w202 (q0 : SoundC Tryz.prog 123 c178) : SoundC Tryz.prog 138 c202 := by
 refine fn_sound tab_ok (gam_cons q0 gam_nil) mixed {} (fn := Tryz.f138) Tryz.func138 (by kernel_rfl) (by kernel_rfl) ?_
 rintro ⟨a0, b0, ⟨⟩⟩ K ⟨r, h, hK⟩
 change laws_eqExternal a0 b0 = some r at h
 unfold laws_eqExternal at h
 conv => whnf
 refine vNots ?_
 refine vIfD h (fun h => ?_) (fun h => ?_)
 conv => whnf
 refine vNots ?_
 refine vIfD h (fun h => ?_) (fun h => ?_)
 conv => whnf
 refine vBind h (fun eqSpan0 hb0 h => ?_)
 conv => whnf
 refine vNots ?_
 refine vIfB h (fun h => ?_) (fun h => ?_)
 conv => whnf
 refine vBind h (fun eqSpan1 hb1 h => ?_)
 conv => whnf
 refine vNots ?_
 refine vIfB h (fun h => ?_) (fun h => ?_)
 conv => whnf
 cases h
 exact hK
 conv => whnf
 cases h
 exact hK
 conv => whnf
 cases h
 exact hK
 conv => whnf
 cases h
 exact hK
 conv => whnf
 cases h
 exact hK
theorem w203 (q0 : SoundC Tryz.prog 138 c202) : SoundC Tryz.prog 77 c203 := by
 refine fn_sound tab_ok (gam_cons q0 gam_nil) mixed { loops := [(0, [.reg 5 (.dat (.int .i64))])], draws := [(6, [0, 0, 3, 7, 0, 0, 48, 112, 255, 511], .op 0 (.op 1 (.op 2 (.op 3 (.op 4 (.op 5 (.op 6 (.op 7 (.alt 8 (.op 9 (.done)) (.done))))))))))] } (fn := Tryz.f77) Tryz.func77 (by kernel_rfl) (by kernel_rfl) ?_
 rintro ⟨a0, b0, ⟨⟩⟩ K ⟨r, h, hK⟩
 change laws_eqExternalS a0 b0 = some r at h
 unfold laws_eqExternalS at h
 conv => whnf
 refine vNots ?_
 refine vIfD h (fun h => ?_) (fun h => ?_)
 conv => whnf
 refine vLoop h ?_
 rintro I0 μ0 ⟨i0, ⟨⟩⟩ zs0 h hI0 hR0
 change laws_eqExternalS_loop0 a0 b0 i0 = some zs0 at h
 unfold laws_eqExternalS_loop0 at h
 conv => whnf
 refine vIfD h (fun h => ?_) (fun h => ?_)
 conv => whnf
 refine ⟨by kernel_rfl, ?_⟩
 conv => whnf
 refine vAt h (fun x0 he1a he1b he1x h => ?_)
 conv => whnf
 refine vAt h (fun x1 he2a he2b he2x h => ?_)
 conv => whnf
 refine vBind h (fun eqExternal0 hb3 h => ?_)
 conv => whnf
 refine vNots ?_
 refine vIfB h (fun h => ?_) (fun h => ?_)
 conv => whnf
 cases h
 exact ⟨⟨rfl, rfl⟩, hI0 _ rfl⟩
 conv => whnf
 cases h
 obtain rfl := hR0 _ rfl
 exact hK
 conv => whnf
 cases h
 obtain rfl := hR0 _ rfl
 exact hK
 conv => whnf
 cases h
 exact hK
theorem w183 : SoundC Tryz.prog 12 c183 := by
 refine fn_sound tab_ok gam_nil mixed { loops := [(0, [.reg 5 (.dat (.int .i64))])], draws := [(6, [0, 0, 3, 7, 0, 0, 48, 112, 255], .op 0 (.op 1 (.op 2 (.op 3 (.op 4 (.op 5 (.op 6 (.op 7 (.op 8 (.done))))))))))] } (fn := Tryz.f12) Tryz.func12 (by kernel_rfl) (by kernel_rfl) ?_
 rintro ⟨a0, b0, ⟨⟩⟩ K ⟨r, h, hK⟩
 change laws_eqInt64S a0 b0 = some r at h
 unfold laws_eqInt64S at h
 conv => whnf
 refine vNots ?_
 refine vIfD h (fun h => ?_) (fun h => ?_)
 conv => whnf
 refine vLoop h ?_
 rintro I0 μ0 ⟨i0, ⟨⟩⟩ zs0 h hI0 hR0
 change laws_eqInt64S_loop0 a0 b0 i0 = some zs0 at h
 unfold laws_eqInt64S_loop0 at h
 conv => whnf
 refine vIfD h (fun h => ?_) (fun h => ?_)
 conv => whnf
 refine ⟨by kernel_rfl, ?_⟩
 conv => whnf
 refine vAt h (fun x0 he1a he1b he1x h => ?_)
 conv => whnf
 refine vAt h (fun x1 he2a he2b he2x h => ?_)
 conv => whnf
 refine vNots ?_
 refine vIfD h (fun h => ?_) (fun h => ?_)
 conv => whnf
 cases h
 exact ⟨⟨rfl, rfl⟩, hI0 _ rfl⟩
 conv => whnf
 cases h
 obtain rfl := hR0 _ rfl
 exact hK
 conv => whnf
 cases h
 obtain rfl := hR0 _ rfl
 exact hK
 conv => whnf
 cases h
 exact hK
theorem w190 (q0 : SoundC Tryz.prog 103 c189) : SoundC Tryz.prog 47 c190 := by
 refine fn_sound tab_ok (gam_cons q0 gam_nil) mixed {} (fn := Tryz.f47) Tryz.func47 (by kernel_rfl) (by kernel_rfl) ?_
 rintro ⟨a0, b0, ⟨⟩⟩ K ⟨r, h, hK⟩
 change laws_eqLibrary a0 b0 = some r at h
 unfold laws_eqLibrary at h
 conv => whnf
 refine vBind h (fun eqCellS0 hb0 h => ?_)
 conv => whnf
 refine vNots ?_
 refine vIfB h (fun h => ?_) (fun h => ?_)
 conv => whnf
 cases h
 exact hK
 conv => whnf
 cases h
 exact hK
theorem w198 (q0 : SoundC Tryz.prog 50 c197) : SoundC Tryz.prog 49 c198 := by
 refine fn_sound tab_ok (gam_cons q0 gam_nil) mixed { loops := [(0, [.reg 5 (.dat (.int .i64))])], draws := [(6, [0, 0, 3, 7, 0, 0, 48, 112, 255, 511], .op 0 (.op 1 (.op 2 (.op 3 (.op 4 (.op 5 (.op 6 (.op 7 (.alt 8 (.op 9 (.done)) (.done))))))))))] } (fn := Tryz.f49) Tryz.func49 (by kernel_rfl) (by kernel_rfl) ?_
 rintro ⟨a0, b0, ⟨⟩⟩ K ⟨r, h, hK⟩
 change laws_eqWireS a0 b0 = some r at h
 unfold laws_eqWireS at h
 conv => whnf
 refine vNots ?_
 refine vIfD h (fun h => ?_) (fun h => ?_)
 conv => whnf
 refine vLoop h ?_
 rintro I0 μ0 ⟨i0, ⟨⟩⟩ zs0 h hI0 hR0
 change laws_eqWireS_loop0 a0 b0 i0 = some zs0 at h
 unfold laws_eqWireS_loop0 at h
 conv => whnf
 refine vIfD h (fun h => ?_) (fun h => ?_)
 conv => whnf
 refine ⟨by kernel_rfl, ?_⟩
 conv => whnf
 refine vAt h (fun x0 he1a he1b he1x h => ?_)
 conv => whnf
 refine vAt h (fun x1 he2a he2b he2x h => ?_)
 conv => whnf
 refine vBind h (fun eqWire0 hb3 h => ?_)
 conv => whnf
 refine vNots ?_
 refine vIfB h (fun h => ?_) (fun h => ?_)
 conv => whnf
 cases h
 exact ⟨⟨rfl, rfl⟩, hI0 _ rfl⟩
 conv => whnf
 cases h
 obtain rfl := hR0 _ rfl
 exact hK
 conv => whnf
 cases h
 obtain rfl := hR0 _ rfl
 exact hK
 conv => whnf
 cases h
 exact hK
theorem w225 (q0 : SoundC Tryz.prog 141 c209) : SoundC Tryz.prog 83 c225 := by
 refine fn_sound tabD_ok (gam_cons q0 gam_nil) mixed { loops := [(0, [.reg 1 (.dat (.int .i64)), .reg 5 (.dat (.int .i64)), .ent 0 (nat_lit 221) (.flat tCorner)])] } (fn := Tryz.f83) Tryz.func83 (by kernel_rfl) (by kernel_rfl) ?_
 rintro ⟨a0, k0, ⟨⟩⟩ K ⟨r, h, hK⟩
 change laws_markCornerS a0 k0 = some r at h
 unfold laws_markCornerS at h
 conv => whnf
 refine vLoop h ?_
 rintro I0 μ0 ⟨k1, i0, l0, ⟨⟩⟩ zs0 h hI0 hR0
 change laws_markCornerS_loop0 k1 i0 l0 = some zs0 at h
 unfold laws_markCornerS_loop0 at h
 conv => whnf
 refine vIfD h (fun h => ?_) (fun h => ?_)
 conv => whnf
 refine vBind h (fun markText0 hb1 h => ?_)
 conv => whnf
 refine vAt h (fun x0 he2a he2b he2x h => ?_)
 conv => whnf
 refine ⟨by kernel_rfl, ?_⟩
 conv => whnf
 refine ⟨by decide, ?_⟩
 conv => whnf
 refine ⟨he2a, he2b, vAgain he2x ?_⟩
 conv => whnf
 refine vAt h (fun x1 he3a he3b he3x h => ?_)
 conv => whnf
 refine ⟨by kernel_rfl, ?_⟩
 conv => whnf
 refine ⟨by decide, ?_⟩
 conv => whnf
 refine ⟨he3a, he3b, vAgain he3x ?_⟩
 conv => whnf
 refine vAt h (fun x2 he4a he4b he4x h => ?_)
 conv => whnf
 refine ⟨by kernel_rfl, ?_⟩
 conv => whnf
 refine ⟨by decide, ?_⟩
 conv => whnf
 refine ⟨he4a, he4b, vAgain he4x ?_⟩
 conv => whnf
 refine vAt h (fun x3 he5a he5b he5x h => ?_)
 conv => whnf
 refine ⟨by kernel_rfl, ?_⟩
 conv => whnf
 refine ⟨by decide, ?_⟩
 conv => whnf
 refine ⟨he5a, he5b, vAgain he5x ?_⟩
 conv => whnf
 refine vAt h (fun x4 he6a he6b he6x h => ?_)
 conv => whnf
 refine ⟨by kernel_rfl, ?_⟩
 conv => whnf
 refine ⟨by decide, ?_⟩
 conv => whnf
 refine ⟨he6a, he6b, vAgain he6x ?_⟩
 conv => whnf
 cases h
 exact ⟨⟨rfl, rfl⟩, hI0 _ rfl⟩
 conv => whnf
 cases h
 obtain rfl := hR0 _ rfl
 exact hK
theorem w223 : SoundC Tryz.prog 81 c223 := by
 refine fn_sound tabD_ok gam_nil mixed { loops := [(0, [.reg 1 (.dat (.int .i64)), .reg 5 (.dat (.int .i64)), .ent 0 (nat_lit 138) (.flat tExternal)])] } (fn := Tryz.f81) Tryz.func81 (by kernel_rfl) (by kernel_rfl) ?_
 rintro ⟨a0, k0, ⟨⟩⟩ K ⟨r, h, hK⟩
 change laws_markExternalS a0 k0 = some r at h
 unfold laws_markExternalS at h
 conv => whnf
 refine vLoop h ?_
 rintro I0 μ0 ⟨k1, i0, l0, ⟨⟩⟩ zs0 h hI0 hR0
 change laws_markExternalS_loop0 k1 i0 l0 = some zs0 at h
 unfold laws_markExternalS_loop0 at h
 conv => whnf
 refine vIfD h (fun h => ?_) (fun h => ?_)
 conv => whnf
 refine vAt h (fun x0 he1a he1b he1x h => ?_)
 conv => whnf
 refine ⟨by kernel_rfl, ?_⟩
 conv => whnf
 refine ⟨by decide, ?_⟩
 conv => whnf
 refine ⟨he1a, he1b, vAgain he1x ?_⟩
 conv => whnf
 refine vAt h (fun x1 he2a he2b he2x h => ?_)
 conv => whnf
 refine ⟨by kernel_rfl, ?_⟩
 conv => whnf
 refine ⟨by decide, ?_⟩
 conv => whnf
 refine ⟨he2a, he2b, vAgain he2x ?_⟩
 conv => whnf
 refine vAt h (fun x2 he3a he3b he3x h => ?_)
 conv => whnf
 refine ⟨by kernel_rfl, ?_⟩
 conv => whnf
 refine ⟨by decide, ?_⟩
 conv => whnf
 refine ⟨he3a, he3b, vAgain he3x ?_⟩
 conv => whnf
 refine vAt h (fun x3 he4a he4b he4x h => ?_)
 conv => whnf
 refine ⟨by kernel_rfl, ?_⟩
 conv => whnf
 refine ⟨by decide, ?_⟩
 conv => whnf
 refine ⟨he4a, he4b, vAgain he4x ?_⟩
 conv => whnf
 refine vAt h (fun x4 he5a he5b he5x h => ?_)
 conv => whnf
 refine ⟨by kernel_rfl, ?_⟩
 conv => whnf
 refine ⟨by decide, ?_⟩
 conv => whnf
 refine ⟨he5a, he5b, vAgain he5x ?_⟩
 conv => whnf
 refine vAt h (fun x5 he6a he6b he6x h => ?_)
 conv => whnf
 refine ⟨by kernel_rfl, ?_⟩
 conv => whnf
 refine ⟨by decide, ?_⟩
 conv => whnf
 refine ⟨he6a, he6b, vAgain he6x ?_⟩
 conv => whnf
 cases h
 exact ⟨⟨rfl, rfl⟩, hI0 _ rfl⟩
 conv => whnf
 cases h
 obtain rfl := hR0 _ rfl
 exact hK
theorem w212 (q0 : SoundC Tryz.prog 17 c211) : SoundC Tryz.prog 218 c212 := by
 refine fn_sound tabD_ok (gam_cons q0 gam_nil) mixed { loops := [(0, [.reg 1 (.dat (.int .i64)), .reg 5 (.dat (.int .i64)), .ent 0 (nat_lit 329) (Dp.pair (Dp.ol (2 : Go.TypeId) (Dp.flat (Ty.int IntKind.i64))) (Dp.pair (Dp.ol (2 : Go.TypeId) (Dp.flat (Ty.int IntKind.i64))) (Dp.pair (Dp.ol (2 : Go.TypeId) (Dp.flat (Ty.int IntKind.i64))) (Dp.flat Ty.unit))))])] } (fn := Tryz.f218) Tryz.func218 (by kernel_rfl) (by kernel_rfl) ?_
 rintro ⟨a0, k0, ⟨⟩⟩ K ⟨r, h, hK⟩
 change laws_markTableS a0 k0 = some r at h
 unfold laws_markTableS at h
 conv => whnf
 intro fp0
 conv => whnf
 refine vLoop h ?_
 rintro I1 μ1 ⟨k1, i0, l0, ⟨⟩⟩ zs1 h hI1 hR1
 change laws_markTableS_loop0 k1 i0 l0 = some zs1 at h
 unfold laws_markTableS_loop0 at h
 conv => whnf
 intro fp2
 conv => whnf
 refine vIfD h (fun h => ?_) (fun h => ?_)
 conv => whnf
 refine vAt h (fun x0 he3a he3b he3x h => ?_)
 conv => whnf
 refine ⟨he3a, he3b, vAgain he3x ?_⟩
 conv => whnf
 intro fp4
 conv => whnf
 refine vBind h (fun markInt64S0 hb5 h => ?_)
 conv => whnf
 refine ⟨he3a, he3b, vAgain he3x ?_⟩
 conv => whnf
 refine .inl ⟨rfl, ?_⟩
 conv => whnf
 refine vBind h (fun markInt64S1 hb6 h => ?_)
 conv => whnf
 refine ⟨he3a, he3b, vAgain he3x ?_⟩
 conv => whnf
 refine .inl ⟨rfl, ?_⟩
 conv => whnf
 refine vBind h (fun markInt64S2 hb7 h => ?_)
 conv => whnf
 cases h
 exact ⟨⟨rfl, rfl⟩, hI1 _ rfl⟩
 conv => whnf
 cases h
 obtain rfl := hR1 _ rfl
 exact hK
theorem w15 (q0 : SoundC Tryz.prog 85 c11) (q1 : SoundC Tryz.prog 86 c12) (q2 : SoundC Tryz.prog 87 c14) : SoundC Tryz.prog 36 c15 := by
 refine fn_sound tab_ok (gam_cons q0 (gam_cons q1 (gam_cons q2 gam_nil))) mixed {} (fn := Tryz.f36) Tryz.func36 (by kernel_rfl) (by kernel_rfl) ?_
 rintro ⟨a0, left0, ⟨⟩⟩ K ⟨r, h, hK⟩
 change laws_szDesign a0 left0 = some r at h
 unfold laws_szDesign at h
 conv => whnf
 refine vBind h (fun szInstanceS0 hb0 h => ?_)
 conv => whnf
 refine vIfD h (fun h => ?_) (fun h => ?_)
 conv => whnf
 cases h
 exact hK
 conv => whnf
 refine vBind h (fun szStringS0 hb1 h => ?_)
 conv => whnf
 refine vIfD h (fun h => ?_) (fun h => ?_)
 conv => whnf
 cases h
 exact hK
 conv => whnf
 refine vBind h (fun szPortS0 hb2 h => ?_)
 conv => whnf
 refine vIfD h (fun h => ?_) (fun h => ?_)
 conv => whnf
 cases h
 exact hK
 conv => whnf
 cases h
 exact hK
theorem w22 (q0 : SoundC Tryz.prog 88 c2) : SoundC Tryz.prog 125 c22 := by
 refine fn_sound tab_ok (gam_cons q0 gam_nil) mixed {} (fn := Tryz.f125) Tryz.func125 (by kernel_rfl) (by kernel_rfl) ?_
 rintro ⟨a0, left0, ⟨⟩⟩ K ⟨r, h, hK⟩
 change laws_szException a0 left0 = some r at h
 unfold laws_szException at h
 conv => whnf
 refine vBind h (fun szInt64S0 hb0 h => ?_)
 conv => whnf
 refine vIfD h (fun h => ?_) (fun h => ?_)
 conv => whnf
 cases h
 exact hK
 conv => whnf
 refine vBind h (fun szInt64S1 hb1 h => ?_)
 conv => whnf
 refine vIfD h (fun h => ?_) (fun h => ?_)
 conv => whnf
 cases h
 exact hK
 conv => whnf
 refine vBind h (fun szInt64S2 hb2 h => ?_)
 conv => whnf
 refine vIfD h (fun h => ?_) (fun h => ?_)
 conv => whnf
 cases h
 exact hK
 conv => whnf
 cases h
 exact hK
theorem w14 (q0 : SoundC Tryz.prog 144 c13) : SoundC Tryz.prog 87 c14 := by
 refine fn_sound tab_ok (gam_cons q0 gam_nil) mixed { loops := [(0, [.reg 1 (.dat (.int .i64)), .reg 5 (.dat (.int .i64))])] } (fn := Tryz.f87) Tryz.func87 (by kernel_rfl) (by kernel_rfl) ?_
 rintro ⟨a0, left0, ⟨⟩⟩ K ⟨r, h, hK⟩
 change laws_szPortS a0 left0 = some r at h
 unfold laws_szPortS at h
 conv => whnf
 refine vIfD h (fun h => ?_) (fun h => ?_)
 conv => whnf
 cases h
 exact hK
 conv => whnf
 refine vLoop h ?_
 rintro I0 μ0 ⟨left1, i0, ⟨⟩⟩ zs0 h hI0 hR0
 change laws_szPortS_loop0 a0 left1 i0 = some zs0 at h
 unfold laws_szPortS_loop0 at h
 conv => whnf
 refine vIfD h (fun h => ?_) (fun h => ?_)
 conv => whnf
 refine vAt h (fun x0 he1a he1b he1x h => ?_)
 conv => whnf
 refine vBind h (fun szPort0 hb2 h => ?_)
 conv => whnf
 refine vIfD h (fun h => ?_) (fun h => ?_)
 conv => whnf
 cases h
 obtain rfl := hR0 _ rfl
 exact hK
 conv => whnf
 cases h
 exact ⟨⟨rfl, rfl⟩, hI0 _ rfl⟩
 conv => whnf
 cases h
 obtain rfl := hR0 _ rfl
 exact hK
theorem w3 (q0 : SoundC Tryz.prog 88 c2) : SoundC Tryz.prog 271 c3 := by
 refine fn_sound tab_ok (gam_cons q0 gam_nil) mixed {} (fn := Tryz.f271) Tryz.func271 (by kernel_rfl) (by kernel_rfl) ?_
 rintro ⟨a0, left0, ⟨⟩⟩ K ⟨r, h, hK⟩
 change laws_szTable a0 left0 = some r at h
 unfold laws_szTable at h
 conv => whnf
 refine vBind h (fun szInt64S0 hb0 h => ?_)
 conv => whnf
 refine vIfD h (fun h => ?_) (fun h => ?_)
 conv => whnf
 cases h
 exact hK
 conv => whnf
 refine vBind h (fun szInt64S1 hb1 h => ?_)
 conv => whnf
 refine vIfD h (fun h => ?_) (fun h => ?_)
 conv => whnf
 cases h
 exact hK
 conv => whnf
 refine vBind h (fun szInt64S2 hb2 h => ?_)
 conv => whnf
 refine vIfD h (fun h => ?_) (fun h => ?_)
 conv => whnf
 cases h
 exact hK
 conv => whnf
 cases h
 exact hK
theorem w17 (q0 : SoundC Tryz.prog 38 c16) : SoundC Tryz.prog 37 c17 := by
 refine fn_sound tab_ok (gam_cons q0 gam_nil) mixed { loops := [(0, [.reg 1 (.dat (.int .i64)), .reg 5 (.dat (.int .i64))])] } (fn := Tryz.f37) Tryz.func37 (by kernel_rfl) (by kernel_rfl) ?_
 rintro ⟨a0, left0, ⟨⟩⟩ K ⟨r, h, hK⟩
 change laws_szWireS a0 left0 = some r at h
 unfold laws_szWireS at h
 conv => whnf
 refine vIfD h (fun h => ?_) (fun h => ?_)
 conv => whnf
 cases h
 exact hK
 conv => whnf
 refine vLoop h ?_
 rintro I0 μ0 ⟨left1, i0, ⟨⟩⟩ zs0 h hI0 hR0
 change laws_szWireS_loop0 a0 left1 i0 = some zs0 at h
 unfold laws_szWireS_loop0 at h
 conv => whnf
 refine vIfD h (fun h => ?_) (fun h => ?_)
 conv => whnf
 refine vAt h (fun x0 he1a he1b he1x h => ?_)
 conv => whnf
 refine vBind h (fun szWire0 hb2 h => ?_)
 conv => whnf
 refine vIfD h (fun h => ?_) (fun h => ?_)
 conv => whnf
 cases h
 obtain rfl := hR0 _ rfl
 exact hK
 conv => whnf
 cases h
 exact ⟨⟨rfl, rfl⟩, hI0 _ rfl⟩
 conv => whnf
 cases h
 obtain rfl := hR0 _ rfl
 exact hK
theorem w47 (q0 : SoundC Tryz.prog 131 c46) : SoundC Tryz.prog 69 c47 := by
 refine fn_sound tab_ok (gam_cons q0 gam_nil) mixed { loops := [(0, [.reg 4 (.dat (.int .i64)), .ent 0 (nat_lit 143) (.flat ti83.ety)])] } (fn := Tryz.f69) Tryz.func69 (by kernel_rfl) (by kernel_rfl) ?_
 rintro ⟨a0, ⟨⟩⟩ K ⟨r, h, hK⟩
 change laws_toClockS a0 = some r at h
 unfold laws_toClockS at h
 conv => whnf
 refine vPre h (fun hp0 h => ?_)
 conv => whnf
 refine vPre h (fun hp1 h => ?_)
 conv => whnf
 refine vPre h (fun hp2 h => ?_)
 conv => whnf
 refine vPre h (fun hp3 h => ?_)
 conv => whnf
 refine vLoop h ?_
 rintro I4 μ4 ⟨i0, l0, ⟨⟩⟩ zs4 h hI4 hR4
 change laws_toClockS_loop0 a0 i0 l0 = some zs4 at h
 unfold laws_toClockS_loop0 at h
 conv => whnf
 refine vIfD h (fun h => ?_) (fun h => ?_)
 conv => whnf
 refine vAt h (fun x0 he5a he5b he5x h => ?_)
 conv => whnf
 refine vBind h (fun toClock0 hb6 h => ?_)
 conv => whnf
 refine vAt h (fun x1 he7a he7b he7x h => ?_)
 conv => whnf
 refine ⟨by kernel_rfl, ?_⟩
 conv => whnf
 refine ⟨by decide, ?_⟩
 conv => whnf
 refine ⟨he7a, he7b, vAgain he7x ?_⟩
 conv => whnf
 cases h
 exact ⟨⟨rfl, rfl⟩, hI4 _ rfl⟩
 conv => whnf
 cases h
 obtain rfl := hR4 _ rfl
 exact hK
theorem w37 (q0 : SoundC Tryz.prog 98 c29) : SoundC Tryz.prog 155 c37 := by
 refine fn_sound tab_ok (gam_cons q0 gam_nil) mixed {} (fn := Tryz.f155) Tryz.func155 (by kernel_rfl) (by kernel_rfl) ?_
 rintro ⟨a0, ⟨⟩⟩ K ⟨r, h, hK⟩
 change laws_toInstance a0 = some r at h
 unfold laws_toInstance at h
 conv => whnf
 refine vBind h (fun toInt64S0 hb0 h => ?_)
 conv => whnf
 cases h
 exact hK
theorem w27 : SoundC Tryz.prog 231 c27 := by
 refine fn_sound tab_ok gam_nil mixed {} (fn := Tryz.f231) Tryz.func231 (by kernel_rfl) (by kernel_rfl) ?_
 rintro ⟨a0, ⟨⟩⟩ K ⟨r, h, hK⟩
 change laws_toPin a0 = some r at h
 unfold laws_toPin at h
 conv => whnf
 cases h
 exact hK
theorem w48 : SoundC Tryz.prog 115 c48 := by
 refine fn_sound tab_ok gam_nil mixed {} (fn := Tryz.f115) Tryz.func115 (by kernel_rfl) (by kernel_rfl) ?_
 rintro ⟨a0, ⟨⟩⟩ K ⟨r, h, hK⟩
 change laws_toSpan a0 = some r at h
 unfold laws_toSpan at h
 conv => whnf
 cases h
 exact hK
theorem w44 (q0 : SoundC Tryz.prog 44 c43) : SoundC Tryz.prog 43 c44 := by
 refine fn_sound tabD_ok (gam_cons q0 gam_nil) mixed { loops := [(0, [.reg 4 (.dat (.int .i64)), .ent 0 (nat_lit 53) dWire])] } (fn := Tryz.f43) Tryz.func43 (by kernel_rfl) (by kernel_rfl) ?_
 rintro ⟨a0, ⟨⟩⟩ K ⟨r, h, hK⟩
 change laws_toWireS a0 = some r at h
 unfold laws_toWireS at h
 conv => whnf
 refine vPre h (fun hp0 h => ?_)
 conv => whnf
 refine vPre h (fun hp1 h => ?_)
 conv => whnf
 refine vPre h (fun hp2 h => ?_)
 conv => whnf
 refine vPre h (fun hp3 h => ?_)
 conv => whnf
 intro fp4
 conv => whnf
 refine vLoop h ?_
 rintro I5 μ5 ⟨i0, l0, ⟨⟩⟩ zs5 h hI5 hR5
 change laws_toWireS_loop0 a0 i0 l0 = some zs5 at h
 unfold laws_toWireS_loop0 at h
 conv => whnf
 intro fp6
 conv => whnf
 refine vIfD h (fun h => ?_) (fun h => ?_)
 conv => whnf
 refine vAt h (fun x0 he7a he7b he7x h => ?_)
 conv => whnf
 refine vBind h (fun toWire0 hb8 h => ?_)
 conv => whnf
 refine vAt h (fun x1 he9a he9b he9x h => ?_)
 conv => whnf
 refine ⟨he9a, he9b, vAgain he9x ?_⟩
 conv => whnf
 intro fp10
 conv => whnf
 cases h
 exact ⟨⟨rfl, rfl⟩, hI5 _ rfl⟩
 conv => whnf
 cases h
 obtain rfl := hR5 _ rfl
 exact hK
theorem w106 (q0 : SoundC Tryz.prog 307 c105) : SoundC Tryz.prog 297 c106 := by
 refine fn_sound tab_ok (gam_cons q0 gam_nil) mixed {} (fn := Tryz.f297) Tryz.func297 (by kernel_rfl) (by kernel_rfl) ?_
 rintro ⟨s0, f0, ⟨⟩⟩ K ⟨r, h, hK⟩
 change slices_ContainsFunc_Simpl_Table_impl_Table_at_impl_areTables_c1 s0 f0 = some r at h
 unfold slices_ContainsFunc_Simpl_Table_impl_Table_at_impl_areTables_c1 at h
 conv => whnf
 refine vBind h (fun c1_0 hb0 h => ?_)
 conv => whnf
 cases h
 exact hK
theorem w131 (q0 : SoundC Tryz.prog 260 c130) : SoundC Tryz.prog 234 c131 := by
 refine fn_sound tab_ok (gam_cons q0 gam_nil) mixed {} (fn := Tryz.f234) Tryz.func234 (by kernel_rfl) (by kernel_rfl) ?_
 rintro ⟨s0, f0, ⟨⟩⟩ K ⟨r, h, hK⟩
 change slices_ContainsFunc_Sint64_int64_at_impl_Design_isInstance_c1 s0 f0 = some r at h
 unfold slices_ContainsFunc_Sint64_int64_at_impl_Design_isInstance_c1 at h
 conv => whnf
 refine vBind h (fun c1_0 hb0 h => ?_)
 conv => whnf
 cases h
 exact hK
theorem w135 (q0 : SoundC Tryz.prog 237 c134) : SoundC Tryz.prog 202 c135 := by
 refine fn_sound tab_ok (gam_cons q0 gam_nil) mixed {} (fn := Tryz.f202) Tryz.func202 (by kernel_rfl) (by kernel_rfl) ?_
 rintro ⟨s0, f0, ⟨⟩⟩ K ⟨r, h, hK⟩
 change slices_ContainsFunc_Sint_int_at_impl_IsDesign_c1 s0 f0 = some r at h
 unfold slices_ContainsFunc_Sint_int_at_impl_IsDesign_c1 at h
 conv => whnf
 refine vBind h (fun c1_0 hb0 h => ?_)
 conv => whnf
 cases h
 exact hK
theorem w168 (q0 : SoundC Tryz.prog 186 c167) : SoundC Tryz.prog 223 c168 := by
 refine fn_sound tab_ok (gam_cons q0 gam_nil) mixed { loops := [(0, [.reg 8 (.dat (.int .i64))])] } (fn := Tryz.f223) Tryz.func223 (by kernel_rfl) (by kernel_rfl) ?_
 rintro ⟨s0, f0, ⟨⟩⟩ K ⟨r, h, hK⟩
 change slices_IndexFunc_Simpl_Exception_impl_Exception_at_impl_view_isSetup_c2 s0 f0 = some r at h
 unfold slices_IndexFunc_Simpl_Exception_impl_Exception_at_impl_view_isSetup_c2 at h
 conv => whnf
 refine vLoop h ?_
 rintro I0 μ0 ⟨v0, ⟨⟩⟩ zs0 h hI0 hR0
 change slices_IndexFunc_Simpl_Exception_impl_Exception_at_impl_view_isSetup_c2_loop0 s0 f0 v0 = some zs0 at h
 unfold slices_IndexFunc_Simpl_Exception_impl_Exception_at_impl_view_isSetup_c2_loop0 at h
 conv => whnf
 refine vIfD h (fun h => ?_) (fun h => ?_)
 conv => whnf
 refine vAt h (fun x0 he1a he1b he1x h => ?_)
 conv => whnf
 refine vBind h (fun c2_0 hb2 h => ?_)
 conv => whnf
 refine vIfB h (fun h => ?_) (fun h => ?_)
 conv => whnf
 cases h
 obtain rfl := hR0 _ rfl
 exact hK
 conv => whnf
 cases h
 exact ⟨⟨rfl, rfl⟩, hI0 _ rfl⟩
 conv => whnf
 cases h
 obtain rfl := hR0 _ rfl
 exact hK
theorem w134 (q0 : SoundC Tryz.prog 203 c133) : SoundC Tryz.prog 237 c134 := by
 refine fn_sound tab_ok (gam_cons q0 gam_nil) mixed { loops := [(0, [.reg 8 (.dat (.int .i64))])] } (fn := Tryz.f237) Tryz.func237 (by kernel_rfl) (by kernel_rfl) ?_
 rintro ⟨s0, f0, ⟨⟩⟩ K ⟨r, h, hK⟩
 change slices_IndexFunc_Sint_int_at_impl_IsDesign_c1 s0 f0 = some r at h
 unfold slices_IndexFunc_Sint_int_at_impl_IsDesign_c1 at h
 conv => whnf
 refine vLoop h ?_
 rintro I0 μ0 ⟨v0, ⟨⟩⟩ zs0 h hI0 hR0
 change slices_IndexFunc_Sint_int_at_impl_IsDesign_c1_loop0 s0 v0 = some zs0 at h
 unfold slices_IndexFunc_Sint_int_at_impl_IsDesign_c1_loop0 at h
 conv => whnf
 refine vIfD h (fun h => ?_) (fun h => ?_)
 conv => whnf
 refine vAt h (fun x0 he1a he1b he1x h => ?_)
 conv => whnf
 refine vBind h (fun c1_0 hb2 h => ?_)
 conv => whnf
 refine vIfB h (fun h => ?_) (fun h => ?_)
 conv => whnf
 cases h
 obtain rfl := hR0 _ rfl
 exact hK
 conv => whnf
 cases h
 exact ⟨⟨rfl, rfl⟩, hI0 _ rfl⟩
 conv => whnf
 cases h
 obtain rfl := hR0 _ rfl
 exact hK
theorem w103 : SoundC Tryz.prog 300 c103 := by
 refine fn_sound tab_ok gam_nil mixed { loops := [(0, [.reg 3 (.dat (.int .i64)), .reg 4 (.dat (.int .i64))])] } (fn := Tryz.f300) Tryz.func300 (by kernel_rfl) (by kernel_rfl) ?_
 rintro ⟨x0, ⟨⟩⟩ K ⟨r, h, hK⟩
 change slices_Min_Sint64_int64 x0 = some r at h
 unfold slices_Min_Sint64_int64 at h
 conv => whnf
 refine vIfD h (fun h => ?_) (fun h => ?_)
 conv => whnf
 cases h
 conv => whnf
 refine vAt h (fun x1 he0a he0b he0x h => ?_)
 conv => whnf
 refine vLoop h ?_
 rintro I1 μ1 ⟨m0, i0, ⟨⟩⟩ zs1 h hI1 hR1
 change slices_Min_Sint64_int64_loop0 x0 m0 i0 = some zs1 at h
 unfold slices_Min_Sint64_int64_loop0 at h
 conv => whnf
 refine vIfD h (fun h => ?_) (fun h => ?_)
 conv => whnf
 refine vAt h (fun x2 he2a he2b he2x h => ?_)
 conv => whnf
 cases h
 exact ⟨⟨rfl, rfl⟩, hI1 _ rfl⟩
 conv => whnf
 cases h
 obtain rfl := hR1 _ rfl
 exact hK
theorem w65 (q1 : SoundC Tryz.prog 253 c58) (q2 : SoundC Tryz.prog 150 c56) (q4 : SoundC Tryz.prog 112 c57) (q3 : SoundC Tryz.prog 254 c63) (q0 : SoundC Tryz.prog 255 c64) : SoundC Tryz.prog 230 c65 := by
 refine fn_sound tab_ok (gam_cons q1 (gam_cons q2 (gam_cons q4 (gam_cons q3 (gam_cons q0 gam_nil))))) mixed { loops := [(0, [.reg 5 (.dat (.int .i64))]), (2, [.reg 7 (.dat (.int .i64))]), (5, [.reg 9 (.dat (.int .i64))])], draws := [(13, [0, 1, 0, 7, 15, 31, 0, 64, 255, 511, 1023, 2047, 1023, 8191, 16383, 32767, 1023, 66559, 262143, 524287, 1048575, 2097151, 4194303, 2097151, 16777215, 33554431, 67108863, 2097151, 136314879, 536870911, 1073741823], .op 0 (.op 1 (.op 2 (.op 3 (.op 4 (.op 5 (.op 6 (.op 7 (.op 8 (.op 9 (.op 10 (.op 11 (.op 12 (.op 13 (.op 14 (.op 15 (.op 16 (.op 17 (.op 18 (.op 19 (.op 20 (.op 21 (.op 22 (.op 23 (.op 24 (.op 25 (.op 26 (.op 27 (.op 28 (.op 29 (.op 30 (.done)))))))))))))))))))))))))))))))), (25, [0, 1, 3, 7, 15, 31, 63, 127, 255, 511, 1023, 2047, 4095, 511, 8703, 25087, 57855, 131071, 262143, 524287, 1048575, 2097151, 4194303, 8388607, 16777215, 33554431], .op 0 (.op 1 (.op 2 (.op 3 (.op 4 (.op 5 (.op 6 (.op 7 (.op 8 (.op 9 (.op 10 (.op 11 (.op 12 (.op 13 (.op 14 (.op 15 (.op 16 (.op 17 (.op 18 (.op 19 (.op 20 (.op 21 (.op 22 (.op 23 (.op 24 (.op 25 (.done)))))))))))))))))))))))))))] } (fn := Tryz.f230) Tryz.func230 (by kernel_rfl) (by kernel_rfl) ?_
 rintro ⟨a0, ⟨⟩⟩ K ⟨r, h, hK⟩
 change spec_IsCell a0 = some r at h
 unfold spec_IsCell at h
 conv => whnf
 refine vBind h (fun l03Pins0 hb0 h => ?_)
 conv => whnf
 refine vNot ?_
 refine vIfB h (fun h => ?_) (fun h => ?_)
 conv => whnf
 refine vBind h (fun l03Name0 hb1 h => ?_)
 conv => whnf
 refine vNot ?_
 refine vIfB h (fun h => ?_) (fun h => ?_)
 conv => whnf
 refine vIfDs h (fun h => ?_) (fun h => ?_)
 conv => whnf
 cases h
 exact hK
 conv => whnf
 refine vBind h (fun l01In0 hb2 h => ?_)
 conv => whnf
 refine vNot ?_
 refine vIfB h (fun h => ?_) (fun h => ?_)
 conv => whnf
 refine vBind h (fun l01In1 hb3 h => ?_)
 conv => whnf
 refine vNots ?_
 refine vIfB h (fun h => ?_) (fun h => ?_)
 conv => whnf
 refine vLoop h ?_
 rintro I4 μ4 ⟨v0, ⟨⟩⟩ zs4 h hI4 hR4
 change spec_IsCell_loop2 a0 l03Pins0 v0 = some zs4 at h
 unfold spec_IsCell_loop2 at h
 conv => whnf
 refine vIfD h (fun h => ?_) (fun h => ?_)
 conv => whnf
 refine vAt h (fun x0 he5a he5b he5x h => ?_)
 conv => whnf
 refine vBind h (fun l03Arc0 hb6 h => ?_)
 conv => whnf
 refine vNots ?_
 refine vIfB h (fun h => ?_) (fun h => ?_)
 conv => whnf
 refine vLoop h ?_
 rintro I7 μ7 ⟨v1, ⟨⟩⟩ zs7 h hI7 hR7
 change spec_IsCell_loop0 a0 v0 x0 v1 = some zs7 at h
 unfold spec_IsCell_loop0 at h
 conv => whnf
 refine vIfD h (fun h => ?_) (fun h => ?_)
 conv => whnf
 refine ⟨by kernel_rfl, ?_⟩
 conv => whnf
 refine vAt h (fun x1 he8a he8b he8x h => ?_)
 conv => whnf
 refine vIfD h (fun h => ?_) (fun h => ?_)
 conv => whnf
 refine ⟨he8a, he8b, vAgain he8x ?_⟩
 conv => whnf
 refine vIfD h (fun h => ?_) (fun h => ?_)
 conv => whnf
 refine ⟨he8a, he8b, vAgain he8x ?_⟩
 conv => whnf
 refine vIfD h (fun h => ?_) (fun h => ?_)
 conv => whnf
 cases h
 obtain rfl := hR7 _ rfl
 obtain rfl := hR4 _ rfl
 exact hK
 conv => whnf
 cases h
 exact ⟨⟨rfl, rfl⟩, hI7 _ rfl⟩
 conv => whnf
 cases h
 exact ⟨⟨rfl, rfl⟩, hI7 _ rfl⟩
 conv => whnf
 cases h
 exact ⟨⟨rfl, rfl⟩, hI7 _ rfl⟩
 conv => whnf
 cases h
 obtain rfl := hR7 _ rfl
 exact ⟨⟨rfl, rfl⟩, hI4 _ rfl⟩
 conv => whnf
 cases h
 obtain rfl := hR4 _ rfl
 exact hK
 conv => whnf
 refine vBind h (fun l03Kinds0 hb9 h => ?_)
 conv => whnf
 refine vIfD h (fun h => ?_) (fun h => ?_)
 conv => whnf
 refine vLoop h ?_
 rintro I10 μ10 ⟨v1, ⟨⟩⟩ zs10 h hI10 hR10
 change spec_IsCell_loop1 a0 l03Pins0 v1 = some zs10 at h
 unfold spec_IsCell_loop1 at h
 conv => whnf
 refine vIfD h (fun h => ?_) (fun h => ?_)
 conv => whnf
 refine vAt h (fun x0 he11a he11b he11x h => ?_)
 conv => whnf
 refine vBind h (fun l01In2 hb12 h => ?_)
 conv => whnf
 refine vNots ?_
 refine vIfB h (fun h => ?_) (fun h => ?_)
 conv => whnf
 cases h
 exact ⟨⟨rfl, rfl⟩, hI10 _ rfl⟩
 conv => whnf
 cases h
 obtain rfl := hR10 _ rfl
 obtain rfl := hR4 _ rfl
 exact hK
 conv => whnf
 refine vIfD h (fun h => ?_) (fun h => ?_)
 conv => whnf
 refine vPre h (fun hp13 h => ?_)
 conv => whnf
 cases h
 obtain rfl := hR10 _ rfl
 obtain rfl := hR4 _ rfl
 exact hK
 conv => whnf
 cases h
 obtain rfl := hR10 _ rfl
 obtain rfl := hR4 _ rfl
 exact hK
 conv => whnf
 refine vIfD h (fun h => ?_) (fun h => ?_)
 conv => whnf
 refine ⟨by kernel_rfl, ?_⟩
 conv => whnf
 refine vIfD h (fun h => ?_) (fun h => ?_)
 conv => whnf
 refine vAt h (fun x0 he14a he14b he14x h => ?_)
 conv => whnf
 refine ⟨by kernel_rfl, ?_⟩
 conv => whnf
 refine ⟨he14a, he14b, vAgain he14x ?_⟩
 conv => whnf
 refine vIfD h (fun h => ?_) (fun h => ?_)
 conv => whnf
 refine vAt h (fun x1 he15a he15b he15x h => ?_)
 conv => whnf
 refine ⟨by kernel_rfl, ?_⟩
 conv => whnf
 refine ⟨he15a, he15b, vAgain he15x ?_⟩
 conv => whnf
 refine vAt h (fun x2 he16a he16b he16x h => ?_)
 conv => whnf
 refine ⟨by kernel_rfl, ?_⟩
 conv => whnf
 refine ⟨he16a, he16b, vAgain he16x ?_⟩
 conv => whnf
 refine vNots ?_
 refine vIfB h (fun h => ?_) (fun h => ?_)
 conv => whnf
 cases h
 obtain rfl := hR4 _ rfl
 exact hK
 conv => whnf
 cases h
 obtain rfl := hR4 _ rfl
 exact hK
 conv => whnf
 cases h
 obtain rfl := hR4 _ rfl
 exact hK
 conv => whnf
 cases h
 obtain rfl := hR4 _ rfl
 exact hK
 conv => whnf
 refine vIfD h (fun h => ?_) (fun h => ?_)
 conv => whnf
 refine vIfD h (fun h => ?_) (fun h => ?_)
 conv => whnf
 refine vAt h (fun x0 he17a he17b he17x h => ?_)
 conv => whnf
 refine ⟨by kernel_rfl, ?_⟩
 conv => whnf
 refine ⟨he17a, he17b, vAgain he17x ?_⟩
 conv => whnf
 refine vIfD h (fun h => ?_) (fun h => ?_)
 conv => whnf
 refine vAt h (fun x1 he18a he18b he18x h => ?_)
 conv => whnf
 refine ⟨by kernel_rfl, ?_⟩
 conv => whnf
 refine ⟨he18a, he18b, vAgain he18x ?_⟩
 conv => whnf
 refine vIfD h (fun h => ?_) (fun h => ?_)
 conv => whnf
 refine vAt h (fun x2 he19a he19b he19x h => ?_)
 conv => whnf
 refine ⟨by kernel_rfl, ?_⟩
 conv => whnf
 refine ⟨he19a, he19b, vAgain he19x ?_⟩
 conv => whnf
 refine vIfD h (fun h => ?_) (fun h => ?_)
 conv => whnf
 cases h
 obtain rfl := hR4 _ rfl
 exact hK
 conv => whnf
 cases h
 obtain rfl := hR4 _ rfl
 exact hK
 conv => whnf
 cases h
 obtain rfl := hR4 _ rfl
 exact hK
 conv => whnf
 cases h
 obtain rfl := hR4 _ rfl
 exact hK
 conv => whnf
 cases h
 obtain rfl := hR4 _ rfl
 exact hK
 conv => whnf
 cases h
 obtain rfl := hR4 _ rfl
 exact hK
 conv => whnf
 cases h
 exact hK
 conv => whnf
 cases h
 exact hK
 conv => whnf
 cases h
 exact hK
 conv => whnf
 cases h
 exact hK
theorem w77 (q1 : SoundC Tryz.prog 175 c74) (q0 : SoundC Tryz.prog 176 c75) (q2 : SoundC Tryz.prog 112 c57) (q3 : SoundC Tryz.prog 68 c76) : SoundC Tryz.prog 127 c77 := by
 refine fn_sound tab_ok (gam_cons q1 (gam_cons q0 (gam_cons q2 (gam_cons q3 gam_nil)))) mixed { loops := [(0, [.reg 3 (.dat (.int .i64))]), (2, [.reg 5 (.dat (.int .i64))])], draws := [(10, [0, 0, 3, 7, 15, 0, 32, 127], .op 0 (.op 1 (.op 2 (.op 3 (.op 4 (.op 5 (.op 6 (.op 7 (.done)))))))))] } (fn := Tryz.f127) Tryz.func127 (by kernel_rfl) (by kernel_rfl) ?_
 rintro ⟨a0, ⟨⟩⟩ K ⟨r, h, hK⟩
 change spec_IsClocks a0 = some r at h
 unfold spec_IsClocks at h
 conv => whnf
 refine vLoop h ?_
 rintro I0 μ0 ⟨v0, ⟨⟩⟩ zs0 h hI0 hR0
 change spec_IsClocks_loop1 a0 v0 = some zs0 at h
 unfold spec_IsClocks_loop1 at h
 conv => whnf
 refine vIfD h (fun h => ?_) (fun h => ?_)
 conv => whnf
 refine vIfD h (fun h => ?_) (fun h => ?_)
 conv => whnf
 refine vAt h (fun x0 he1a he1b he1x h => ?_)
 conv => whnf
 refine vBind h (fun l14Plain0 hb2 h => ?_)
 conv => whnf
 refine vNots ?_
 refine vIfB h (fun h => ?_) (fun h => ?_)
 conv => whnf
 refine vLoop h ?_
 rintro I3 μ3 ⟨v1, ⟨⟩⟩ zs3 h hI3 hR3
 change spec_IsClocks_loop0 a0 v0 x0 v1 = some zs3 at h
 unfold spec_IsClocks_loop0 at h
 conv => whnf
 refine vIfD h (fun h => ?_) (fun h => ?_)
 conv => whnf
 refine ⟨by kernel_rfl, ?_⟩
 conv => whnf
 refine vAt h (fun x1 he4a he4b he4x h => ?_)
 conv => whnf
 refine vIfD h (fun h => ?_) (fun h => ?_)
 conv => whnf
 cases h
 obtain rfl := hR3 _ rfl
 obtain rfl := hR0 _ rfl
 exact hK
 conv => whnf
 cases h
 exact ⟨⟨rfl, rfl⟩, hI3 _ rfl⟩
 conv => whnf
 refine vIfD h (fun h => ?_) (fun h => ?_)
 conv => whnf
 refine vBind h (fun l14Primary0 hb5 h => ?_)
 conv => whnf
 refine vNots ?_
 refine vIfB h (fun h => ?_) (fun h => ?_)
 conv => whnf
 cases h
 obtain rfl := hR3 _ rfl
 exact ⟨⟨rfl, rfl⟩, hI0 _ rfl⟩
 conv => whnf
 cases h
 obtain rfl := hR3 _ rfl
 obtain rfl := hR0 _ rfl
 exact hK
 conv => whnf
 refine vBind h (fun l01In0 hb6 h => ?_)
 conv => whnf
 refine vNot ?_
 refine vIfB h (fun h => ?_) (fun h => ?_)
 conv => whnf
 refine vBind h (fun l01In1 hb7 h => ?_)
 conv => whnf
 refine vNot ?_
 refine vIfB h (fun h => ?_) (fun h => ?_)
 conv => whnf
 refine vNot ?_
 refine vIfD h (fun h => ?_) (fun h => ?_)
 conv => whnf
 refine vNot ?_
 refine vIfD h (fun h => ?_) (fun h => ?_)
 conv => whnf
 refine vNot ?_
 refine vIfD h (fun h => ?_) (fun h => ?_)
 conv => whnf
 refine vBind h (fun l14Of0 hb8 h => ?_)
 conv => whnf
 refine vIfD h (fun h => ?_) (fun h => ?_)
 conv => whnf
 cases h
 obtain rfl := hR3 _ rfl
 obtain rfl := hR0 _ rfl
 exact hK
 conv => whnf
 cases h
 obtain rfl := hR3 _ rfl
 exact ⟨⟨rfl, rfl⟩, hI0 _ rfl⟩
 conv => whnf
 cases h
 obtain rfl := hR3 _ rfl
 obtain rfl := hR0 _ rfl
 exact hK
 conv => whnf
 cases h
 obtain rfl := hR3 _ rfl
 obtain rfl := hR0 _ rfl
 exact hK
 conv => whnf
 cases h
 obtain rfl := hR3 _ rfl
 obtain rfl := hR0 _ rfl
 exact hK
 conv => whnf
 cases h
 obtain rfl := hR3 _ rfl
 obtain rfl := hR0 _ rfl
 exact hK
 conv => whnf
 cases h
 obtain rfl := hR3 _ rfl
 obtain rfl := hR0 _ rfl
 exact hK
 conv => whnf
 cases h
 obtain rfl := hR0 _ rfl
 exact hK
 conv => whnf
 cases h
 obtain rfl := hR0 _ rfl
 exact hK
 conv => whnf
 cases h
 obtain rfl := hR0 _ rfl
 exact hK
theorem w82 (q1 : SoundC Tryz.prog 89 c73) (q0 : SoundC Tryz.prog 178 c81) (q2 : SoundC Tryz.prog 112 c57) : SoundC Tryz.prog 129 c82 := by
 refine fn_sound tab_ok (gam_cons q1 (gam_cons q0 (gam_cons q2 gam_nil))) mixed {} (fn := Tryz.f129) Tryz.func129 (by kernel_rfl) (by kernel_rfl) ?_
 rintro ⟨b0, e0, ⟨⟩⟩ K ⟨r, h, hK⟩
 change spec_IsException b0 e0 = some r at h
 unfold spec_IsException at h
 conv => whnf
 refine vBind h (fun IsBlock0 hb0 h => ?_)
 conv => whnf
 refine vNot ?_
 refine vIfB h (fun h => ?_) (fun h => ?_)
 conv => whnf
 refine vBind h (fun l22Places0 hb1 h => ?_)
 conv => whnf
 refine vNot ?_
 refine vIfB h (fun h => ?_) (fun h => ?_)
 conv => whnf
 refine vBind h (fun l22Places1 hb2 h => ?_)
 conv => whnf
 refine vNot ?_
 refine vIfB h (fun h => ?_) (fun h => ?_)
 conv => whnf
 refine vBind h (fun l22Places2 hb3 h => ?_)
 conv => whnf
 refine vNots ?_
 refine vIfB h (fun h => ?_) (fun h => ?_)
 conv => whnf
 refine vIfD h (fun h => ?_) (fun h => ?_)
 conv => whnf
 cases h
 exact hK
 conv => whnf
 refine vIfD h (fun h => ?_) (fun h => ?_)
 conv => whnf
 refine vBind h (fun l01In0 hb4 h => ?_)
 conv => whnf
 cases h
 exact hK
 conv => whnf
 refine vIfD h (fun h => ?_) (fun h => ?_)
 conv => whnf
 refine vIfD h (fun h => ?_) (fun h => ?_)
 conv => whnf
 refine vBind h (fun l01In0 hb5 h => ?_)
 conv => whnf
 cases h
 exact hK
 conv => whnf
 cases h
 exact hK
 conv => whnf
 refine vIfD h (fun h => ?_) (fun h => ?_)
 conv => whnf
 refine vBind h (fun l01In0 hb6 h => ?_)
 conv => whnf
 cases h
 exact hK
 conv => whnf
 cases h
 exact hK
 conv => whnf
 cases h
 exact hK
 conv => whnf
 cases h
 exact hK
 conv => whnf
 cases h
 exact hK
 conv => whnf
 cases h
 exact hK
theorem w86 (q0 : SoundC Tryz.prog 67 c85) (q1 : SoundC Tryz.prog 68 c76) : SoundC Tryz.prog 27 c86 := by
 refine fn_sound tab_ok (gam_cons q0 (gam_cons q1 gam_nil)) mixed { loops := [(0, [.reg 6 (.own (.ol 145 (.flat (tTarget)))), .reg 7 (.dat (.int .i64))])] } (fn := Tryz.f27) Tryz.func27 (by kernel_rfl) (by kernel_rfl) ?_
 rintro ⟨a0, a1, ⟨⟩⟩ K ⟨r, h, hK⟩
 change spec_SetupTargets a0 a1 = some r at h
 unfold spec_SetupTargets at h
 conv => whnf
 refine vBind h (fun IsSetup0 hb0 h => ?_)
 conv => whnf
 refine vNots ?_
 refine vIfB h (fun h => ?_) (fun h => ?_)
 conv => whnf
 refine vLoop h ?_
 rintro I1 μ1 ⟨v0, v1, ⟨⟩⟩ zs1 h hI1 hR1
 change spec_SetupTargets_loop0 a1 v0 v1 = some zs1 at h
 unfold spec_SetupTargets_loop0 at h
 conv => whnf
 refine vIfD h (fun h => ?_) (fun h => ?_)
 conv => whnf
 refine vAt h (fun x0 he2a he2b he2x h => ?_)
 conv => whnf
 refine vBind h (fun l14Of0 hb3 h => ?_)
 conv => whnf
 refine vAt h (fun x1 he4a he4b he4x h => ?_)
 conv => whnf
 refine vPre h (fun hp5 h => ?_)
 conv => whnf
 cases h
 exact ⟨⟨rfl, rfl⟩, hI1 _ rfl⟩
 conv => whnf
 cases h
 obtain rfl := hR1 _ rfl
 exact hK
 conv => whnf
 cases h
 exact hK
theorem w61 (q0 : SoundC Tryz.prog 296 c60) : SoundC Tryz.prog 286 c61 := by
 refine fn_sound tab_ok (gam_cons q0 gam_nil) mixed { loops := [(0, [.reg 5 (.dat (.int .i64)), .cell 2 0 (.int .i64), .cell 2 1 (.int .i64)])], draws := [(3, [0, 1, 3, 7, 0, 16, 48, 112, 255, 0, 1023], .op 0 (.op 1 (.op 2 (.op 3 (.op 4 (.op 5 (.op 6 (.op 7 (.op 8 (.alt 9 (.alt 10 (.done) (.done)) (.done))))))))))), (7, [0, 1, 0, 4, 0, 28, 60, 127, 255, 511], .op 0 (.op 1 (.op 2 (.op 3 (.op 4 (.op 5 (.op 6 (.op 7 (.op 8 (.alt 9 (.done) (.done))))))))))), (8, [0, 1, 0, 4, 0, 28, 60, 127, 255, 511], .op 0 (.op 1 (.op 2 (.op 3 (.op 4 (.op 5 (.op 6 (.op 7 (.op 8 (.alt 9 (.done) (.done)))))))))))] } (fn := Tryz.f286) Tryz.func286 (by kernel_rfl) (by kernel_rfl) ?_
 rintro ⟨t0, ⟨⟩⟩ K ⟨r, h, hK⟩
 change spec_TableBounds t0 = some r at h
 unfold spec_TableBounds at h
 conv => whnf
 refine vBind h (fun IsTable0 hb0 h => ?_)
 conv => whnf
 refine vNots ?_
 refine vIfB h (fun h => ?_) (fun h => ?_)
 conv => whnf
 refine ⟨by kernel_rfl, ?_⟩
 conv => whnf
 refine vAt h (fun x0 he1a he1b he1x h => ?_)
 conv => whnf
 refine ⟨he1a, he1b, vAgain he1x ?_⟩
 conv => whnf
 refine vLoop h ?_
 rintro I2 μ2 ⟨i0, c0, c1, ⟨⟩⟩ zs2 h hI2 hR2
 change spec_TableBounds_loop0 t0 i0 c0 c1 = some zs2 at h
 unfold spec_TableBounds_loop0 at h
 conv => whnf
 refine vIfD h (fun h => ?_) (fun h => ?_)
 conv => whnf
 refine ⟨by kernel_rfl, ?_⟩
 conv => whnf
 refine vAt h (fun x1 he3a he3b he3x h => ?_)
 conv => whnf
 refine ⟨by kernel_rfl, ?_⟩
 conv => whnf
 refine ⟨he3a, he3b, vAgain he3x ?_⟩
 conv => whnf
 cases h
 exact ⟨⟨rfl, rfl⟩, hI2 _ rfl⟩
 conv => whnf
 cases h
 obtain rfl := hR2 _ rfl
 exact hK
 conv => whnf
 cases h
 exact hK
theorem w56 : SoundC Tryz.prog 150 c56 := by
 refine fn_sound tab_ok gam_nil mixed { loops := [(0, [.reg 3 (.dat (.int .i64))])] } (fn := Tryz.f150) Tryz.func150 (by kernel_rfl) (by kernel_rfl) ?_
 rintro ⟨s0, ⟨⟩⟩ K ⟨r, h, hK⟩
 change spec_l03Name s0 = some r at h
 unfold spec_l03Name at h
 conv => whnf
 refine vLoop h ?_
 rintro I0 μ0 ⟨i0, ⟨⟩⟩ zs0 h hI0 hR0
 change spec_l03Name_loop0 s0 i0 = some zs0 at h
 unfold spec_l03Name_loop0 at h
 conv => whnf
 refine vIfD h (fun h => ?_) (fun h => ?_)
 conv => whnf
 refine vAt h (fun x0 he1a he1b he1x h => ?_)
 conv => whnf
 refine vIfD h (fun h => ?_) (fun h => ?_)
 conv => whnf
 refine ⟨he1a, he1b, vAgain he1x ?_⟩
 conv => whnf
 refine ⟨he1a, he1b, vAgain he1x ?_⟩
 conv => whnf
 refine vIfD h (fun h => ?_) (fun h => ?_)
 conv => whnf
 refine ⟨he1a, he1b, vAgain he1x ?_⟩
 conv => whnf
 refine vNots ?_
 refine vIfD h (fun h => ?_) (fun h => ?_)
 conv => whnf
 cases h
 exact ⟨⟨rfl, rfl⟩, hI0 _ rfl⟩
 conv => whnf
 refine vIfD h (fun h => ?_) (fun h => ?_)
 conv => whnf
 refine vNots ?_
 refine vIfD h (fun h => ?_) (fun h => ?_)
 conv => whnf
 cases h
 exact ⟨⟨rfl, rfl⟩, hI0 _ rfl⟩
 conv => whnf
 cases h
 obtain rfl := hR0 _ rfl
 exact hK
 conv => whnf
 cases h
 obtain rfl := hR0 _ rfl
 exact hK
 conv => whnf
 refine vNots ?_
 refine vIfD h (fun h => ?_) (fun h => ?_)
 conv => whnf
 cases h
 exact ⟨⟨rfl, rfl⟩, hI0 _ rfl⟩
 conv => whnf
 cases h
 obtain rfl := hR0 _ rfl
 exact hK
 conv => whnf
 refine ⟨he1a, he1b, vAgain he1x ?_⟩
 conv => whnf
 refine vIfD h (fun h => ?_) (fun h => ?_)
 conv => whnf
 refine ⟨he1a, he1b, vAgain he1x ?_⟩
 conv => whnf
 refine vIfD h (fun h => ?_) (fun h => ?_)
 conv => whnf
 refine vNots ?_
 refine vIfD h (fun h => ?_) (fun h => ?_)
 conv => whnf
 cases h
 exact ⟨⟨rfl, rfl⟩, hI0 _ rfl⟩
 conv => whnf
 cases h
 obtain rfl := hR0 _ rfl
 exact hK
 conv => whnf
 cases h
 obtain rfl := hR0 _ rfl
 exact hK
 conv => whnf
 cases h
 obtain rfl := hR0 _ rfl
 exact hK
 conv => whnf
 refine vIfD h (fun h => ?_) (fun h => ?_)
 conv => whnf
 cases h
 obtain rfl := hR0 _ rfl
 exact hK
 conv => whnf
 cases h
 obtain rfl := hR0 _ rfl
 exact hK
end Go.Proofs.YtaccffcigblceaaGreatDoor
