/-
  The functions keep their contracts, if what they call does. Printed by program.
-/
import Derived.Test.YtaccffcigblceaaGreatDoorM
import Derived.KernelRfl
namespace Go.Proofs.YtaccffcigblceaaGreatDoor
open Go Go.Sx
set_option maxRecDepth 100000
set_option linter.unusedVariables false
set_option linter.unusedSimpArgs false
theorem w117 (q1 : SoundC Tryz.prog 275 c113) (q0 : SoundC Tryz.prog 276 c116) : SoundC Tryz.prog 258 c117 := by
 refine fn_sound tab_ok (gam_cons q1 (gam_cons q0 gam_nil)) mixed { loops := [(0, [.reg 8 (.dat (.int .i64))])] } (fn := Tryz.f258) Tryz.func258 (by kernel_rfl) (by kernel_rfl) ?_
 rintro ⟨c0, ⟨⟩⟩ K ⟨r, h, hK⟩
 change impl_Cell_areArcs c0 = some r at h
 unfold impl_Cell_areArcs at h
 conv => whnf
 refine vLoop h ?_
 rintro I0 μ0 ⟨v0, ⟨⟩⟩ zs0 h hI0 hR0
 change impl_Cell_areArcs_loop0 c0 v0 = some zs0 at h
 unfold impl_Cell_areArcs_loop0 at h
 conv => whnf
 refine vIfD h (fun h => ?_) (fun h => ?_)
 conv => whnf
 refine vAt h (fun x0 he1a he1b he1x h => ?_)
 conv => whnf
 refine vBind h (fun isArc0 hb2 h => ?_)
 conv => whnf
 refine vNot ?_
 refine vIfB h (fun h => ?_) (fun h => ?_)
 conv => whnf
 refine ⟨by decide, ?_⟩
 conv => whnf
 refine vPre h (fun hp3 h => ?_)
 conv => whnf
 refine vPre h (fun hp4 h => ?_)
 conv => whnf
 refine vBind h (fun c1_0 hb5 h => ?_)
 conv => whnf
 refine vIfB h (fun h => ?_) (fun h => ?_)
 conv => whnf
 cases h
 obtain rfl := hR0 _ rfl
 exact hK
 conv => whnf
 cases h
 exact ⟨⟨rfl, rfl⟩, hI0 _ rfl⟩
 conv => whnf
 cases h
 obtain rfl := hR0 _ rfl
 exact hK
 conv => whnf
 cases h
 obtain rfl := hR0 _ rfl
 exact hK
theorem w114 : SoundC Tryz.prog 277 c114 := by
 refine fn_sound tab_ok gam_nil mixed {} (fn := Tryz.f277) Tryz.func277 (by kernel_rfl) (by kernel_rfl) ?_
 rintro ⟨o0, a0, ⟨⟩⟩ K ⟨r, h, hK⟩
 change impl_Cell_areArcs_c1 o0 a0 = some r at h
 unfold impl_Cell_areArcs_c1 at h
 conv => whnf
 refine vIfD h (fun h => ?_) (fun h => ?_)
 conv => whnf
 refine vIfD h (fun h => ?_) (fun h => ?_)
 conv => whnf
 cases h
 exact hK
 conv => whnf
 cases h
 exact hK
 conv => whnf
 cases h
 exact hK
theorem w113 (q4 : SoundC Tryz.prog 287 c94) (q3 : SoundC Tryz.prog 288 c107) (q2 : SoundC Tryz.prog 289 c110) (q0 : SoundC Tryz.prog 290 c112) (q1 : SoundC Tryz.prog 278 c111) (q5 : SoundC Tryz.prog 171 c87) : SoundC Tryz.prog 275 c113 := by
 refine fn_sound tab_ok (gam_cons q4 (gam_cons q3 (gam_cons q2 (gam_cons q0 (gam_cons q1 (gam_cons q5 gam_nil)))))) mixed { draws := [(2, [0, 1, 3, 7, 15, 31, 63, 127, 255, 511, 1023, 2047, 4095, 8191, 16383, 32767, 65535, 32767, 163839, 524287, 1048575, 2097151, 4194303, 8388607, 16777215, 33554431, 67108863, 134217727, 134217727, 402653183, 1073741823, 2147483647, 4294967295, 8589934591, 17179869183, 8589934591, 42949672959, 137438953471, 274877906943, 549755813887], .op 0 (.op 1 (.op 2 (.op 3 (.op 4 (.op 5 (.op 6 (.op 7 (.op 8 (.op 9 (.op 10 (.op 11 (.alt 12 (.op 13 (.op 14 (.op 15 (.op 16 (.op 17 (.alt 18 (.op 19 (.op 20 (.op 21 (.op 22 (.op 23 (.op 24 (.op 25 (.op 26 (.op 27 (.op 28 (.op 29 (.alt 30 (.op 31 (.op 32 (.op 33 (.op 34 (.op 35 (.op 36 (.op 37 (.op 38 (.op 39 (.done)))))))))) (.done))))))))))))) (.done))))))) (.done)))))))))))))), (3, [0, 1, 3, 7, 15, 31, 63, 127, 255, 511, 1023, 2047, 4095, 2047, 10239, 32767, 65535, 131071, 262143, 262143, 786431, 2097151, 4194303, 8388607], .op 0 (.op 1 (.alt 2 (.op 3 (.op 4 (.op 5 (.op 6 (.alt 7 (.op 8 (.op 9 (.op 10 (.op 11 (.op 12 (.op 13 (.alt 14 (.op 15 (.op 16 (.op 17 (.op 18 (.op 19 (.op 20 (.alt 21 (.op 22 (.op 23 (.done))) (.done)))))))) (.done)))))))) (.done)))))) (.done))))] } (fn := Tryz.f275) Tryz.func275 (by kernel_rfl) (by kernel_rfl) ?_
 rintro ⟨a0, a1, ⟨⟩⟩ K ⟨r, h, hK⟩
 change impl_Cell_isArc a0 a1 = some r at h
 unfold impl_Cell_isArc at h
 conv => whnf
 refine vBind h (fun isCheck0 hb0 h => ?_)
 conv => whnf
 refine vIfB h (fun h => ?_) (fun h => ?_)
 conv => whnf
 refine ⟨by kernel_rfl, ?_⟩
 conv => whnf
 refine vIfD h (fun h => ?_) (fun h => ?_)
 conv => whnf
 refine vIfD h (fun h => ?_) (fun h => ?_)
 conv => whnf
 refine vBind h (fun areTables0 hb1 h => ?_)
 conv => whnf
 refine vIfB h (fun h => ?_) (fun h => ?_)
 conv => whnf
 refine vBind h (fun clock0 hb2 h => ?_)
 conv => whnf
 refine vIfD h (fun h => ?_) (fun h => ?_)
 conv => whnf
 refine vIfD h (fun h => ?_) (fun h => ?_)
 conv => whnf
 refine vBind h (fun isInput0 hb3 h => ?_)
 conv => whnf
 refine vIfB h (fun h => ?_) (fun h => ?_)
 conv => whnf
 cases h
 exact hK
 conv => whnf
 cases h
 exact hK
 conv => whnf
 cases h
 exact hK
 conv => whnf
 cases h
 exact hK
 conv => whnf
 cases h
 exact hK
 conv => whnf
 cases h
 exact hK
 conv => whnf
 cases h
 exact hK
 conv => whnf
 refine ⟨by kernel_rfl, ?_⟩
 conv => whnf
 refine vBind h (fun areTables0 hb4 h => ?_)
 conv => whnf
 refine vNot ?_
 refine vIfB h (fun h => ?_) (fun h => ?_)
 conv => whnf
 refine vBind h (fun areTables1 hb5 h => ?_)
 conv => whnf
 refine vNot ?_
 refine vIfB h (fun h => ?_) (fun h => ?_)
 conv => whnf
 refine vBind h (fun output0 hb6 h => ?_)
 conv => whnf
 refine vNot ?_
 refine vIfD h (fun h => ?_) (fun h => ?_)
 conv => whnf
 refine vBind h (fun isInput0 hb7 h => ?_)
 conv => whnf
 refine vNots ?_
 refine vIfB h (fun h => ?_) (fun h => ?_)
 conv => whnf
 refine vIfD h (fun h => ?_) (fun h => ?_)
 conv => whnf
 refine vAt h (fun x0 he8a he8b he8x h => ?_)
 conv => whnf
 refine vNots ?_
 refine vIfB h (fun h => ?_) (fun h => ?_)
 conv => whnf
 cases h
 exact hK
 conv => whnf
 refine vBind h (fun within0 hb9 h => ?_)
 conv => whnf
 cases h
 exact hK
 conv => whnf
 refine vIfD h (fun h => ?_) (fun h => ?_)
 conv => whnf
 refine vIfD h (fun h => ?_) (fun h => ?_)
 conv => whnf
 refine vAt h (fun x0 he10a he10b he10x h => ?_)
 conv => whnf
 refine vIfB h (fun h => ?_) (fun h => ?_)
 conv => whnf
 cases h
 exact hK
 conv => whnf
 cases h
 exact hK
 conv => whnf
 cases h
 exact hK
 conv => whnf
 refine vIfD h (fun h => ?_) (fun h => ?_)
 conv => whnf
 refine vAt h (fun x0 he11a he11b he11x h => ?_)
 conv => whnf
 refine vIfB h (fun h => ?_) (fun h => ?_)
 conv => whnf
 cases h
 exact hK
 conv => whnf
 cases h
 exact hK
 conv => whnf
 cases h
 exact hK
 conv => whnf
 cases h
 exact hK
 conv => whnf
 cases h
 exact hK
 conv => whnf
 cases h
 exact hK
 conv => whnf
 cases h
 exact hK
theorem w122 (q0 : SoundC Tryz.prog 278 c111) (q1 : SoundC Tryz.prog 205 c99) (q2 : SoundC Tryz.prog 279 c121) : SoundC Tryz.prog 259 c122 := by
 refine fn_sound tab_ok (gam_cons q0 (gam_cons q1 (gam_cons q2 gam_nil))) mixed { loops := [(0, [.reg 3 (.dat (.int .i64)), .reg 9 (.dat (.int .i64))])], draws := [(10, [0, 1, 3, 7, 15, 31, 7, 71, 199, 511, 1023, 2047, 4095, 8191, 16383, 32767, 65535], .op 0 (.op 1 (.op 2 (.op 3 (.op 4 (.op 5 (.op 6 (.alt 7 (.op 8 (.op 9 (.op 10 (.op 11 (.op 12 (.op 13 (.alt 14 (.op 15 (.op 16 (.done))) (.done)))))))) (.done))))))))), (12, [0, 1, 3, 7, 15, 31, 63, 127, 255, 511, 1023, 2047, 4095, 8191, 16383, 32767, 16383, 131071, 262143, 524287, 1048575], .op 0 (.op 1 (.op 2 (.op 3 (.op 4 (.op 5 (.op 6 (.op 7 (.op 8 (.op 9 (.alt 10 (.op 11 (.op 12 (.op 13 (.op 14 (.op 16 (.alt 15 (.alt 17 (.op 18 (.op 19 (.op 20 (.done)))) (.done)) (.done))))))) (.done))))))))))))] } (fn := Tryz.f259) Tryz.func259 (by kernel_rfl) (by kernel_rfl) ?_
 rintro ⟨a0, ⟨⟩⟩ K ⟨r, h, hK⟩
 change impl_Cell_isOfKind a0 = some r at h
 unfold impl_Cell_isOfKind at h
 conv => whnf
 refine vLoop h ?_
 rintro I0 μ0 ⟨v0, v1, ⟨⟩⟩ zs0 h hI0 hR0
 change impl_Cell_isOfKind_loop0 a0 v0 v1 = some zs0 at h
 unfold impl_Cell_isOfKind_loop0 at h
 conv => whnf
 refine vIfD h (fun h => ?_) (fun h => ?_)
 conv => whnf
 refine vAt h (fun x0 he1a he1b he1x h => ?_)
 conv => whnf
 refine vIfB h (fun h => ?_) (fun h => ?_)
 conv => whnf
 cases h
 exact ⟨⟨rfl, rfl⟩, hI0 _ rfl⟩
 conv => whnf
 cases h
 exact ⟨⟨rfl, rfl⟩, hI0 _ rfl⟩
 conv => whnf
 refine vIfD h (fun h => ?_) (fun h => ?_)
 conv => whnf
 refine ⟨by kernel_rfl, ?_⟩
 conv => whnf
 refine vIfD h (fun h => ?_) (fun h => ?_)
 conv => whnf
 refine vBind h (fun output0 hb2 h => ?_)
 conv => whnf
 refine vPre h (fun hp3 h => ?_)
 conv => whnf
 refine vIfD h (fun h => ?_) (fun h => ?_)
 conv => whnf
 refine vBind h (fun areWithin0 hb4 h => ?_)
 conv => whnf
 cases h
 obtain rfl := hR0 _ rfl
 exact hK
 conv => whnf
 cases h
 obtain rfl := hR0 _ rfl
 exact hK
 conv => whnf
 cases h
 obtain rfl := hR0 _ rfl
 exact hK
 conv => whnf
 refine vIfD h (fun h => ?_) (fun h => ?_)
 conv => whnf
 refine ⟨by kernel_rfl, ?_⟩
 conv => whnf
 refine vIfD h (fun h => ?_) (fun h => ?_)
 conv => whnf
 refine vIfD h (fun h => ?_) (fun h => ?_)
 conv => whnf
 refine vBind h (fun has0 hb5 h => ?_)
 conv => whnf
 refine vNots ?_
 refine vIfB h (fun h => ?_) (fun h => ?_)
 conv => whnf
 cases h
 obtain rfl := hR0 _ rfl
 exact hK
 conv => whnf
 refine vBind h (fun has1 hb6 h => ?_)
 conv => whnf
 refine vBind h (fun has2 hb7 h => ?_)
 conv => whnf
 cases h
 obtain rfl := hR0 _ rfl
 exact hK
 conv => whnf
 cases h
 obtain rfl := hR0 _ rfl
 exact hK
 conv => whnf
 cases h
 obtain rfl := hR0 _ rfl
 exact hK
 conv => whnf
 refine vIfD h (fun h => ?_) (fun h => ?_)
 conv => whnf
 refine vIfD h (fun h => ?_) (fun h => ?_)
 conv => whnf
 refine vIfD h (fun h => ?_) (fun h => ?_)
 conv => whnf
 refine vBind h (fun has0 hb8 h => ?_)
 conv => whnf
 refine vIfB h (fun h => ?_) (fun h => ?_)
 conv => whnf
 refine vBind h (fun has1 hb9 h => ?_)
 conv => whnf
 refine vIfB h (fun h => ?_) (fun h => ?_)
 conv => whnf
 refine vBind h (fun has2 hb10 h => ?_)
 conv => whnf
 cases h
 obtain rfl := hR0 _ rfl
 exact hK
 conv => whnf
 cases h
 obtain rfl := hR0 _ rfl
 exact hK
 conv => whnf
 cases h
 obtain rfl := hR0 _ rfl
 exact hK
 conv => whnf
 cases h
 obtain rfl := hR0 _ rfl
 exact hK
 conv => whnf
 cases h
 obtain rfl := hR0 _ rfl
 exact hK
 conv => whnf
 cases h
 obtain rfl := hR0 _ rfl
 exact hK
theorem w133 : SoundC Tryz.prog 203 c133 := by
 refine fn_sound tab_ok gam_nil mixed {} (fn := Tryz.f203) Tryz.func203 (by kernel_rfl) (by kernel_rfl) ?_
 rintro ⟨n0, ⟨⟩⟩ K ⟨r, h, hK⟩
 change impl_IsDesign_c1 n0 = some r at h
 unfold impl_IsDesign_c1 at h
 conv => whnf
 cases h
 exact hK
theorem w102 (q1 : SoundC Tryz.prog 308 c101) (q0 : SoundC Tryz.prog 205 c99) : SoundC Tryz.prog 299 c102 := by
 refine fn_sound tab_ok (gam_cons q1 (gam_cons q0 gam_nil)) mixed {} (fn := Tryz.f299) Tryz.func299 (by kernel_rfl) (by kernel_rfl) ?_
 rintro ⟨t0, ⟨⟩⟩ K ⟨r, h, hK⟩
 change impl_IsTable t0 = some r at h
 unfold impl_IsTable at h
 conv => whnf
 refine vBind h (fun isAxis0 hb0 h => ?_)
 conv => whnf
 refine vIfB h (fun h => ?_) (fun h => ?_)
 conv => whnf
 refine vBind h (fun isAxis1 hb1 h => ?_)
 conv => whnf
 refine vIfB h (fun h => ?_) (fun h => ?_)
 conv => whnf
 refine vIfD h (fun h => ?_) (fun h => ?_)
 conv => whnf
 refine vBind h (fun areWithin0 hb2 h => ?_)
 conv => whnf
 cases h
 exact hK
 conv => whnf
 cases h
 exact hK
 conv => whnf
 cases h
 exact hK
 conv => whnf
 cases h
 exact hK
theorem w93 (q2 : SoundC Tryz.prog 171 c87) (q0 : SoundC Tryz.prog 274 c89) (q1 : SoundC Tryz.prog 221 c92) : SoundC Tryz.prog 257 c93 := by
 refine fn_sound tab_ok (gam_cons q2 (gam_cons q0 (gam_cons q1 gam_nil))) mixed { loops := [(0, [.reg 3 (.own (.ol 9 (.flat (.str)))), .reg 8 (.dat (.int .i64))])] } (fn := Tryz.f257) Tryz.func257 (by kernel_rfl) (by kernel_rfl) ?_
 rintro ⟨list0, ⟨⟩⟩ K ⟨r, h, hK⟩
 change impl_arePins list0 = some r at h
 unfold impl_arePins at h
 conv => whnf
 refine vLoop h ?_
 rintro I0 μ0 ⟨names0, v0, ⟨⟩⟩ zs0 h hI0 hR0
 change impl_arePins_loop0 list0 names0 v0 = some zs0 at h
 unfold impl_arePins_loop0 at h
 conv => whnf
 refine vIfD h (fun h => ?_) (fun h => ?_)
 conv => whnf
 refine vAt h (fun x0 he1a he1b he1x h => ?_)
 conv => whnf
 refine vPre h (fun hp2 h => ?_)
 conv => whnf
 refine vIfD h (fun h => ?_) (fun h => ?_)
 conv => whnf
 refine vNot ?_
 refine vIfD h (fun h => ?_) (fun h => ?_)
 conv => whnf
 refine vNot ?_
 refine vIfD h (fun h => ?_) (fun h => ?_)
 conv => whnf
 refine vIfB h (fun h => ?_) (fun h => ?_)
 conv => whnf
 cases h
 obtain rfl := hR0 _ rfl
 exact hK
 conv => whnf
 cases h
 exact ⟨⟨rfl, rfl⟩, hI0 _ rfl⟩
 conv => whnf
 cases h
 obtain rfl := hR0 _ rfl
 exact hK
 conv => whnf
 cases h
 obtain rfl := hR0 _ rfl
 exact hK
 conv => whnf
 refine vNot ?_
 refine vIfD h (fun h => ?_) (fun h => ?_)
 conv => whnf
 refine vBind h (fun within0 hb3 h => ?_)
 conv => whnf
 refine vNots ?_
 refine vIfB h (fun h => ?_) (fun h => ?_)
 conv => whnf
 cases h
 exact ⟨⟨rfl, rfl⟩, hI0 _ rfl⟩
 conv => whnf
 cases h
 obtain rfl := hR0 _ rfl
 exact hK
 conv => whnf
 cases h
 obtain rfl := hR0 _ rfl
 exact hK
 conv => whnf
 refine vBind h (fun Pin0 hb4 h => ?_)
 conv => whnf
 refine vBind h (fun within0 hb5 h => ?_)
 conv => whnf
 refine vIfB h (fun h => ?_) (fun h => ?_)
 conv => whnf
 refine vBind h (fun areNames0 hb6 h => ?_)
 conv => whnf
 cases h
 obtain rfl := hR0 _ rfl
 exact hK
 conv => whnf
 cases h
 obtain rfl := hR0 _ rfl
 exact hK
theorem w163 (q0 : SoundC Tryz.prog 121 c161) (q1 : SoundC Tryz.prog 174 c162) : SoundC Tryz.prog 122 c163 := by
 refine fn_sound tab_ok (gam_cons q0 (gam_cons q1 gam_nil)) mixed {} (fn := Tryz.f122) Tryz.func122 (by kernel_rfl) (by kernel_rfl) ?_
 rintro ⟨s0, ⟨⟩⟩ K ⟨r, h, hK⟩
 change impl_areSlews s0 = some r at h
 unfold impl_areSlews at h
 conv => whnf
 refine vBind h (fun IsSpan0 hb0 h => ?_)
 conv => whnf
 refine vIfB h (fun h => ?_) (fun h => ?_)
 conv => whnf
 refine vBind h (fun isSlew0 hb1 h => ?_)
 conv => whnf
 refine vIfB h (fun h => ?_) (fun h => ?_)
 conv => whnf
 refine vBind h (fun isSlew1 hb2 h => ?_)
 conv => whnf
 cases h
 exact hK
 conv => whnf
 cases h
 exact hK
 conv => whnf
 cases h
 exact hK
theorem w96 (q0 : SoundC Tryz.prog 171 c87) : SoundC Tryz.prog 238 c96 := by
 refine fn_sound tab_ok (gam_cons q0 gam_nil) mixed {} (fn := Tryz.f238) Tryz.func238 (by kernel_rfl) (by kernel_rfl) ?_
 rintro ⟨n0, a0, a1, ⟨⟩⟩ K ⟨r, h, hK⟩
 change impl_areWithin_c1 n0 a0 a1 = some r at h
 unfold impl_areWithin_c1 at h
 conv => whnf
 refine vBind h (fun within0 hb0 h => ?_)
 conv => whnf
 cases h
 exact hK
theorem w127 : SoundC Tryz.prog 236 c127 := by
 refine fn_sound tab_ok gam_nil mixed {} (fn := Tryz.f236) Tryz.func236 (by kernel_rfl) (by kernel_rfl) ?_
 rintro ⟨list0, ⟨⟩⟩ K ⟨r, h, hK⟩
 change impl_length_string list0 = some r at h
 unfold impl_length_string at h
 conv => whnf
 cases h
 exact hK
theorem wb_impl_waveOf (rec0 : (List TClock) → Int → Option Twave) (hrec : SoundC Tryz.prog 136 (cb_impl_waveOf rec0)) : SoundC Tryz.prog 136 (cb_impl_waveOf (impl_waveOf_body rec0)) := by
 refine fn_sound tab_ok (gam_cons hrec gam_nil) mixed {} (fn := Tryz.f136) Tryz.func136 (by kernel_rfl) (by kernel_rfl) ?_
 rintro ⟨list0, k0, ⟨⟩⟩ K ⟨r, h, hK⟩
 change impl_waveOf_body rec0 list0 k0 = some r at h
 unfold impl_waveOf_body at h
 conv => whnf
 refine vAt h (fun x0 he0a he0b he0x h => ?_)
 conv => whnf
 refine vIfD h (fun h => ?_) (fun h => ?_)
 conv => whnf
 cases h
 exact hK
 conv => whnf
 refine vBind h (fun r0 hb1 h => ?_)
 conv => whnf
 refine vIfD h (fun h => ?_) (fun h => ?_)
 conv => whnf
 refine ⟨by decide, ?_⟩
 conv => whnf
 refine vIfB h (fun h => ?_) (fun h => ?_)
 conv => whnf
 cases h
 exact hK
 conv => whnf
 cases h
 exact hK
 conv => whnf
 refine vIfB h (fun h => ?_) (fun h => ?_)
 conv => whnf
 cases h
 exact hK
 conv => whnf
 cases h
 exact hK
theorem w152 : SoundC Tryz.prog 136 c152 := by
 have hn : ∀ n, SoundC Tryz.prog 136 (cb_impl_waveOf (impl_waveOf_n n)) := by
  intro n
  induction n with
  | zero =>
  refine fn_sound tab_ok gam_nil mixed {} (fn := Tryz.f136) Tryz.func136 (by kernel_rfl) (by kernel_rfl) ?_
  rintro ⟨list0, k0, ⟨⟩⟩ K ⟨r, h, hK⟩
  cases h
  | succ n ih => exact wb_impl_waveOf _ ih
 refine ⟨(hn 0).1, ?_⟩
 rintro w S vs ⟨list0, k0, ⟨⟩⟩ fp K h1 h2 h3 h4 ⟨r, h, hK⟩
 obtain ⟨n, hr⟩ := recM_some h
 exact (hn n).2 w S vs _ fp K h1 h2 h3 h4 ⟨r, hr, hK⟩
theorem w186 (q0 : SoundC Tryz.prog 270 c185) : SoundC Tryz.prog 248 c186 := by
 refine fn_sound tab_ok (gam_cons q0 gam_nil) mixed {} (fn := Tryz.f248) Tryz.func248 (by kernel_rfl) (by kernel_rfl) ?_
 rintro ⟨a0, b0, ⟨⟩⟩ K ⟨r, h, hK⟩
 change laws_eqArc a0 b0 = some r at h
 unfold laws_eqArc at h
 conv => whnf
 refine vNots ?_
 refine vIfD h (fun h => ?_) (fun h => ?_)
 conv => whnf
 refine vNots ?_
 refine vIfD h (fun h => ?_) (fun h => ?_)
 conv => whnf
 refine vNots ?_
 refine vIfD h (fun h => ?_) (fun h => ?_)
 conv => whnf
 refine vNots ?_
 refine vIfD h (fun h => ?_) (fun h => ?_)
 conv => whnf
 refine vBind h (fun eqTableS0 hb0 h => ?_)
 conv => whnf
 refine vNots ?_
 refine vIfB h (fun h => ?_) (fun h => ?_)
 conv => whnf
 refine vBind h (fun eqTableS1 hb1 h => ?_)
 conv => whnf
 refine vNots ?_
 refine vIfB h (fun h => ?_) (fun h => ?_)
 conv => whnf
 cases h
 exact hK
 conv => whnf
 cases h
 exact hK
 conv => whnf
 cases h
 exact hK
 conv => whnf
 cases h
 exact hK
 conv => whnf
 cases h
 exact hK
 conv => whnf
 cases h
 exact hK
 conv => whnf
 cases h
 exact hK
theorem w207 (q0 : SoundC Tryz.prog 140 c206) : SoundC Tryz.prog 79 c207 := by
 refine fn_sound tab_ok (gam_cons q0 gam_nil) mixed { loops := [(0, [.reg 5 (.dat (.int .i64))])], draws := [(6, [0, 0, 3, 7, 0, 0, 48, 112, 255, 511], .op 0 (.op 1 (.op 2 (.op 3 (.op 4 (.op 5 (.op 6 (.op 7 (.alt 8 (.op 9 (.done)) (.done))))))))))] } (fn := Tryz.f79) Tryz.func79 (by kernel_rfl) (by kernel_rfl) ?_
 rintro ⟨a0, b0, ⟨⟩⟩ K ⟨r, h, hK⟩
 change laws_eqCornerS a0 b0 = some r at h
 unfold laws_eqCornerS at h
 conv => whnf
 refine vNots ?_
 refine vIfD h (fun h => ?_) (fun h => ?_)
 conv => whnf
 refine vLoop h ?_
 rintro I0 μ0 ⟨i0, ⟨⟩⟩ zs0 h hI0 hR0
 change laws_eqCornerS_loop0 a0 b0 i0 = some zs0 at h
 unfold laws_eqCornerS_loop0 at h
 conv => whnf
 refine vIfD h (fun h => ?_) (fun h => ?_)
 conv => whnf
 refine ⟨by kernel_rfl, ?_⟩
 conv => whnf
 refine vAt h (fun x0 he1a he1b he1x h => ?_)
 conv => whnf
 refine vAt h (fun x1 he2a he2b he2x h => ?_)
 conv => whnf
 refine vBind h (fun eqCorner0 hb3 h => ?_)
 conv => whnf
 refine vNots ?_
 refine vIfB h (fun h => ?_) (fun h => ?_)
 conv => whnf
 cases h
 exact ⟨⟨rfl, rfl⟩, hI0 _ rfl⟩
 conv => whnf
 cases h
 obtain rfl := hR0 _ rfl
 exact hK
 conv => whnf
 cases h
 obtain rfl := hR0 _ rfl
 exact hK
 conv => whnf
 cases h
 exact hK
theorem w192 (q0 : SoundC Tryz.prog 162 c191) : SoundC Tryz.prog 104 c192 := by
 refine fn_sound tab_ok (gam_cons q0 gam_nil) mixed { loops := [(0, [.reg 5 (.dat (.int .i64))])], draws := [(6, [0, 0, 3, 7, 0, 0, 48, 112, 255, 511], .op 0 (.op 1 (.op 2 (.op 3 (.op 4 (.op 5 (.op 6 (.op 7 (.alt 8 (.op 9 (.done)) (.done))))))))))] } (fn := Tryz.f104) Tryz.func104 (by kernel_rfl) (by kernel_rfl) ?_
 rintro ⟨a0, b0, ⟨⟩⟩ K ⟨r, h, hK⟩
 change laws_eqInstanceS a0 b0 = some r at h
 unfold laws_eqInstanceS at h
 conv => whnf
 refine vNots ?_
 refine vIfD h (fun h => ?_) (fun h => ?_)
 conv => whnf
 refine vLoop h ?_
 rintro I0 μ0 ⟨i0, ⟨⟩⟩ zs0 h hI0 hR0
 change laws_eqInstanceS_loop0 a0 b0 i0 = some zs0 at h
 unfold laws_eqInstanceS_loop0 at h
 conv => whnf
 refine vIfD h (fun h => ?_) (fun h => ?_)
 conv => whnf
 refine ⟨by kernel_rfl, ?_⟩
 conv => whnf
 refine vAt h (fun x0 he1a he1b he1x h => ?_)
 conv => whnf
 refine vAt h (fun x1 he2a he2b he2x h => ?_)
 conv => whnf
 refine vBind h (fun eqInstance0 hb3 h => ?_)
 conv => whnf
 refine vNots ?_
 refine vIfB h (fun h => ?_) (fun h => ?_)
 conv => whnf
 cases h
 exact ⟨⟨rfl, rfl⟩, hI0 _ rfl⟩
 conv => whnf
 cases h
 obtain rfl := hR0 _ rfl
 exact hK
 conv => whnf
 cases h
 obtain rfl := hR0 _ rfl
 exact hK
 conv => whnf
 cases h
 exact hK
theorem w181 : SoundC Tryz.prog 247 c181 := by
 refine fn_sound tab_ok gam_nil mixed {} (fn := Tryz.f247) Tryz.func247 (by kernel_rfl) (by kernel_rfl) ?_
 rintro ⟨a0, b0, ⟨⟩⟩ K ⟨r, h, hK⟩
 change laws_eqPin a0 b0 = some r at h
 unfold laws_eqPin at h
 conv => whnf
 refine vNots ?_
 refine vIfD h (fun h => ?_) (fun h => ?_)
 conv => whnf
 refine vNots ?_
 refine vIfD h (fun h => ?_) (fun h => ?_)
 conv => whnf
 refine vNots ?_
 refine vIfD h (fun h => ?_) (fun h => ?_)
 conv => whnf
 refine vNots ?_
 refine vIfB h (fun h => ?_) (fun h => ?_)
 conv => whnf
 cases h
 exact hK
 conv => whnf
 cases h
 exact hK
 conv => whnf
 cases h
 exact hK
 conv => whnf
 cases h
 exact hK
 conv => whnf
 cases h
 exact hK
theorem w194 : SoundC Tryz.prog 163 c194 := by
 refine fn_sound tab_ok gam_nil mixed {} (fn := Tryz.f163) Tryz.func163 (by kernel_rfl) (by kernel_rfl) ?_
 rintro ⟨a0, b0, ⟨⟩⟩ K ⟨r, h, hK⟩
 change laws_eqPort a0 b0 = some r at h
 unfold laws_eqPort at h
 conv => whnf
 refine vNots ?_
 refine vIfD h (fun h => ?_) (fun h => ?_)
 conv => whnf
 refine vNots ?_
 refine vIfD h (fun h => ?_) (fun h => ?_)
 conv => whnf
 refine vNots ?_
 refine vIfD h (fun h => ?_) (fun h => ?_)
 conv => whnf
 cases h
 exact hK
 conv => whnf
 cases h
 exact hK
 conv => whnf
 cases h
 exact hK
 conv => whnf
 cases h
 exact hK
theorem w184 (q0 : SoundC Tryz.prog 12 c183) : SoundC Tryz.prog 285 c184 := by
 refine fn_sound tab_ok (gam_cons q0 gam_nil) mixed {} (fn := Tryz.f285) Tryz.func285 (by kernel_rfl) (by kernel_rfl) ?_
 rintro ⟨a0, b0, ⟨⟩⟩ K ⟨r, h, hK⟩
 change laws_eqTable a0 b0 = some r at h
 unfold laws_eqTable at h
 conv => whnf
 refine vBind h (fun eqInt64S0 hb0 h => ?_)
 conv => whnf
 refine vNots ?_
 refine vIfB h (fun h => ?_) (fun h => ?_)
 conv => whnf
 refine vBind h (fun eqInt64S1 hb1 h => ?_)
 conv => whnf
 refine vNots ?_
 refine vIfB h (fun h => ?_) (fun h => ?_)
 conv => whnf
 refine vBind h (fun eqInt64S2 hb2 h => ?_)
 conv => whnf
 refine vNots ?_
 refine vIfB h (fun h => ?_) (fun h => ?_)
 conv => whnf
 cases h
 exact hK
 conv => whnf
 cases h
 exact hK
 conv => whnf
 cases h
 exact hK
 conv => whnf
 cases h
 exact hK
theorem w226 (q3 : SoundC Tryz.prog 80 c222) (q1 : SoundC Tryz.prog 81 c223) (q0 : SoundC Tryz.prog 82 c224) (q2 : SoundC Tryz.prog 83 c225) : SoundC Tryz.prog 32 c226 := by
 refine fn_sound tabD_ok (gam_cons q3 (gam_cons q1 (gam_cons q0 (gam_cons q2 gam_nil)))) mixed {} (fn := Tryz.f32) Tryz.func32 (by kernel_rfl) (by kernel_rfl) ?_
 rintro ⟨a0, k0, ⟨⟩⟩ K ⟨r, h, hK⟩
 change laws_markSetup a0 k0 = some r at h
 unfold laws_markSetup at h
 conv => whnf
 intro fp0
 conv => whnf
 refine vBind h (fun markClockS0 hb1 h => ?_)
 conv => whnf
 refine vBind h (fun markExternalS0 hb2 h => ?_)
 conv => whnf
 refine vBind h (fun markExternalS1 hb3 h => ?_)
 conv => whnf
 refine vBind h (fun markExceptionS0 hb4 h => ?_)
 conv => whnf
 intro fp5
 conv => whnf
 refine vBind h (fun markCornerS0 hb6 h => ?_)
 conv => whnf
 cases h
 exact hK
theorem w220 (q0 : SoundC Tryz.prog 17 c211) : SoundC Tryz.prog 53 c220 := by
 refine fn_sound tabD_ok (gam_cons q0 gam_nil) mixed { loops := [(0, [.reg 1 (.dat (.int .i64)), .reg 5 (.dat (.int .i64)), .ent 0 (nat_lit 53) (Dp.pair (Dp.ol (2 : Go.TypeId) (Dp.flat (Ty.int IntKind.i64))) (Dp.pair (Dp.ol (2 : Go.TypeId) (Dp.flat (Ty.int IntKind.i64))) (Dp.pair (Dp.ol (2 : Go.TypeId) (Dp.flat (Ty.int IntKind.i64))) (Dp.pair (Dp.ol (2 : Go.TypeId) (Dp.flat (Ty.int IntKind.i64))) (Dp.flat Ty.unit)))))])] } (fn := Tryz.f53) Tryz.func53 (by kernel_rfl) (by kernel_rfl) ?_
 rintro ⟨a0, k0, ⟨⟩⟩ K ⟨r, h, hK⟩
 change laws_markWireS a0 k0 = some r at h
 unfold laws_markWireS at h
 conv => whnf
 intro fp0
 conv => whnf
 refine vLoop h ?_
 rintro I1 μ1 ⟨k1, i0, l0, ⟨⟩⟩ zs1 h hI1 hR1
 change laws_markWireS_loop0 k1 i0 l0 = some zs1 at h
 unfold laws_markWireS_loop0 at h
 conv => whnf
 intro fp2
 conv => whnf
 refine vIfD h (fun h => ?_) (fun h => ?_)
 conv => whnf
 refine vAt h (fun x0 he3a he3b he3x h => ?_)
 conv => whnf
 refine ⟨he3a, he3b, vAgain he3x ?_⟩
 conv => whnf
 intro fp4
 conv => whnf
 refine vBind h (fun markInt64S0 hb5 h => ?_)
 conv => whnf
 refine ⟨he3a, he3b, vAgain he3x ?_⟩
 conv => whnf
 refine .inl ⟨rfl, ?_⟩
 conv => whnf
 refine vBind h (fun markInt64S1 hb6 h => ?_)
 conv => whnf
 refine ⟨he3a, he3b, vAgain he3x ?_⟩
 conv => whnf
 refine .inl ⟨rfl, ?_⟩
 conv => whnf
 refine vBind h (fun markInt64S2 hb7 h => ?_)
 conv => whnf
 refine ⟨he3a, he3b, vAgain he3x ?_⟩
 conv => whnf
 refine .inl ⟨rfl, ?_⟩
 conv => whnf
 refine vBind h (fun markInt64S3 hb8 h => ?_)
 conv => whnf
 cases h
 exact ⟨⟨rfl, rfl⟩, hI1 _ rfl⟩
 conv => whnf
 cases h
 obtain rfl := hR1 _ rfl
 exact hK
theorem w8 (q0 : SoundC Tryz.prog 142 c7) : SoundC Tryz.prog 84 c8 := by
 refine fn_sound tab_ok (gam_cons q0 gam_nil) mixed { loops := [(0, [.reg 1 (.dat (.int .i64)), .reg 5 (.dat (.int .i64))])] } (fn := Tryz.f84) Tryz.func84 (by kernel_rfl) (by kernel_rfl) ?_
 rintro ⟨a0, left0, ⟨⟩⟩ K ⟨r, h, hK⟩
 change laws_szCellS a0 left0 = some r at h
 unfold laws_szCellS at h
 conv => whnf
 refine vIfD h (fun h => ?_) (fun h => ?_)
 conv => whnf
 cases h
 exact hK
 conv => whnf
 refine vLoop h ?_
 rintro I0 μ0 ⟨left1, i0, ⟨⟩⟩ zs0 h hI0 hR0
 change laws_szCellS_loop0 a0 left1 i0 = some zs0 at h
 unfold laws_szCellS_loop0 at h
 conv => whnf
 refine vIfD h (fun h => ?_) (fun h => ?_)
 conv => whnf
 refine vAt h (fun x0 he1a he1b he1x h => ?_)
 conv => whnf
 refine vBind h (fun szCell0 hb2 h => ?_)
 conv => whnf
 refine vIfD h (fun h => ?_) (fun h => ?_)
 conv => whnf
 cases h
 obtain rfl := hR0 _ rfl
 exact hK
 conv => whnf
 cases h
 exact ⟨⟨rfl, rfl⟩, hI0 _ rfl⟩
 conv => whnf
 cases h
 obtain rfl := hR0 _ rfl
 exact hK
theorem w24 : SoundC Tryz.prog 126 c24 := by
 refine fn_sound tab_ok gam_nil mixed {} (fn := Tryz.f126) Tryz.func126 (by kernel_rfl) (by kernel_rfl) ?_
 rintro ⟨a0, left0, ⟨⟩⟩ K ⟨r, h, hK⟩
 change laws_szCorner a0 left0 = some r at h
 unfold laws_szCorner at h
 conv => whnf
 refine vIfD h (fun h => ?_) (fun h => ?_)
 conv => whnf
 cases h
 exact hK
 conv => whnf
 cases h
 exact hK
theorem w10 (q0 : SoundC Tryz.prog 88 c2) : SoundC Tryz.prog 143 c10 := by
 refine fn_sound tab_ok (gam_cons q0 gam_nil) mixed {} (fn := Tryz.f143) Tryz.func143 (by kernel_rfl) (by kernel_rfl) ?_
 rintro ⟨a0, left0, ⟨⟩⟩ K ⟨r, h, hK⟩
 change laws_szInstance a0 left0 = some r at h
 unfold laws_szInstance at h
 conv => whnf
 refine vIfD h (fun h => ?_) (fun h => ?_)
 conv => whnf
 cases h
 exact hK
 conv => whnf
 refine vBind h (fun szInt64S0 hb0 h => ?_)
 conv => whnf
 refine vIfD h (fun h => ?_) (fun h => ?_)
 conv => whnf
 cases h
 exact hK
 conv => whnf
 cases h
 exact hK
theorem w11 (q0 : SoundC Tryz.prog 143 c10) : SoundC Tryz.prog 85 c11 := by
 refine fn_sound tab_ok (gam_cons q0 gam_nil) mixed { loops := [(0, [.reg 1 (.dat (.int .i64)), .reg 5 (.dat (.int .i64))])] } (fn := Tryz.f85) Tryz.func85 (by kernel_rfl) (by kernel_rfl) ?_
 rintro ⟨a0, left0, ⟨⟩⟩ K ⟨r, h, hK⟩
 change laws_szInstanceS a0 left0 = some r at h
 unfold laws_szInstanceS at h
 conv => whnf
 refine vIfD h (fun h => ?_) (fun h => ?_)
 conv => whnf
 cases h
 exact hK
 conv => whnf
 refine vLoop h ?_
 rintro I0 μ0 ⟨left1, i0, ⟨⟩⟩ zs0 h hI0 hR0
 change laws_szInstanceS_loop0 a0 left1 i0 = some zs0 at h
 unfold laws_szInstanceS_loop0 at h
 conv => whnf
 refine vIfD h (fun h => ?_) (fun h => ?_)
 conv => whnf
 refine vAt h (fun x0 he1a he1b he1x h => ?_)
 conv => whnf
 refine vBind h (fun szInstance0 hb2 h => ?_)
 conv => whnf
 refine vIfD h (fun h => ?_) (fun h => ?_)
 conv => whnf
 cases h
 obtain rfl := hR0 _ rfl
 exact hK
 conv => whnf
 cases h
 exact ⟨⟨rfl, rfl⟩, hI0 _ rfl⟩
 conv => whnf
 cases h
 obtain rfl := hR0 _ rfl
 exact hK
theorem w0 : SoundC Tryz.prog 228 c0 := by
 refine fn_sound tab_ok gam_nil mixed {} (fn := Tryz.f228) Tryz.func228 (by kernel_rfl) (by kernel_rfl) ?_
 rintro ⟨a0, left0, ⟨⟩⟩ K ⟨r, h, hK⟩
 change laws_szPin a0 left0 = some r at h
 unfold laws_szPin at h
 conv => whnf
 refine vIfD h (fun h => ?_) (fun h => ?_)
 conv => whnf
 cases h
 exact hK
 conv => whnf
 cases h
 exact hK
theorem w1 (q0 : SoundC Tryz.prog 228 c0) : SoundC Tryz.prog 189 c1 := by
 refine fn_sound tab_ok (gam_cons q0 gam_nil) mixed { loops := [(0, [.reg 1 (.dat (.int .i64)), .reg 5 (.dat (.int .i64))])] } (fn := Tryz.f189) Tryz.func189 (by kernel_rfl) (by kernel_rfl) ?_
 rintro ⟨a0, left0, ⟨⟩⟩ K ⟨r, h, hK⟩
 change laws_szPinS a0 left0 = some r at h
 unfold laws_szPinS at h
 conv => whnf
 refine vIfD h (fun h => ?_) (fun h => ?_)
 conv => whnf
 cases h
 exact hK
 conv => whnf
 refine vLoop h ?_
 rintro I0 μ0 ⟨left1, i0, ⟨⟩⟩ zs0 h hI0 hR0
 change laws_szPinS_loop0 a0 left1 i0 = some zs0 at h
 unfold laws_szPinS_loop0 at h
 conv => whnf
 refine vIfD h (fun h => ?_) (fun h => ?_)
 conv => whnf
 refine vAt h (fun x0 he1a he1b he1x h => ?_)
 conv => whnf
 refine vBind h (fun szPin0 hb2 h => ?_)
 conv => whnf
 refine vIfD h (fun h => ?_) (fun h => ?_)
 conv => whnf
 cases h
 obtain rfl := hR0 _ rfl
 exact hK
 conv => whnf
 cases h
 exact ⟨⟨rfl, rfl⟩, hI0 _ rfl⟩
 conv => whnf
 cases h
 obtain rfl := hR0 _ rfl
 exact hK
theorem w16 (q0 : SoundC Tryz.prog 88 c2) : SoundC Tryz.prog 38 c16 := by
 refine fn_sound tab_ok (gam_cons q0 gam_nil) mixed {} (fn := Tryz.f38) Tryz.func38 (by kernel_rfl) (by kernel_rfl) ?_
 rintro ⟨a0, left0, ⟨⟩⟩ K ⟨r, h, hK⟩
 change laws_szWire a0 left0 = some r at h
 unfold laws_szWire at h
 conv => whnf
 refine vBind h (fun szInt64S0 hb0 h => ?_)
 conv => whnf
 refine vIfD h (fun h => ?_) (fun h => ?_)
 conv => whnf
 cases h
 exact hK
 conv => whnf
 refine vBind h (fun szInt64S1 hb1 h => ?_)
 conv => whnf
 refine vIfD h (fun h => ?_) (fun h => ?_)
 conv => whnf
 cases h
 exact hK
 conv => whnf
 refine vBind h (fun szInt64S2 hb2 h => ?_)
 conv => whnf
 refine vIfD h (fun h => ?_) (fun h => ?_)
 conv => whnf
 cases h
 exact hK
 conv => whnf
 refine vBind h (fun szInt64S3 hb3 h => ?_)
 conv => whnf
 refine vIfD h (fun h => ?_) (fun h => ?_)
 conv => whnf
 cases h
 exact hK
 conv => whnf
 cases h
 exact hK
theorem w33 (q0 : SoundC Tryz.prog 232 c32) : SoundC Tryz.prog 197 c33 := by
 refine fn_sound tabD_ok (gam_cons q0 gam_nil) mixed { loops := [(0, [.reg 4 (.dat (.int .i64)), .ent 0 (nat_lit 266) dArc])] } (fn := Tryz.f197) Tryz.func197 (by kernel_rfl) (by kernel_rfl) ?_
 rintro ⟨a0, ⟨⟩⟩ K ⟨r, h, hK⟩
 change laws_toArcS a0 = some r at h
 unfold laws_toArcS at h
 conv => whnf
 refine vPre h (fun hp0 h => ?_)
 conv => whnf
 refine vPre h (fun hp1 h => ?_)
 conv => whnf
 refine vPre h (fun hp2 h => ?_)
 conv => whnf
 refine vPre h (fun hp3 h => ?_)
 conv => whnf
 intro fp4
 conv => whnf
 refine vLoop h ?_
 rintro I5 μ5 ⟨i0, l0, ⟨⟩⟩ zs5 h hI5 hR5
 change laws_toArcS_loop0 a0 i0 l0 = some zs5 at h
 unfold laws_toArcS_loop0 at h
 conv => whnf
 intro fp6
 conv => whnf
 refine vIfD h (fun h => ?_) (fun h => ?_)
 conv => whnf
 refine vAt h (fun x0 he7a he7b he7x h => ?_)
 conv => whnf
 refine vBind h (fun toArc0 hb8 h => ?_)
 conv => whnf
 intro fp9
 conv => whnf
 intro fp10
 conv => whnf
 refine vAt h (fun x1 he11a he11b he11x h => ?_)
 conv => whnf
 refine ⟨he11a, he11b, vAgain he11x ?_⟩
 conv => whnf
 intro fp12
 conv => whnf
 intro fp13
 conv => whnf
 intro fp14
 conv => whnf
 cases h
 exact ⟨⟨rfl, rfl⟩, hI5 _ rfl⟩
 conv => whnf
 cases h
 obtain rfl := hR5 _ rfl
 exact hK
theorem w34 (q1 : SoundC Tryz.prog 196 c28) (q2 : SoundC Tryz.prog 197 c33) (q0 : SoundC Tryz.prog 98 c29) : SoundC Tryz.prog 154 c34 := by
 refine fn_sound tabD_ok (gam_cons q1 (gam_cons q2 (gam_cons q0 gam_nil))) mixed {} (fn := Tryz.f154) Tryz.func154 (by kernel_rfl) (by kernel_rfl) ?_
 rintro ⟨a0, ⟨⟩⟩ K ⟨r, h, hK⟩
 change laws_toCell a0 = some r at h
 unfold laws_toCell at h
 conv => whnf
 refine vBind h (fun toPinS0 hb0 h => ?_)
 conv => whnf
 refine vBind h (fun toArcS0 hb1 h => ?_)
 conv => whnf
 intro fp2
 conv => whnf
 refine vBind h (fun toInt64S0 hb3 h => ?_)
 conv => whnf
 cases h
 exact hK
theorem w52 (q0 : SoundC Tryz.prog 133 c51) : SoundC Tryz.prog 71 c52 := by
 refine fn_sound tabD_ok (gam_cons q0 gam_nil) mixed { loops := [(0, [.reg 4 (.dat (.int .i64)), .ent 0 (nat_lit 214) dException])] } (fn := Tryz.f71) Tryz.func71 (by kernel_rfl) (by kernel_rfl) ?_
 rintro ⟨a0, ⟨⟩⟩ K ⟨r, h, hK⟩
 change laws_toExceptionS a0 = some r at h
 unfold laws_toExceptionS at h
 conv => whnf
 refine vPre h (fun hp0 h => ?_)
 conv => whnf
 refine vPre h (fun hp1 h => ?_)
 conv => whnf
 refine vPre h (fun hp2 h => ?_)
 conv => whnf
 refine vPre h (fun hp3 h => ?_)
 conv => whnf
 intro fp4
 conv => whnf
 refine vLoop h ?_
 rintro I5 μ5 ⟨i0, l0, ⟨⟩⟩ zs5 h hI5 hR5
 change laws_toExceptionS_loop0 a0 i0 l0 = some zs5 at h
 unfold laws_toExceptionS_loop0 at h
 conv => whnf
 intro fp6
 conv => whnf
 refine vIfD h (fun h => ?_) (fun h => ?_)
 conv => whnf
 refine vAt h (fun x0 he7a he7b he7x h => ?_)
 conv => whnf
 refine vBind h (fun toException0 hb8 h => ?_)
 conv => whnf
 refine vAt h (fun x1 he9a he9b he9x h => ?_)
 conv => whnf
 refine ⟨he9a, he9b, vAgain he9x ?_⟩
 conv => whnf
 intro fp10
 conv => whnf
 cases h
 exact ⟨⟨rfl, rfl⟩, hI5 _ rfl⟩
 conv => whnf
 cases h
 obtain rfl := hR5 _ rfl
 exact hK
theorem w49 (q0 : SoundC Tryz.prog 115 c48) : SoundC Tryz.prog 132 c49 := by
 refine fn_sound tab_ok (gam_cons q0 gam_nil) mixed {} (fn := Tryz.f132) Tryz.func132 (by kernel_rfl) (by kernel_rfl) ?_
 rintro ⟨a0, ⟨⟩⟩ K ⟨r, h, hK⟩
 change laws_toExternal a0 = some r at h
 unfold laws_toExternal at h
 conv => whnf
 refine vBind h (fun toSpan0 hb0 h => ?_)
 conv => whnf
 refine vBind h (fun toSpan1 hb1 h => ?_)
 conv => whnf
 cases h
 exact hK
theorem w31 (q0 : SoundC Tryz.prog 273 c30) : SoundC Tryz.prog 256 c31 := by
 refine fn_sound tabD_ok (gam_cons q0 gam_nil) mixed { loops := [(0, [.reg 4 (.dat (.int .i64)), .ent 0 (nat_lit 329) dTable])] } (fn := Tryz.f256) Tryz.func256 (by kernel_rfl) (by kernel_rfl) ?_
 rintro ⟨a0, ⟨⟩⟩ K ⟨r, h, hK⟩
 change laws_toTableS a0 = some r at h
 unfold laws_toTableS at h
 conv => whnf
 refine vPre h (fun hp0 h => ?_)
 conv => whnf
 refine vPre h (fun hp1 h => ?_)
 conv => whnf
 refine vPre h (fun hp2 h => ?_)
 conv => whnf
 refine vPre h (fun hp3 h => ?_)
 conv => whnf
 intro fp4
 conv => whnf
 refine vLoop h ?_
 rintro I5 μ5 ⟨i0, l0, ⟨⟩⟩ zs5 h hI5 hR5
 change laws_toTableS_loop0 a0 i0 l0 = some zs5 at h
 unfold laws_toTableS_loop0 at h
 conv => whnf
 intro fp6
 conv => whnf
 refine vIfD h (fun h => ?_) (fun h => ?_)
 conv => whnf
 refine vAt h (fun x0 he7a he7b he7x h => ?_)
 conv => whnf
 refine vBind h (fun toTable0 hb8 h => ?_)
 conv => whnf
 refine vAt h (fun x1 he9a he9b he9x h => ?_)
 conv => whnf
 refine ⟨he9a, he9b, vAgain he9x ?_⟩
 conv => whnf
 intro fp10
 conv => whnf
 cases h
 exact ⟨⟨rfl, rfl⟩, hI5 _ rfl⟩
 conv => whnf
 cases h
 obtain rfl := hR5 _ rfl
 exact hK
theorem w143 : SoundC Tryz.prog 167 c143 := by
 refine fn_sound tab_ok gam_nil mixed {} (fn := Tryz.f167) Tryz.func167 (by kernel_rfl) (by kernel_rfl) ?_
 rintro ⟨s0, ⟨⟩⟩ K ⟨r, h, hK⟩
 change slices_Clone_Sint64_int64 s0 = some r at h
 unfold slices_Clone_Sint64_int64 at h
 conv => whnf
 refine ⟨fun hd => ?_, ?_⟩
 have h := vSame (T := (some ([] : List Int))) h (by simp [hd, guardO])
 conv => whnf
 cases h
 exact hK
 conv => whnf
 refine vPre h (fun hp0 h => ?_)
 conv => whnf
 cases h
 exact hK
theorem w115 (q0 : SoundC Tryz.prog 277 c114) : SoundC Tryz.prog 291 c115 := by
 refine fn_sound tab_ok (gam_cons q0 gam_nil) mixed { loops := [(0, [.reg 8 (.dat (.int .i64))])] } (fn := Tryz.f291) Tryz.func291 (by kernel_rfl) (by kernel_rfl) ?_
 rintro ⟨s0, f0, ⟨⟩⟩ K ⟨r, h, hK⟩
 change slices_IndexFunc_Simpl_Arc_impl_Arc_at_impl_Cell_areArcs_c1 s0 f0 = some r at h
 unfold slices_IndexFunc_Simpl_Arc_impl_Arc_at_impl_Cell_areArcs_c1 at h
 conv => whnf
 refine vLoop h ?_
 rintro I0 μ0 ⟨v0, ⟨⟩⟩ zs0 h hI0 hR0
 change slices_IndexFunc_Simpl_Arc_impl_Arc_at_impl_Cell_areArcs_c1_loop0 s0 f0 v0 = some zs0 at h
 unfold slices_IndexFunc_Simpl_Arc_impl_Arc_at_impl_Cell_areArcs_c1_loop0 at h
 conv => whnf
 refine vIfD h (fun h => ?_) (fun h => ?_)
 conv => whnf
 refine vAt h (fun x0 he1a he1b he1x h => ?_)
 conv => whnf
 refine vBind h (fun c1_0 hb2 h => ?_)
 conv => whnf
 refine vIfB h (fun h => ?_) (fun h => ?_)
 conv => whnf
 cases h
 obtain rfl := hR0 _ rfl
 exact hK
 conv => whnf
 cases h
 exact ⟨⟨rfl, rfl⟩, hI0 _ rfl⟩
 conv => whnf
 cases h
 obtain rfl := hR0 _ rfl
 exact hK
theorem w97 (q0 : SoundC Tryz.prog 238 c96) : SoundC Tryz.prog 260 c97 := by
 refine fn_sound tab_ok (gam_cons q0 gam_nil) mixed { loops := [(0, [.reg 8 (.dat (.int .i64))])] } (fn := Tryz.f260) Tryz.func260 (by kernel_rfl) (by kernel_rfl) ?_
 rintro ⟨s0, f0, ⟨⟩⟩ K ⟨r, h, hK⟩
 change slices_IndexFunc_Sint64_int64_at_impl_areWithin_c1 s0 f0 = some r at h
 unfold slices_IndexFunc_Sint64_int64_at_impl_areWithin_c1 at h
 conv => whnf
 refine vLoop h ?_
 rintro I0 μ0 ⟨v0, ⟨⟩⟩ zs0 h hI0 hR0
 change slices_IndexFunc_Sint64_int64_at_impl_areWithin_c1_loop0 s0 f0 v0 = some zs0 at h
 unfold slices_IndexFunc_Sint64_int64_at_impl_areWithin_c1_loop0 at h
 conv => whnf
 refine vIfD h (fun h => ?_) (fun h => ?_)
 conv => whnf
 refine vAt h (fun x0 he1a he1b he1x h => ?_)
 conv => whnf
 refine vBind h (fun c1_0 hb2 h => ?_)
 conv => whnf
 refine vIfB h (fun h => ?_) (fun h => ?_)
 conv => whnf
 cases h
 obtain rfl := hR0 _ rfl
 exact hK
 conv => whnf
 cases h
 exact ⟨⟨rfl, rfl⟩, hI0 _ rfl⟩
 conv => whnf
 cases h
 obtain rfl := hR0 _ rfl
 exact hK
theorem w69 (q0 : SoundC Tryz.prog 191 c66) (q1 : SoundC Tryz.prog 192 c67) (q2 : SoundC Tryz.prog 193 c68) : SoundC Tryz.prog 145 c69 := by
 refine fn_sound tab_ok (gam_cons q0 (gam_cons q1 (gam_cons q2 gam_nil))) mixed { loops := [(0, [.reg 5 (.own (.ol 9 (.flat (.str)))), .reg 6 (.dat (.int .i64))]), (2, [.reg 7 (.own (.ol 9 (.flat (.str)))), .reg 8 (.dat (.int .i64))]), (4, [.reg 10 (.dat (.int .i64)), .ent 6 (nat_lit 2) (.flat ti33.ety)]), (6, [.reg 12 (.dat (.int .i64)), .ent 6 (nat_lit 2) (.flat ti33.ety)]), (8, [.reg 13 (.dat (.int .i64))])] } (fn := Tryz.f145) Tryz.func145 (by kernel_rfl) (by kernel_rfl) ?_
 rintro ⟨a0, a1, ⟨⟩⟩ K ⟨r, h, hK⟩
 change spec_IsDesign a0 a1 = some r at h
 unfold spec_IsDesign at h
 conv => whnf
 refine vBind h (fun IsLibrary0 hb0 h => ?_)
 conv => whnf
 refine vNot ?_
 refine vIfB h (fun h => ?_) (fun h => ?_)
 conv => whnf
 refine vIfDs h (fun h => ?_) (fun h => ?_)
 conv => whnf
 cases h
 exact hK
 conv => whnf
 refine vIfDs h (fun h => ?_) (fun h => ?_)
 conv => whnf
 cases h
 exact hK
 conv => whnf
 refine vIfDs h (fun h => ?_) (fun h => ?_)
 conv => whnf
 cases h
 exact hK
 conv => whnf
 refine vBind h (fun l05Parts0 hb1 h => ?_)
 conv => whnf
 refine vNots ?_
 refine vIfB h (fun h => ?_) (fun h => ?_)
 conv => whnf
 refine vLoop h ?_
 rintro I2 μ2 ⟨v0, v1, ⟨⟩⟩ zs2 h hI2 hR2
 change spec_IsDesign_loop4 a1 v0 v1 = some zs2 at h
 unfold spec_IsDesign_loop4 at h
 conv => whnf
 refine vIfD h (fun h => ?_) (fun h => ?_)
 conv => whnf
 refine vAt h (fun x0 he3a he3b he3x h => ?_)
 conv => whnf
 refine vPre h (fun hp4 h => ?_)
 conv => whnf
 cases h
 exact ⟨⟨rfl, rfl⟩, hI2 _ rfl⟩
 conv => whnf
 refine vLoop h ?_
 rintro I5 μ5 ⟨v2, v3, ⟨⟩⟩ zs5 h hI5 hR5
 change spec_IsDesign_loop3 a1 v0 v2 v3 = some zs5 at h
 unfold spec_IsDesign_loop3 at h
 conv => whnf
 refine vIfD h (fun h => ?_) (fun h => ?_)
 conv => whnf
 refine vAt h (fun x0 he6a he6b he6x h => ?_)
 conv => whnf
 refine vPre h (fun hp7 h => ?_)
 conv => whnf
 cases h
 exact ⟨⟨rfl, rfl⟩, hI5 _ rfl⟩
 conv => whnf
 refine vBind h (fun l05Names0 hb8 h => ?_)
 conv => whnf
 refine vNot ?_
 refine vIfB h (fun h => ?_) (fun h => ?_)
 conv => whnf
 refine vBind h (fun l05Names1 hb9 h => ?_)
 conv => whnf
 refine vNot ?_
 refine vIfB h (fun h => ?_) (fun h => ?_)
 conv => whnf
 refine vBind h (fun l05Names2 hb10 h => ?_)
 conv => whnf
 refine vNots ?_
 refine vIfB h (fun h => ?_) (fun h => ?_)
 conv => whnf
 refine vPre h (fun hp11 h => ?_)
 conv => whnf
 refine vPre h (fun hp12 h => ?_)
 conv => whnf
 refine vPre h (fun hp13 h => ?_)
 conv => whnf
 refine vPre h (fun hp14 h => ?_)
 conv => whnf
 refine vLoop h ?_
 rintro I15 μ15 ⟨v4, l0, ⟨⟩⟩ zs15 h hI15 hR15
 change spec_IsDesign_loop2 a1 v4 l0 = some zs15 at h
 unfold spec_IsDesign_loop2 at h
 conv => whnf
 refine vIfD h (fun h => ?_) (fun h => ?_)
 conv => whnf
 refine vAt h (fun x0 he16a he16b he16x h => ?_)
 conv => whnf
 refine vAt h (fun x1 he17a he17b he17x h => ?_)
 conv => whnf
 refine vAt h (fun x2 he18a he18b he18x h => ?_)
 conv => whnf
 refine ⟨by kernel_rfl, ?_⟩
 conv => whnf
 refine ⟨he18a, he18b, vAgain he18x ?_⟩
 conv => whnf
 refine ⟨he18a, he18b, vAgain he18x ?_⟩
 conv => whnf
 refine ⟨by kernel_rfl, ?_⟩
 conv => whnf
 refine ⟨by decide, ?_⟩
 conv => whnf
 refine ⟨he18a, he18b, vAgain he18x ?_⟩
 conv => whnf
 cases h
 exact ⟨⟨rfl, rfl⟩, hI15 _ rfl⟩
 conv => whnf
 refine vLoop h ?_
 rintro I19 μ19 ⟨v5, l1, ⟨⟩⟩ zs19 h hI19 hR19
 change spec_IsDesign_loop1 a1 v5 l1 = some zs19 at h
 unfold spec_IsDesign_loop1 at h
 conv => whnf
 refine vIfD h (fun h => ?_) (fun h => ?_)
 conv => whnf
 refine vAt h (fun x0 he20a he20b he20x h => ?_)
 conv => whnf
 refine vIfD h (fun h => ?_) (fun h => ?_)
 conv => whnf
 refine ⟨he20a, he20b, vAgain he20x ?_⟩
 conv => whnf
 refine vAt h (fun x1 he21a he21b he21x h => ?_)
 conv => whnf
 refine ⟨by kernel_rfl, ?_⟩
 conv => whnf
 refine ⟨he21a, he21b, vAgain he21x ?_⟩
 conv => whnf
 refine ⟨he21a, he21b, vAgain he21x ?_⟩
 conv => whnf
 refine ⟨by kernel_rfl, ?_⟩
 conv => whnf
 refine ⟨by decide, ?_⟩
 conv => whnf
 refine ⟨he21a, he21b, vAgain he21x ?_⟩
 conv => whnf
 cases h
 exact ⟨⟨rfl, rfl⟩, hI19 _ rfl⟩
 conv => whnf
 cases h
 exact ⟨⟨rfl, rfl⟩, hI19 _ rfl⟩
 conv => whnf
 refine vLoop h ?_
 rintro I22 μ22 ⟨v6, ⟨⟩⟩ zs22 h hI22 hR22
 change spec_IsDesign_loop0 l1 v6 = some zs22 at h
 unfold spec_IsDesign_loop0 at h
 conv => whnf
 refine vIfD h (fun h => ?_) (fun h => ?_)
 conv => whnf
 refine vAt h (fun x0 he23a he23b he23x h => ?_)
 conv => whnf
 refine ⟨by kernel_rfl, ?_⟩
 conv => whnf
 refine ⟨he23a, he23b, vAgain he23x ?_⟩
 conv => whnf
 refine vNots ?_
 refine vIfD h (fun h => ?_) (fun h => ?_)
 conv => whnf
 cases h
 exact ⟨⟨rfl, rfl⟩, hI22 _ rfl⟩
 conv => whnf
 cases h
 obtain rfl := hR22 _ rfl
 obtain rfl := hR19 _ rfl
 obtain rfl := hR15 _ rfl
 obtain rfl := hR5 _ rfl
 obtain rfl := hR2 _ rfl
 exact hK
 conv => whnf
 cases h
 obtain rfl := hR22 _ rfl
 obtain rfl := hR19 _ rfl
 obtain rfl := hR15 _ rfl
 obtain rfl := hR5 _ rfl
 obtain rfl := hR2 _ rfl
 exact hK
 conv => whnf
 cases h
 obtain rfl := hR5 _ rfl
 obtain rfl := hR2 _ rfl
 exact hK
 conv => whnf
 cases h
 obtain rfl := hR5 _ rfl
 obtain rfl := hR2 _ rfl
 exact hK
 conv => whnf
 cases h
 obtain rfl := hR5 _ rfl
 obtain rfl := hR2 _ rfl
 exact hK
 conv => whnf
 cases h
 exact hK
 conv => whnf
 cases h
 exact hK
theorem w66 (q0 : SoundC Tryz.prog 230 c65) : SoundC Tryz.prog 191 c66 := by
 refine fn_sound tab_ok (gam_cons q0 gam_nil) mixed { loops := [(0, [.reg 3 (.dat (.int .i64))]), (2, [.reg 4 (.dat (.int .i64))])], draws := [(9, [0, 1, 0, 7, 15, 31, 0, 64, 0, 448, 960, 1984, 4095], .op 0 (.op 1 (.op 2 (.op 3 (.op 4 (.op 5 (.op 6 (.op 7 (.op 8 (.op 9 (.op 10 (.op 11 (.op 12 (.done))))))))))))))] } (fn := Tryz.f191) Tryz.func191 (by kernel_rfl) (by kernel_rfl) ?_
 rintro ⟨l0, ⟨⟩⟩ K ⟨r, h, hK⟩
 change spec_IsLibrary l0 = some r at h
 unfold spec_IsLibrary at h
 conv => whnf
 refine vLoop h ?_
 rintro I0 μ0 ⟨i0, ⟨⟩⟩ zs0 h hI0 hR0
 change spec_IsLibrary_loop1 l0 i0 = some zs0 at h
 unfold spec_IsLibrary_loop1 at h
 conv => whnf
 refine vIfD h (fun h => ?_) (fun h => ?_)
 conv => whnf
 refine vAt h (fun x0 he1a he1b he1x h => ?_)
 conv => whnf
 refine vBind h (fun IsCell0 hb2 h => ?_)
 conv => whnf
 refine vNots ?_
 refine vIfB h (fun h => ?_) (fun h => ?_)
 conv => whnf
 refine vLoop h ?_
 rintro I3 μ3 ⟨k0, ⟨⟩⟩ zs3 h hI3 hR3
 change spec_IsLibrary_loop0 l0 i0 x0 k0 = some zs3 at h
 unfold spec_IsLibrary_loop0 at h
 conv => whnf
 refine vIfD h (fun h => ?_) (fun h => ?_)
 conv => whnf
 refine ⟨by kernel_rfl, ?_⟩
 conv => whnf
 refine vAt h (fun x1 he4a he4b he4x h => ?_)
 conv => whnf
 refine ⟨he1a, he1b, vAgain he1x ?_⟩
 conv => whnf
 refine vIfD h (fun h => ?_) (fun h => ?_)
 conv => whnf
 cases h
 obtain rfl := hR3 _ rfl
 obtain rfl := hR0 _ rfl
 exact hK
 conv => whnf
 cases h
 exact ⟨⟨rfl, rfl⟩, hI3 _ rfl⟩
 conv => whnf
 cases h
 obtain rfl := hR3 _ rfl
 exact ⟨⟨rfl, rfl⟩, hI0 _ rfl⟩
 conv => whnf
 cases h
 obtain rfl := hR0 _ rfl
 exact hK
 conv => whnf
 cases h
 obtain rfl := hR0 _ rfl
 exact hK
theorem w59 (q0 : SoundC Tryz.prog 112 c57) : SoundC Tryz.prog 306 c59 := by
 refine fn_sound tab_ok (gam_cons q0 gam_nil) mixed { loops := [(0, [.reg 3 (.dat (.int .i64))])], draws := [(4, [0, 0, 3, 7, 15, 31, 63, 127, 255, 511, 1023, 1023, 3071, 8191, 16383, 1023, 1023, 99327, 230399, 524287, 1048575, 2097151], .op 0 (.op 1 (.op 2 (.op 3 (.alt 4 (.op 5 (.op 6 (.op 7 (.op 8 (.op 9 (.op 10 (.op 11 (.op 12 (.op 13 (.op 14 (.op 15 (.op 16 (.op 17 (.op 18 (.op 19 (.op 20 (.op 21 (.done)))))))))))))))))) (.done))))))] } (fn := Tryz.f306) Tryz.func306 (by kernel_rfl) (by kernel_rfl) ?_
 rintro ⟨list0, ⟨⟩⟩ K ⟨r, h, hK⟩
 change spec_l02Axis list0 = some r at h
 unfold spec_l02Axis at h
 conv => whnf
 refine vLoop h ?_
 rintro I0 μ0 ⟨i0, ⟨⟩⟩ zs0 h hI0 hR0
 change spec_l02Axis_loop0 list0 i0 = some zs0 at h
 unfold spec_l02Axis_loop0 at h
 conv => whnf
 refine vIfD h (fun h => ?_) (fun h => ?_)
 conv => whnf
 refine ⟨by kernel_rfl, ?_⟩
 conv => whnf
 refine vAt h (fun x0 he1a he1b he1x h => ?_)
 conv => whnf
 refine vBind h (fun l01In0 hb2 h => ?_)
 conv => whnf
 refine vNot ?_
 refine vIfB h (fun h => ?_) (fun h => ?_)
 conv => whnf
 refine vIfD h (fun h => ?_) (fun h => ?_)
 conv => whnf
 refine vAt h (fun x1 he3a he3b he3x h => ?_)
 conv => whnf
 refine ⟨he1a, he1b, vAgain he1x ?_⟩
 conv => whnf
 refine vIfD h (fun h => ?_) (fun h => ?_)
 conv => whnf
 cases h
 obtain rfl := hR0 _ rfl
 exact hK
 conv => whnf
 cases h
 exact ⟨⟨rfl, rfl⟩, hI0 _ rfl⟩
 conv => whnf
 cases h
 exact ⟨⟨rfl, rfl⟩, hI0 _ rfl⟩
 conv => whnf
 cases h
 obtain rfl := hR0 _ rfl
 exact hK
 conv => whnf
 refine vIfD h (fun h => ?_) (fun h => ?_)
 conv => whnf
 cases h
 obtain rfl := hR0 _ rfl
 exact hK
 conv => whnf
 cases h
 obtain rfl := hR0 _ rfl
 exact hK
theorem w70 : SoundC Tryz.prog 93 c70 := by
 refine fn_sound tab_ok gam_nil mixed { loops := [(0, [.reg 3 (.own (.ol 247 (.flat (tl05Place)))), .reg 4 (.dat (.int .i64))]), (2, [.reg 3 (.own (.ol 247 (.flat (tl05Place)))), .reg 6 (.dat (.int .i64))]), (4, [.reg 3 (.own (.ol 247 (.flat (tl05Place)))), .reg 7 (.dat (.int .i64))])], draws := [(13, [0, 0, 0, 4, 0, 28, 60, 124, 0, 256, 0, 1792, 3840, 7936, 16128, 32766, 65534, 131071, 262143], .op 0 (.op 1 (.op 2 (.op 3 (.op 4 (.op 5 (.op 6 (.op 7 (.op 8 (.op 9 (.op 10 (.op 11 (.op 12 (.op 13 (.op 14 (.op 15 (.alt 16 (.alt 17 (.op 18 (.done)) (.done)) (.done))))))))))))))))))] } (fn := Tryz.f93) Tryz.func93 (by kernel_rfl) (by kernel_rfl) ?_
 rintro ⟨a0, ⟨⟩⟩ K ⟨r, h, hK⟩
 change spec_l05Places a0 = some r at h
 unfold spec_l05Places at h
 conv => whnf
 refine vLoop h ?_
 rintro I0 μ0 ⟨v0, v1, ⟨⟩⟩ zs0 h hI0 hR0
 change spec_l05Places_loop2 a0 v0 v1 = some zs0 at h
 unfold spec_l05Places_loop2 at h
 conv => whnf
 refine vIfD h (fun h => ?_) (fun h => ?_)
 conv => whnf
 refine vAt h (fun x0 he1a he1b he1x h => ?_)
 conv => whnf
 refine vLoop h ?_
 rintro I2 μ2 ⟨v2, v3, ⟨⟩⟩ zs2 h hI2 hR2
 change spec_l05Places_loop0 v1 x0 v2 v3 = some zs2 at h
 unfold spec_l05Places_loop0 at h
 conv => whnf
 refine vIfD h (fun h => ?_) (fun h => ?_)
 conv => whnf
 refine vAt h (fun x1 he3a he3b he3x h => ?_)
 conv => whnf
 refine vPre h (fun hp4 h => ?_)
 conv => whnf
 cases h
 exact ⟨⟨rfl, rfl⟩, hI2 _ rfl⟩
 conv => whnf
 cases h
 obtain rfl := hR2 _ rfl
 exact ⟨⟨rfl, rfl⟩, hI0 _ rfl⟩
 conv => whnf
 refine vLoop h ?_
 rintro I5 μ5 ⟨v2, v3, ⟨⟩⟩ zs5 h hI5 hR5
 change spec_l05Places_loop1 a0 v2 v3 = some zs5 at h
 unfold spec_l05Places_loop1 at h
 conv => whnf
 refine vIfD h (fun h => ?_) (fun h => ?_)
 conv => whnf
 refine ⟨by kernel_rfl, ?_⟩
 conv => whnf
 refine vAt h (fun x0 he6a he6b he6x h => ?_)
 conv => whnf
 refine ⟨he6a, he6b, vAgain he6x ?_⟩
 conv => whnf
 refine vPre h (fun hp7 h => ?_)
 conv => whnf
 cases h
 exact ⟨⟨rfl, rfl⟩, hI5 _ rfl⟩
 conv => whnf
 cases h
 obtain rfl := hR5 _ rfl
 obtain rfl := hR0 _ rfl
 exact hK
end Go.Proofs.YtaccffcigblceaaGreatDoor
