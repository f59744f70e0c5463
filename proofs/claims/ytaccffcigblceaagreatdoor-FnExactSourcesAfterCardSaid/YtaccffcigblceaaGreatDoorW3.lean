/-
  The functions keep their contracts, if what they call does. Printed by program.
-/
import Derived.Test.YtaccffcigblceaaGreatDoorM
import Derived.KernelRfl
namespace Go.Proofs.YtaccffcigblceaaGreatDoor
open Go Go.Sx
set_option maxRecDepth 100000
set_option linter.unusedVariables false
set_option linter.unusedSimpArgs false
theorem w_impl_Arc_transitions : SoundC Tryz.prog 166 c_impl_Arc_transitions := by
 refine fn_sound tab_ok gam_nil mixed {} (fn := Tryz.f166) Tryz.func166 (by kernel_rfl) (by kernel_rfl) ?_
 rintro ⟨a0, ⟨⟩⟩ K ⟨r, h, hK⟩
 change impl_Arc_transitions a0 = some r at h
 unfold impl_Arc_transitions at h
 conv => whnf
 refine vIfD h (fun h => ?_) (fun h => ?_)
 conv => whnf
 cases h
 exact hK
 conv => whnf
 refine vIfD h (fun h => ?_) (fun h => ?_)
 conv => whnf
 cases h
 exact hK
 conv => whnf
 refine vNots ?_
 refine vIfD h (fun h => ?_) (fun h => ?_)
 conv => whnf
 refine vIfD h (fun h => ?_) (fun h => ?_)
 conv => whnf
 cases h
 exact hK
 conv => whnf
 refine vIfD h (fun h => ?_) (fun h => ?_)
 conv => whnf
 cases h
 exact hK
 conv => whnf
 cases h
 exact hK
 conv => whnf
 cases h
 exact hK
theorem w_impl_Block_nodeDelays (q0 : SoundC Tryz.prog 118 c_impl_Block_nodeLoads) : SoundC Tryz.prog 170 c_impl_Block_nodeDelays := by
 refine fn_sound tab_ok (gam_cons q0 gam_nil) mixed { loops := [(0, [.reg 8 (.dat (.int .i64)), .ent 3 (nat_lit 2) (.flat ti33.ety)])], draws := [(1, [0, 1, 0, 7, 15, 0, 0, 96, 0, 511, 1023], .op 0 (.op 1 (.op 2 (.op 3 (.op 4 (.op 5 (.op 6 (.alt 7 (.alt 8 (.alt 9 (.op 10 (.done)) (.done)) (.done)) (.alt 8 (.alt 7 (.alt 9 (.op 10 (.done)) (.done)) (.done)) (.done)))))))))), (6, [0, 0, 0, 0, 8, 0, 56, 120, 252, 508, 0, 1024, 0, 7168, 15360, 0, 0, 98304, 229376, 523264, 1048572, 2097151, 4194303], .op 0 (.op 1 (.op 2 (.op 3 (.op 4 (.op 5 (.op 6 (.op 7 (.op 8 (.op 9 (.op 10 (.op 11 (.op 12 (.op 13 (.op 14 (.op 15 (.op 16 (.op 17 (.op 18 (.op 19 (.op 20 (.op 21 (.alt 22 (.done) (.done))))))))))))))))))))))))] } (fn := Tryz.f170) Tryz.func170 (by kernel_rfl) (by kernel_rfl) ?_
 rintro ⟨b0, net0, ⟨⟩⟩ K ⟨r, h, hK⟩
 change impl_Block_nodeDelays b0 net0 = some r at h
 unfold impl_Block_nodeDelays at h
 conv => whnf
 refine ⟨by kernel_rfl, ?_⟩
 conv => whnf
 refine vAt h (fun x0 he0a he0b he0x h => ?_)
 conv => whnf
 refine ⟨?_, ?_⟩
 conv => whnf
 refine vBind h (fun nodeLoads0 hb1 h => ?_)
 conv => whnf
 refine vPre h (fun hp2 h => ?_)
 conv => whnf
 refine vPre h (fun hp3 h => ?_)
 conv => whnf
 refine vPre h (fun hp4 h => ?_)
 conv => whnf
 refine vPre h (fun hp5 h => ?_)
 conv => whnf
 refine vLoop h ?_
 rintro I6 μ6 ⟨i0, l0, ⟨⟩⟩ zs6 h hI6 hR6
 change impl_Block_nodeDelays_loop0 x0 nodeLoads0 i0 l0 = some zs6 at h
 unfold impl_Block_nodeDelays_loop0 at h
 conv => whnf
 refine vIfD h (fun h => ?_) (fun h => ?_)
 conv => whnf
 refine ⟨by kernel_rfl, ?_⟩
 conv => whnf
 refine vAt h (fun x1 he7a he7b he7x h => ?_)
 conv => whnf
 refine vAt h (fun x2 he8a he8b he8x h => ?_)
 conv => whnf
 refine ⟨by kernel_rfl, ?_⟩
 conv => whnf
 refine ⟨he8a, he8b, vAgain he8x ?_⟩
 conv => whnf
 refine vAt h (fun x3 he9a he9b he9x h => ?_)
 conv => whnf
 refine vAt h (fun x4 he10a he10b he10x h => ?_)
 conv => whnf
 refine ⟨by kernel_rfl, ?_⟩
 conv => whnf
 refine ⟨he10a, he10b, vAgain he10x ?_⟩
 conv => whnf
 refine vAt h (fun x5 he11a he11b he11x h => ?_)
 conv => whnf
 refine ⟨by kernel_rfl, ?_⟩
 conv => whnf
 refine ⟨by decide, ?_⟩
 conv => whnf
 refine ⟨he11a, he11b, vAgain he11x ?_⟩
 conv => whnf
 cases h
 exact ⟨⟨rfl, rfl⟩, hI6 _ rfl⟩
 conv => whnf
 cases h
 obtain rfl := hR6 _ rfl
 exact hK
 obtain ⟨nodeLoads0, hb1, h⟩ := Option.bind_eq_some_iff.1 h
 obtain ⟨hp2, h⟩ := guardE h
 obtain ⟨hp3, h⟩ := guardE h
 obtain ⟨hp4, h⟩ := guardE h
 obtain ⟨hp5, h⟩ := guardE h
 conv => whnf
 refine ⟨_, hb1, ?_⟩
 conv => whnf
 refine ⟨hp2, ?_⟩
 conv => whnf
 refine ⟨hp3, ?_⟩
 conv => whnf
 refine ⟨hp4, ?_⟩
 conv => whnf
 refine ⟨hp5, ?_⟩
 conv => whnf
 refine vLoop h ?_
 rintro I12 μ12 ⟨i0, l0, ⟨⟩⟩ zs12 h hI12 hR12
 change impl_Block_nodeDelays_loop0 x0 nodeLoads0 i0 l0 = some zs12 at h
 unfold impl_Block_nodeDelays_loop0 at h
 conv => whnf
 refine vIfD h (fun h => ?_) (fun h => ?_)
 conv => whnf
 refine ⟨by kernel_rfl, ?_⟩
 conv => whnf
 refine vAt h (fun x1 he13a he13b he13x h => ?_)
 conv => whnf
 refine vAt h (fun x2 he14a he14b he14x h => ?_)
 conv => whnf
 refine ⟨by kernel_rfl, ?_⟩
 conv => whnf
 refine ⟨he14a, he14b, vAgain he14x ?_⟩
 conv => whnf
 refine vAt h (fun x3 he15a he15b he15x h => ?_)
 conv => whnf
 refine vAt h (fun x4 he16a he16b he16x h => ?_)
 conv => whnf
 refine ⟨by kernel_rfl, ?_⟩
 conv => whnf
 refine ⟨he16a, he16b, vAgain he16x ?_⟩
 conv => whnf
 refine vAt h (fun x5 he17a he17b he17x h => ?_)
 conv => whnf
 refine ⟨by kernel_rfl, ?_⟩
 conv => whnf
 refine ⟨by decide, ?_⟩
 conv => whnf
 refine ⟨he17a, he17b, vAgain he17x ?_⟩
 conv => whnf
 cases h
 exact ⟨⟨rfl, rfl⟩, hI12 _ rfl⟩
 conv => whnf
 cases h
 obtain rfl := hR12 _ rfl
 exact hK
theorem w_impl_Cell_has_c1 : SoundC Tryz.prog 292 c_impl_Cell_has_c1 := by
 refine fn_sound tab_ok gam_nil mixed {} (fn := Tryz.f292) Tryz.func292 (by kernel_rfl) (by kernel_rfl) ?_
 rintro ⟨a0, a1, ⟨⟩⟩ K ⟨r, h, hK⟩
 change impl_Cell_has_c1 a0 a1 = some r at h
 unfold impl_Cell_has_c1 at h
 conv => whnf
 cases h
 exact hK
theorem w_impl_Cell_isArc (q4 : SoundC Tryz.prog 287 c_impl_isCheck) (q3 : SoundC Tryz.prog 288 c_impl_areTables) (q2 : SoundC Tryz.prog 289 c_impl_Cell_clock) (q0 : SoundC Tryz.prog 290 c_impl_Cell_isInput) (q1 : SoundC Tryz.prog 278 c_impl_Cell_output) (q5 : SoundC Tryz.prog 171 c_impl_within) : SoundC Tryz.prog 275 c_impl_Cell_isArc := by
 refine fn_sound tab_ok (gam_cons q4 (gam_cons q3 (gam_cons q2 (gam_cons q0 (gam_cons q1 (gam_cons q5 gam_nil)))))) mixed { draws := [(2, [0, 1, 3, 7, 15, 31, 63, 127, 255, 511, 1023, 2047, 4095, 8191, 16383, 32767, 65535, 32767, 163839, 524287, 1048575, 2097151, 4194303, 8388607, 16777215, 33554431, 67108863, 134217727, 134217727, 402653183, 1073741823, 2147483647, 4294967295, 8589934591, 17179869183, 8589934591, 42949672959, 137438953471, 274877906943, 549755813887], .op 0 (.op 1 (.op 2 (.op 3 (.op 4 (.op 5 (.op 6 (.op 7 (.op 8 (.op 9 (.op 10 (.op 11 (.alt 12 (.op 13 (.op 14 (.op 15 (.op 16 (.op 17 (.alt 18 (.op 19 (.op 20 (.op 21 (.op 22 (.op 23 (.op 24 (.op 25 (.op 26 (.op 27 (.op 28 (.op 29 (.alt 30 (.op 31 (.op 32 (.op 33 (.op 34 (.op 35 (.op 36 (.op 37 (.op 38 (.op 39 (.done)))))))))) (.done))))))))))))) (.done))))))) (.done)))))))))))))), (3, [0, 1, 3, 7, 15, 31, 63, 127, 255, 511, 1023, 2047, 4095, 2047, 10239, 32767, 65535, 131071, 262143, 262143, 786431, 2097151, 4194303, 8388607], .op 0 (.op 1 (.alt 2 (.op 3 (.op 4 (.op 5 (.op 6 (.alt 7 (.op 8 (.op 9 (.op 10 (.op 11 (.op 12 (.op 13 (.alt 14 (.op 15 (.op 16 (.op 17 (.op 18 (.op 19 (.op 20 (.alt 21 (.op 22 (.op 23 (.done))) (.done)))))))) (.done)))))))) (.done)))))) (.done))))] } (fn := Tryz.f275) Tryz.func275 (by kernel_rfl) (by kernel_rfl) ?_
 rintro ⟨a0, a1, ⟨⟩⟩ K ⟨r, h, hK⟩
 change impl_Cell_isArc a0 a1 = some r at h
 unfold impl_Cell_isArc at h
 conv => whnf
 refine vBind h (fun isCheck0 hb0 h => ?_)
 conv => whnf
 refine vIfB h (fun h => ?_) (fun h => ?_)
 conv => whnf
 refine ⟨by kernel_rfl, ?_⟩
 conv => whnf
 refine vIfD h (fun h => ?_) (fun h => ?_)
 conv => whnf
 refine vIfD h (fun h => ?_) (fun h => ?_)
 conv => whnf
 refine vBind h (fun areTables0 hb1 h => ?_)
 conv => whnf
 refine vIfB h (fun h => ?_) (fun h => ?_)
 conv => whnf
 refine vBind h (fun clock0 hb2 h => ?_)
 conv => whnf
 refine vIfD h (fun h => ?_) (fun h => ?_)
 conv => whnf
 refine vIfD h (fun h => ?_) (fun h => ?_)
 conv => whnf
 refine vBind h (fun isInput0 hb3 h => ?_)
 conv => whnf
 refine vIfB h (fun h => ?_) (fun h => ?_)
 conv => whnf
 cases h
 exact hK
 conv => whnf
 cases h
 exact hK
 conv => whnf
 cases h
 exact hK
 conv => whnf
 cases h
 exact hK
 conv => whnf
 cases h
 exact hK
 conv => whnf
 cases h
 exact hK
 conv => whnf
 cases h
 exact hK
 conv => whnf
 refine ⟨by kernel_rfl, ?_⟩
 conv => whnf
 refine vBind h (fun areTables0 hb4 h => ?_)
 conv => whnf
 refine vNot ?_
 refine vIfB h (fun h => ?_) (fun h => ?_)
 conv => whnf
 refine vBind h (fun areTables1 hb5 h => ?_)
 conv => whnf
 refine vNot ?_
 refine vIfB h (fun h => ?_) (fun h => ?_)
 conv => whnf
 refine vBind h (fun output0 hb6 h => ?_)
 conv => whnf
 refine vNot ?_
 refine vIfD h (fun h => ?_) (fun h => ?_)
 conv => whnf
 refine vBind h (fun isInput0 hb7 h => ?_)
 conv => whnf
 refine vNots ?_
 refine vIfB h (fun h => ?_) (fun h => ?_)
 conv => whnf
 refine vIfD h (fun h => ?_) (fun h => ?_)
 conv => whnf
 refine vAt h (fun x0 he8a he8b he8x h => ?_)
 conv => whnf
 refine vNots ?_
 refine vIfB h (fun h => ?_) (fun h => ?_)
 conv => whnf
 cases h
 exact hK
 conv => whnf
 refine vBind h (fun within0 hb9 h => ?_)
 conv => whnf
 cases h
 exact hK
 conv => whnf
 refine vIfD h (fun h => ?_) (fun h => ?_)
 conv => whnf
 refine vIfD h (fun h => ?_) (fun h => ?_)
 conv => whnf
 refine vAt h (fun x0 he10a he10b he10x h => ?_)
 conv => whnf
 refine vIfB h (fun h => ?_) (fun h => ?_)
 conv => whnf
 cases h
 exact hK
 conv => whnf
 cases h
 exact hK
 conv => whnf
 cases h
 exact hK
 conv => whnf
 refine vIfD h (fun h => ?_) (fun h => ?_)
 conv => whnf
 refine vAt h (fun x0 he11a he11b he11x h => ?_)
 conv => whnf
 refine vIfB h (fun h => ?_) (fun h => ?_)
 conv => whnf
 cases h
 exact hK
 conv => whnf
 cases h
 exact hK
 conv => whnf
 cases h
 exact hK
 conv => whnf
 cases h
 exact hK
 conv => whnf
 cases h
 exact hK
 conv => whnf
 cases h
 exact hK
 conv => whnf
 cases h
 exact hK
theorem w_impl_Design_isInstance_c1 (q0 : SoundC Tryz.prog 201 c_impl_Design_isNet) : SoundC Tryz.prog 235 c_impl_Design_isInstance_c1 := by
 refine fn_sound tab_ok (gam_cons q0 gam_nil) mixed {} (fn := Tryz.f235) Tryz.func235 (by kernel_rfl) (by kernel_rfl) ?_
 rintro ⟨net0, a0, ⟨⟩⟩ K ⟨r, h, hK⟩
 change impl_Design_isInstance_c1 net0 a0 = some r at h
 unfold impl_Design_isInstance_c1 at h
 conv => whnf
 refine vBind h (fun isNet0 hb0 h => ?_)
 conv => whnf
 cases h
 exact hK
theorem w_impl_Design_netNamed (q0 : SoundC Tryz.prog 246 c_slices_Index_Sstring_string) : SoundC Tryz.prog 214 c_impl_Design_netNamed := by
 refine fn_sound tab_ok (gam_cons q0 gam_nil) mixed {} (fn := Tryz.f214) Tryz.func214 (by kernel_rfl) (by kernel_rfl) ?_
 rintro ⟨d0, name0, ⟨⟩⟩ K ⟨r, h, hK⟩
 change impl_Design_netNamed d0 name0 = some r at h
 unfold impl_Design_netNamed at h
 conv => whnf
 refine vBind h (fun string0 hb0 h => ?_)
 conv => whnf
 cases h
 exact hK
theorem w_impl_IsCell (q3 : SoundC Tryz.prog 212 c_impl_isName) (q2 : SoundC Tryz.prog 257 c_impl_arePins) (q1 : SoundC Tryz.prog 258 c_impl_Cell_areArcs) (q4 : SoundC Tryz.prog 171 c_impl_within) (q0 : SoundC Tryz.prog 259 c_impl_Cell_isOfKind) : SoundC Tryz.prog 233 c_impl_IsCell := by
 refine fn_sound tab_ok (gam_cons q3 (gam_cons q2 (gam_cons q1 (gam_cons q4 (gam_cons q0 gam_nil))))) mixed {} (fn := Tryz.f233) Tryz.func233 (by kernel_rfl) (by kernel_rfl) ?_
 rintro ⟨c0, ⟨⟩⟩ K ⟨r, h, hK⟩
 change impl_IsCell c0 = some r at h
 unfold impl_IsCell at h
 conv => whnf
 refine vBind h (fun isName0 hb0 h => ?_)
 conv => whnf
 refine vIfB h (fun h => ?_) (fun h => ?_)
 conv => whnf
 refine vBind h (fun arePins0 hb1 h => ?_)
 conv => whnf
 refine vIfB h (fun h => ?_) (fun h => ?_)
 conv => whnf
 refine vBind h (fun areArcs0 hb2 h => ?_)
 conv => whnf
 refine vIfB h (fun h => ?_) (fun h => ?_)
 conv => whnf
 refine vBind h (fun within0 hb3 h => ?_)
 conv => whnf
 refine vIfB h (fun h => ?_) (fun h => ?_)
 conv => whnf
 refine vBind h (fun within1 hb4 h => ?_)
 conv => whnf
 refine vIfB h (fun h => ?_) (fun h => ?_)
 conv => whnf
 refine vBind h (fun isOfKind0 hb5 h => ?_)
 conv => whnf
 cases h
 exact hK
 conv => whnf
 cases h
 exact hK
 conv => whnf
 cases h
 exact hK
 conv => whnf
 cases h
 exact hK
 conv => whnf
 cases h
 exact hK
 conv => whnf
 cases h
 exact hK
theorem w_impl_IsLibrary (q1 : SoundC Tryz.prog 233 c_impl_IsCell) (q0 : SoundC Tryz.prog 221 c_impl_areNames) : SoundC Tryz.prog 198 c_impl_IsLibrary := by
 refine fn_sound tab_ok (gam_cons q1 (gam_cons q0 gam_nil)) mixed { loops := [(0, [.reg 3 (.own (.ol 9 (.flat (.str)))), .reg 9 (.dat (.int .i64))])] } (fn := Tryz.f198) Tryz.func198 (by kernel_rfl) (by kernel_rfl) ?_
 rintro ⟨l0, ⟨⟩⟩ K ⟨r, h, hK⟩
 change impl_IsLibrary l0 = some r at h
 unfold impl_IsLibrary at h
 conv => whnf
 refine vLoop h ?_
 rintro I0 μ0 ⟨names0, v0, ⟨⟩⟩ zs0 h hI0 hR0
 change impl_IsLibrary_loop0 l0 names0 v0 = some zs0 at h
 unfold impl_IsLibrary_loop0 at h
 conv => whnf
 refine vIfD h (fun h => ?_) (fun h => ?_)
 conv => whnf
 refine vAt h (fun x0 he1a he1b he1x h => ?_)
 conv => whnf
 refine vBind h (fun IsCell0 hb2 h => ?_)
 conv => whnf
 refine vNots ?_
 refine vIfB h (fun h => ?_) (fun h => ?_)
 conv => whnf
 refine vPre h (fun hp3 h => ?_)
 conv => whnf
 cases h
 exact ⟨⟨rfl, rfl⟩, hI0 _ rfl⟩
 conv => whnf
 cases h
 obtain rfl := hR0 _ rfl
 exact hK
 conv => whnf
 refine vIfD h (fun h => ?_) (fun h => ?_)
 conv => whnf
 refine vBind h (fun areNames0 hb4 h => ?_)
 conv => whnf
 cases h
 obtain rfl := hR0 _ rfl
 exact hK
 conv => whnf
 cases h
 obtain rfl := hR0 _ rfl
 exact hK
theorem w_impl_IsWire (q0 : SoundC Tryz.prog 117 c_impl_length_int64) (q3 : SoundC Tryz.prog 171 c_impl_within) (q1 : SoundC Tryz.prog 204 c_impl_Wire_isTree) (q2 : SoundC Tryz.prog 205 c_impl_areWithin) : SoundC Tryz.prog 158 c_impl_IsWire := by
 refine fn_sound tab_ok (gam_cons q0 (gam_cons q3 (gam_cons q1 (gam_cons q2 gam_nil)))) mixed {} (fn := Tryz.f158) Tryz.func158 (by kernel_rfl) (by kernel_rfl) ?_
 rintro ⟨w0, sinks0, ⟨⟩⟩ K ⟨r, h, hK⟩
 change impl_IsWire w0 sinks0 = some r at h
 unfold impl_IsWire at h
 conv => whnf
 refine vBind h (fun int64_0 hb0 h => ?_)
 conv => whnf
 refine vBind h (fun within0 hb1 h => ?_)
 conv => whnf
 refine vIfB h (fun h => ?_) (fun h => ?_)
 conv => whnf
 refine vBind h (fun int64_1 hb2 h => ?_)
 conv => whnf
 refine vIfD h (fun h => ?_) (fun h => ?_)
 conv => whnf
 refine vBind h (fun int64_2 hb3 h => ?_)
 conv => whnf
 refine vIfD h (fun h => ?_) (fun h => ?_)
 conv => whnf
 refine vBind h (fun isTree0 hb4 h => ?_)
 conv => whnf
 refine vIfB h (fun h => ?_) (fun h => ?_)
 conv => whnf
 refine vBind h (fun areWithin0 hb5 h => ?_)
 conv => whnf
 refine vIfB h (fun h => ?_) (fun h => ?_)
 conv => whnf
 refine vBind h (fun areWithin1 hb6 h => ?_)
 conv => whnf
 refine vIfB h (fun h => ?_) (fun h => ?_)
 conv => whnf
 refine vBind h (fun int64_3 hb7 h => ?_)
 conv => whnf
 refine vIfD h (fun h => ?_) (fun h => ?_)
 conv => whnf
 refine vBind h (fun areWithin2 hb8 h => ?_)
 conv => whnf
 cases h
 exact hK
 conv => whnf
 cases h
 exact hK
 conv => whnf
 cases h
 exact hK
 conv => whnf
 cases h
 exact hK
 conv => whnf
 cases h
 exact hK
 conv => whnf
 cases h
 exact hK
 conv => whnf
 cases h
 exact hK
 conv => whnf
 cases h
 exact hK
theorem w_impl_SourcesAfter (q3 : SoundC Tryz.prog 45 c_impl_EditCode) (q4 : SoundC Tryz.prog 58 c_impl_newView) (q2 : SoundC Tryz.prog 59 c_impl_view_areSources) (q1 : SoundC Tryz.prog 46 c_impl_Edit_placesAfter) (q0 : SoundC Tryz.prog 60 c_slices_Clone_Simpl_Source_impl_Source) (q5 : SoundC Tryz.prog 61 c_impl_carried) : SoundC Tryz.prog 22 c_impl_SourcesAfter := by
 refine fn_sound tab_ok (gam_cons q3 (gam_cons q4 (gam_cons q2 (gam_cons q1 (gam_cons q0 (gam_cons q5 gam_nil)))))) mixed { loops := [(0, [.reg 33 (.dat (.int .i64)), .ent 3 (nat_lit 120) (.flat tSource)])] } (fn := Tryz.f22) Tryz.func22 (by kernel_rfl) (by kernel_rfl) ?_
 rintro ⟨b0, e0, list0, ⟨⟩⟩ K ⟨r, h, hK⟩
 change impl_SourcesAfter b0 e0 list0 = some r at h
 unfold impl_SourcesAfter at h
 conv => whnf
 refine vBind h (fun EditCode0 hb0 h => ?_)
 conv => whnf
 refine vNots ?_
 refine vIfD h (fun h => ?_) (fun h => ?_)
 conv => whnf
 refine vBind h (fun newView0 hb1 h => ?_)
 conv => whnf
 refine vBind h (fun areSources0 hb2 h => ?_)
 conv => whnf
 refine vNots ?_
 refine vIfB h (fun h => ?_) (fun h => ?_)
 conv => whnf
 refine vBind h (fun placesAfter0 hb3 h => ?_)
 conv => whnf
 refine vBind h (fun Source0 hb4 h => ?_)
 conv => whnf
 refine vLoop h ?_
 rintro I5 μ5 ⟨v0, l0, ⟨⟩⟩ zs5 h hI5 hR5
 change impl_SourcesAfter_loop0 list0 placesAfter0 v0 l0 = some zs5 at h
 unfold impl_SourcesAfter_loop0 at h
 conv => whnf
 refine vIfD h (fun h => ?_) (fun h => ?_)
 conv => whnf
 refine vAt h (fun x0 he6a he6b he6x h => ?_)
 conv => whnf
 refine vBind h (fun carried0 hb7 h => ?_)
 conv => whnf
 refine vNots ?_
 refine vIfB h (fun h => ?_) (fun h => ?_)
 conv => whnf
 refine vAt h (fun x1 he8a he8b he8x h => ?_)
 conv => whnf
 refine ⟨by kernel_rfl, ?_⟩
 conv => whnf
 refine ⟨by decide, ?_⟩
 conv => whnf
 refine ⟨he8a, he8b, vAgain he8x ?_⟩
 conv => whnf
 cases h
 exact ⟨⟨rfl, rfl⟩, hI5 _ rfl⟩
 conv => whnf
 cases h
 obtain rfl := hR5 _ rfl
 exact hK
 conv => whnf
 cases h
 obtain rfl := hR5 _ rfl
 exact hK
 conv => whnf
 cases h
 exact hK
 conv => whnf
 cases h
 exact hK
theorem w_impl_isTime (q0 : SoundC Tryz.prog 171 c_impl_within) : SoundC Tryz.prog 173 c_impl_isTime := by
 refine fn_sound tab_ok (gam_cons q0 gam_nil) mixed {} (fn := Tryz.f173) Tryz.func173 (by kernel_rfl) (by kernel_rfl) ?_
 rintro ⟨t0, ⟨⟩⟩ K ⟨r, h, hK⟩
 change impl_isTime t0 = some r at h
 unfold impl_isTime at h
 conv => whnf
 refine vBind h (fun within0 hb0 h => ?_)
 conv => whnf
 cases h
 exact hK
theorem w_impl_length_impl_Instance : SoundC Tryz.prog 101 c_impl_length_impl_Instance := by
 refine fn_sound tab_ok gam_nil mixed {} (fn := Tryz.f101) Tryz.func101 (by kernel_rfl) (by kernel_rfl) ?_
 rintro ⟨list0, ⟨⟩⟩ K ⟨r, h, hK⟩
 change impl_length_impl_Instance list0 = some r at h
 unfold impl_length_impl_Instance at h
 conv => whnf
 cases h
 exact hK
theorem w_laws_eqCellS (q0 : SoundC Tryz.prog 161 c_laws_eqCell) : SoundC Tryz.prog 103 c_laws_eqCellS := by
 refine fn_sound tab_ok (gam_cons q0 gam_nil) mixed { loops := [(0, [.reg 5 (.dat (.int .i64))])], draws := [(6, [0, 0, 3, 7, 0, 0, 48, 112, 255, 511], .op 0 (.op 1 (.op 2 (.op 3 (.op 4 (.op 5 (.op 6 (.op 7 (.alt 8 (.op 9 (.done)) (.done))))))))))] } (fn := Tryz.f103) Tryz.func103 (by kernel_rfl) (by kernel_rfl) ?_
 rintro ⟨a0, b0, ⟨⟩⟩ K ⟨r, h, hK⟩
 change laws_eqCellS a0 b0 = some r at h
 unfold laws_eqCellS at h
 conv => whnf
 refine vNots ?_
 refine vIfD h (fun h => ?_) (fun h => ?_)
 conv => whnf
 refine vLoop h ?_
 rintro I0 μ0 ⟨i0, ⟨⟩⟩ zs0 h hI0 hR0
 change laws_eqCellS_loop0 a0 b0 i0 = some zs0 at h
 unfold laws_eqCellS_loop0 at h
 conv => whnf
 refine vIfD h (fun h => ?_) (fun h => ?_)
 conv => whnf
 refine ⟨by kernel_rfl, ?_⟩
 conv => whnf
 refine vAt h (fun x0 he1a he1b he1x h => ?_)
 conv => whnf
 refine vAt h (fun x1 he2a he2b he2x h => ?_)
 conv => whnf
 refine vBind h (fun eqCell0 hb3 h => ?_)
 conv => whnf
 refine vNots ?_
 refine vIfB h (fun h => ?_) (fun h => ?_)
 conv => whnf
 cases h
 exact ⟨⟨rfl, rfl⟩, hI0 _ rfl⟩
 conv => whnf
 cases h
 obtain rfl := hR0 _ rfl
 exact hK
 conv => whnf
 cases h
 obtain rfl := hR0 _ rfl
 exact hK
 conv => whnf
 cases h
 exact hK
theorem w_laws_markDesign (q0 : SoundC Tryz.prog 108 c_laws_markInstanceS) (q1 : SoundC Tryz.prog 109 c_laws_markStringS) (q2 : SoundC Tryz.prog 110 c_laws_markPortS) : SoundC Tryz.prog 52 c_laws_markDesign := by
 refine fn_sound tabD_ok (gam_cons q0 (gam_cons q1 (gam_cons q2 gam_nil))) mixed {} (fn := Tryz.f52) Tryz.func52 (by kernel_rfl) (by kernel_rfl) ?_
 rintro ⟨a0, k0, ⟨⟩⟩ K ⟨r, h, hK⟩
 change laws_markDesign a0 k0 = some r at h
 unfold laws_markDesign at h
 conv => whnf
 intro fp0
 conv => whnf
 refine vBind h (fun markInstanceS0 hb1 h => ?_)
 conv => whnf
 intro fp2
 conv => whnf
 refine vBind h (fun markStringS0 hb3 h => ?_)
 conv => whnf
 refine vBind h (fun markPortS0 hb4 h => ?_)
 conv => whnf
 cases h
 exact hK
theorem w_laws_markInstanceS (q1 : SoundC Tryz.prog 141 c_laws_markText) (q0 : SoundC Tryz.prog 17 c_laws_markInt64S) : SoundC Tryz.prog 108 c_laws_markInstanceS := by
 refine fn_sound tabD_ok (gam_cons q1 (gam_cons q0 gam_nil)) mixed { loops := [(0, [.reg 1 (.dat (.int .i64)), .reg 5 (.dat (.int .i64)), .ent 0 (nat_lit 177) (Dp.pair (Dp.flat Ty.str) (Dp.pair (Dp.flat (Ty.int IntKind.i64)) (Dp.pair (Dp.ol (2 : Go.TypeId) (Dp.flat (Ty.int IntKind.i64))) (Dp.flat Ty.unit))))])] } (fn := Tryz.f108) Tryz.func108 (by kernel_rfl) (by kernel_rfl) ?_
 rintro ⟨a0, k0, ⟨⟩⟩ K ⟨r, h, hK⟩
 change laws_markInstanceS a0 k0 = some r at h
 unfold laws_markInstanceS at h
 conv => whnf
 intro fp0
 conv => whnf
 refine vLoop h ?_
 rintro I1 μ1 ⟨k1, i0, l0, ⟨⟩⟩ zs1 h hI1 hR1
 change laws_markInstanceS_loop0 k1 i0 l0 = some zs1 at h
 unfold laws_markInstanceS_loop0 at h
 conv => whnf
 intro fp2
 conv => whnf
 refine vIfD h (fun h => ?_) (fun h => ?_)
 conv => whnf
 refine vBind h (fun markText0 hb3 h => ?_)
 conv => whnf
 refine vAt h (fun x0 he4a he4b he4x h => ?_)
 conv => whnf
 refine ⟨he4a, he4b, vAgain he4x ?_⟩
 conv => whnf
 intro fp5
 conv => whnf
 refine ⟨he4a, he4b, vAgain he4x ?_⟩
 conv => whnf
 refine .inl ⟨rfl, ?_⟩
 conv => whnf
 refine ⟨he4a, he4b, vAgain he4x ?_⟩
 conv => whnf
 refine .inl ⟨rfl, ?_⟩
 conv => whnf
 refine vBind h (fun markInt64S0 hb6 h => ?_)
 conv => whnf
 cases h
 exact ⟨⟨rfl, rfl⟩, hI1 _ rfl⟩
 conv => whnf
 cases h
 obtain rfl := hR1 _ rfl
 exact hK
theorem w_laws_markText : SoundC Tryz.prog 141 c_laws_markText := by
 refine fn_sound tab_ok gam_nil mixed { loops := [(0, [.reg 0 (.dat (.int .i64)), .reg 3 (.dat (.str))])] } (fn := Tryz.f141) Tryz.func141 (by kernel_rfl) (by kernel_rfl) ?_
 rintro ⟨k0, ⟨⟩⟩ K ⟨r, h, hK⟩
 change laws_markText k0 = some r at h
 unfold laws_markText at h
 conv => whnf
 refine vIfD h (fun h => ?_) (fun h => ?_)
 conv => whnf
 cases h
 exact hK
 conv => whnf
 refine vLoop h ?_
 rintro I0 μ0 ⟨k1, out0, ⟨⟩⟩ zs0 h hI0 hR0
 change laws_markText_loop0 k1 out0 = some zs0 at h
 unfold laws_markText_loop0 at h
 conv => whnf
 refine vIfD h (fun h => ?_) (fun h => ?_)
 conv => whnf
 refine ⟨by decide, ?_⟩
 conv => whnf
 refine vPre h (fun hp1 h => ?_)
 conv => whnf
 refine ⟨by decide, ?_⟩
 conv => whnf
 cases h
 exact ⟨⟨rfl, rfl⟩, hI0 _ rfl⟩
 conv => whnf
 refine vPre h (fun hp2 h => ?_)
 conv => whnf
 cases h
 obtain rfl := hR0 _ rfl
 exact hK
theorem w_laws_szInstanceS (q0 : SoundC Tryz.prog 143 c_laws_szInstance) : SoundC Tryz.prog 85 c_laws_szInstanceS := by
 refine fn_sound tab_ok (gam_cons q0 gam_nil) mixed { loops := [(0, [.reg 1 (.dat (.int .i64)), .reg 5 (.dat (.int .i64))])] } (fn := Tryz.f85) Tryz.func85 (by kernel_rfl) (by kernel_rfl) ?_
 rintro ⟨a0, left0, ⟨⟩⟩ K ⟨r, h, hK⟩
 change laws_szInstanceS a0 left0 = some r at h
 unfold laws_szInstanceS at h
 conv => whnf
 refine vIfD h (fun h => ?_) (fun h => ?_)
 conv => whnf
 cases h
 exact hK
 conv => whnf
 refine vLoop h ?_
 rintro I0 μ0 ⟨left1, i0, ⟨⟩⟩ zs0 h hI0 hR0
 change laws_szInstanceS_loop0 a0 left1 i0 = some zs0 at h
 unfold laws_szInstanceS_loop0 at h
 conv => whnf
 refine vIfD h (fun h => ?_) (fun h => ?_)
 conv => whnf
 refine vAt h (fun x0 he1a he1b he1x h => ?_)
 conv => whnf
 refine vBind h (fun szInstance0 hb2 h => ?_)
 conv => whnf
 refine vIfD h (fun h => ?_) (fun h => ?_)
 conv => whnf
 cases h
 obtain rfl := hR0 _ rfl
 exact hK
 conv => whnf
 cases h
 exact ⟨⟨rfl, rfl⟩, hI0 _ rfl⟩
 conv => whnf
 cases h
 obtain rfl := hR0 _ rfl
 exact hK
theorem w_laws_szPortS (q0 : SoundC Tryz.prog 144 c_laws_szPort) : SoundC Tryz.prog 87 c_laws_szPortS := by
 refine fn_sound tab_ok (gam_cons q0 gam_nil) mixed { loops := [(0, [.reg 1 (.dat (.int .i64)), .reg 5 (.dat (.int .i64))])] } (fn := Tryz.f87) Tryz.func87 (by kernel_rfl) (by kernel_rfl) ?_
 rintro ⟨a0, left0, ⟨⟩⟩ K ⟨r, h, hK⟩
 change laws_szPortS a0 left0 = some r at h
 unfold laws_szPortS at h
 conv => whnf
 refine vIfD h (fun h => ?_) (fun h => ?_)
 conv => whnf
 cases h
 exact hK
 conv => whnf
 refine vLoop h ?_
 rintro I0 μ0 ⟨left1, i0, ⟨⟩⟩ zs0 h hI0 hR0
 change laws_szPortS_loop0 a0 left1 i0 = some zs0 at h
 unfold laws_szPortS_loop0 at h
 conv => whnf
 refine vIfD h (fun h => ?_) (fun h => ?_)
 conv => whnf
 refine vAt h (fun x0 he1a he1b he1x h => ?_)
 conv => whnf
 refine vBind h (fun szPort0 hb2 h => ?_)
 conv => whnf
 refine vIfD h (fun h => ?_) (fun h => ?_)
 conv => whnf
 cases h
 obtain rfl := hR0 _ rfl
 exact hK
 conv => whnf
 cases h
 exact ⟨⟨rfl, rfl⟩, hI0 _ rfl⟩
 conv => whnf
 cases h
 obtain rfl := hR0 _ rfl
 exact hK
theorem w_laws_szWire (q0 : SoundC Tryz.prog 88 c_laws_szInt64S) : SoundC Tryz.prog 38 c_laws_szWire := by
 refine fn_sound tab_ok (gam_cons q0 gam_nil) mixed {} (fn := Tryz.f38) Tryz.func38 (by kernel_rfl) (by kernel_rfl) ?_
 rintro ⟨a0, left0, ⟨⟩⟩ K ⟨r, h, hK⟩
 change laws_szWire a0 left0 = some r at h
 unfold laws_szWire at h
 conv => whnf
 refine vBind h (fun szInt64S0 hb0 h => ?_)
 conv => whnf
 refine vIfD h (fun h => ?_) (fun h => ?_)
 conv => whnf
 cases h
 exact hK
 conv => whnf
 refine vBind h (fun szInt64S1 hb1 h => ?_)
 conv => whnf
 refine vIfD h (fun h => ?_) (fun h => ?_)
 conv => whnf
 cases h
 exact hK
 conv => whnf
 refine vBind h (fun szInt64S2 hb2 h => ?_)
 conv => whnf
 refine vIfD h (fun h => ?_) (fun h => ?_)
 conv => whnf
 cases h
 exact hK
 conv => whnf
 refine vBind h (fun szInt64S3 hb3 h => ?_)
 conv => whnf
 refine vIfD h (fun h => ?_) (fun h => ?_)
 conv => whnf
 cases h
 exact hK
 conv => whnf
 cases h
 exact hK
theorem w_laws_toInstance (q0 : SoundC Tryz.prog 98 c_laws_toInt64S) : SoundC Tryz.prog 155 c_laws_toInstance := by
 refine fn_sound tab_ok (gam_cons q0 gam_nil) mixed {} (fn := Tryz.f155) Tryz.func155 (by kernel_rfl) (by kernel_rfl) ?_
 rintro ⟨a0, ⟨⟩⟩ K ⟨r, h, hK⟩
 change laws_toInstance a0 = some r at h
 unfold laws_toInstance at h
 conv => whnf
 refine vBind h (fun toInt64S0 hb0 h => ?_)
 conv => whnf
 cases h
 exact hK
theorem w_laws_toPortS (q0 : SoundC Tryz.prog 156 c_laws_toPort) : SoundC Tryz.prog 97 c_laws_toPortS := by
 refine fn_sound tab_ok (gam_cons q0 gam_nil) mixed { loops := [(0, [.reg 4 (.dat (.int .i64)), .ent 0 (nat_lit 256) (.flat ti46.ety)])] } (fn := Tryz.f97) Tryz.func97 (by kernel_rfl) (by kernel_rfl) ?_
 rintro ⟨a0, ⟨⟩⟩ K ⟨r, h, hK⟩
 change laws_toPortS a0 = some r at h
 unfold laws_toPortS at h
 conv => whnf
 refine vPre h (fun hp0 h => ?_)
 conv => whnf
 refine vPre h (fun hp1 h => ?_)
 conv => whnf
 refine vPre h (fun hp2 h => ?_)
 conv => whnf
 refine vPre h (fun hp3 h => ?_)
 conv => whnf
 refine vLoop h ?_
 rintro I4 μ4 ⟨i0, l0, ⟨⟩⟩ zs4 h hI4 hR4
 change laws_toPortS_loop0 a0 i0 l0 = some zs4 at h
 unfold laws_toPortS_loop0 at h
 conv => whnf
 refine vIfD h (fun h => ?_) (fun h => ?_)
 conv => whnf
 refine vAt h (fun x0 he5a he5b he5x h => ?_)
 conv => whnf
 refine vBind h (fun toPort0 hb6 h => ?_)
 conv => whnf
 refine vAt h (fun x1 he7a he7b he7x h => ?_)
 conv => whnf
 refine ⟨by kernel_rfl, ?_⟩
 conv => whnf
 refine ⟨by decide, ?_⟩
 conv => whnf
 refine ⟨he7a, he7b, vAgain he7x ?_⟩
 conv => whnf
 cases h
 exact ⟨⟨rfl, rfl⟩, hI4 _ rfl⟩
 conv => whnf
 cases h
 obtain rfl := hR4 _ rfl
 exact hK
theorem w_laws_toStringS : SoundC Tryz.prog 96 c_laws_toStringS := by
 refine fn_sound tab_ok gam_nil mixed { loops := [(0, [.reg 4 (.dat (.int .i64)), .ent 0 (nat_lit 9) (.flat ti26.ety)])] } (fn := Tryz.f96) Tryz.func96 (by kernel_rfl) (by kernel_rfl) ?_
 rintro ⟨a0, ⟨⟩⟩ K ⟨r, h, hK⟩
 change laws_toStringS a0 = some r at h
 unfold laws_toStringS at h
 conv => whnf
 refine vPre h (fun hp0 h => ?_)
 conv => whnf
 refine vPre h (fun hp1 h => ?_)
 conv => whnf
 refine vPre h (fun hp2 h => ?_)
 conv => whnf
 refine vPre h (fun hp3 h => ?_)
 conv => whnf
 refine vLoop h ?_
 rintro I4 μ4 ⟨i0, l0, ⟨⟩⟩ zs4 h hI4 hR4
 change laws_toStringS_loop0 a0 i0 l0 = some zs4 at h
 unfold laws_toStringS_loop0 at h
 conv => whnf
 refine vIfD h (fun h => ?_) (fun h => ?_)
 conv => whnf
 refine vAt h (fun x0 he5a he5b he5x h => ?_)
 conv => whnf
 refine vAt h (fun x1 he6a he6b he6x h => ?_)
 conv => whnf
 refine ⟨by kernel_rfl, ?_⟩
 conv => whnf
 refine ⟨by decide, ?_⟩
 conv => whnf
 refine ⟨he6a, he6b, vAgain he6x ?_⟩
 conv => whnf
 cases h
 exact ⟨⟨rfl, rfl⟩, hI4 _ rfl⟩
 conv => whnf
 cases h
 obtain rfl := hR4 _ rfl
 exact hK
theorem w_laws_toWire (q0 : SoundC Tryz.prog 98 c_laws_toInt64S) : SoundC Tryz.prog 44 c_laws_toWire := by
 refine fn_sound tab_ok (gam_cons q0 gam_nil) mixed {} (fn := Tryz.f44) Tryz.func44 (by kernel_rfl) (by kernel_rfl) ?_
 rintro ⟨a0, ⟨⟩⟩ K ⟨r, h, hK⟩
 change laws_toWire a0 = some r at h
 unfold laws_toWire at h
 conv => whnf
 refine vBind h (fun toInt64S0 hb0 h => ?_)
 conv => whnf
 refine vBind h (fun toInt64S1 hb1 h => ?_)
 conv => whnf
 refine vBind h (fun toInt64S2 hb2 h => ?_)
 conv => whnf
 refine vBind h (fun toInt64S3 hb3 h => ?_)
 conv => whnf
 cases h
 exact hK
theorem w_slices_Clone_Sint64_int64 : SoundC Tryz.prog 167 c_slices_Clone_Sint64_int64 := by
 refine fn_sound tab_ok gam_nil mixed {} (fn := Tryz.f167) Tryz.func167 (by kernel_rfl) (by kernel_rfl) ?_
 rintro ⟨s0, ⟨⟩⟩ K ⟨r, h, hK⟩
 change slices_Clone_Sint64_int64 s0 = some r at h
 unfold slices_Clone_Sint64_int64 at h
 conv => whnf
 refine ⟨fun hd => ?_, ?_⟩
 have h := vSame (T := (some ([] : List Int))) h (by simp [hd, guardO])
 conv => whnf
 cases h
 exact hK
 conv => whnf
 refine vPre h (fun hp0 h => ?_)
 conv => whnf
 cases h
 exact hK
theorem w_slices_ContainsFunc_Simpl_Arc_impl_Arc_at_impl_Cell_has_c1 (q0 : SoundC Tryz.prog 291 c_slices_IndexFunc_Simpl_Arc_impl_Arc_at_impl_Cell_has_c1) : SoundC Tryz.prog 276 c_slices_ContainsFunc_Simpl_Arc_impl_Arc_at_impl_Cell_has_c1 := by
 refine fn_sound tab_ok (gam_cons q0 gam_nil) mixed {} (fn := Tryz.f276) Tryz.func276 (by kernel_rfl) (by kernel_rfl) ?_
 rintro ⟨s0, f0, ⟨⟩⟩ K ⟨r, h, hK⟩
 change slices_ContainsFunc_Simpl_Arc_impl_Arc_at_impl_Cell_has_c1 s0 f0 = some r at h
 unfold slices_ContainsFunc_Simpl_Arc_impl_Arc_at_impl_Cell_has_c1 at h
 conv => whnf
 refine vBind h (fun c1_0 hb0 h => ?_)
 conv => whnf
 cases h
 exact hK
theorem w_slices_ContainsFunc_Sint64_int64_at_impl_areWithin_c1 (q0 : SoundC Tryz.prog 260 c_slices_IndexFunc_Sint64_int64_at_impl_areWithin_c1) : SoundC Tryz.prog 234 c_slices_ContainsFunc_Sint64_int64_at_impl_areWithin_c1 := by
 refine fn_sound tab_ok (gam_cons q0 gam_nil) mixed {} (fn := Tryz.f234) Tryz.func234 (by kernel_rfl) (by kernel_rfl) ?_
 rintro ⟨s0, f0, ⟨⟩⟩ K ⟨r, h, hK⟩
 change slices_ContainsFunc_Sint64_int64_at_impl_areWithin_c1 s0 f0 = some r at h
 unfold slices_ContainsFunc_Sint64_int64_at_impl_areWithin_c1 at h
 conv => whnf
 refine vBind h (fun c1_0 hb0 h => ?_)
 conv => whnf
 cases h
 exact hK
theorem w_slices_ContainsFunc_Sint_int_at_impl_IsDesign_c1 (q0 : SoundC Tryz.prog 237 c_slices_IndexFunc_Sint_int_at_impl_IsDesign_c1) : SoundC Tryz.prog 202 c_slices_ContainsFunc_Sint_int_at_impl_IsDesign_c1 := by
 refine fn_sound tab_ok (gam_cons q0 gam_nil) mixed {} (fn := Tryz.f202) Tryz.func202 (by kernel_rfl) (by kernel_rfl) ?_
 rintro ⟨s0, f0, ⟨⟩⟩ K ⟨r, h, hK⟩
 change slices_ContainsFunc_Sint_int_at_impl_IsDesign_c1 s0 f0 = some r at h
 unfold slices_ContainsFunc_Sint_int_at_impl_IsDesign_c1 at h
 conv => whnf
 refine vBind h (fun c1_0 hb0 h => ?_)
 conv => whnf
 cases h
 exact hK
theorem w_slices_Equal_Sint64_int64 : SoundC Tryz.prog 261 c_slices_Equal_Sint64_int64 := by
 refine fn_sound tab_ok gam_nil mixed { loops := [(0, [.reg 13 (.dat (.int .i64))])], draws := [(6, [0, 0, 3, 7, 0, 0, 48, 112, 255], .op 0 (.op 1 (.op 2 (.op 3 (.op 4 (.op 5 (.op 6 (.op 7 (.op 8 (.done))))))))))] } (fn := Tryz.f261) Tryz.func261 (by kernel_rfl) (by kernel_rfl) ?_
 rintro ⟨s1_0, s2_0, ⟨⟩⟩ K ⟨r, h, hK⟩
 change slices_Equal_Sint64_int64 s1_0 s2_0 = some r at h
 unfold slices_Equal_Sint64_int64 at h
 conv => whnf
 refine vNots ?_
 refine vIfD h (fun h => ?_) (fun h => ?_)
 conv => whnf
 refine vLoop h ?_
 rintro I0 μ0 ⟨v0, ⟨⟩⟩ zs0 h hI0 hR0
 change slices_Equal_Sint64_int64_loop0 s1_0 s2_0 v0 = some zs0 at h
 unfold slices_Equal_Sint64_int64_loop0 at h
 conv => whnf
 refine vIfD h (fun h => ?_) (fun h => ?_)
 conv => whnf
 refine ⟨by kernel_rfl, ?_⟩
 conv => whnf
 refine vAt h (fun x0 he1a he1b he1x h => ?_)
 conv => whnf
 refine vAt h (fun x1 he2a he2b he2x h => ?_)
 conv => whnf
 refine vNots ?_
 refine vIfD h (fun h => ?_) (fun h => ?_)
 conv => whnf
 cases h
 exact ⟨⟨rfl, rfl⟩, hI0 _ rfl⟩
 conv => whnf
 cases h
 obtain rfl := hR0 _ rfl
 exact hK
 conv => whnf
 cases h
 obtain rfl := hR0 _ rfl
 exact hK
 conv => whnf
 cases h
 exact hK
theorem w_slices_IndexFunc_Simpl_Pin_impl_Pin_at_impl_Cell_clock_c1 (q0 : SoundC Tryz.prog 302 c_impl_Cell_clock_c1) : SoundC Tryz.prog 301 c_slices_IndexFunc_Simpl_Pin_impl_Pin_at_impl_Cell_clock_c1 := by
 refine fn_sound tab_ok (gam_cons q0 gam_nil) mixed { loops := [(0, [.reg 8 (.dat (.int .i64))])] } (fn := Tryz.f301) Tryz.func301 (by kernel_rfl) (by kernel_rfl) ?_
 rintro ⟨s0, f0, ⟨⟩⟩ K ⟨r, h, hK⟩
 change slices_IndexFunc_Simpl_Pin_impl_Pin_at_impl_Cell_clock_c1 s0 f0 = some r at h
 unfold slices_IndexFunc_Simpl_Pin_impl_Pin_at_impl_Cell_clock_c1 at h
 conv => whnf
 refine vLoop h ?_
 rintro I0 μ0 ⟨v0, ⟨⟩⟩ zs0 h hI0 hR0
 change slices_IndexFunc_Simpl_Pin_impl_Pin_at_impl_Cell_clock_c1_loop0 s0 v0 = some zs0 at h
 unfold slices_IndexFunc_Simpl_Pin_impl_Pin_at_impl_Cell_clock_c1_loop0 at h
 conv => whnf
 refine vIfD h (fun h => ?_) (fun h => ?_)
 conv => whnf
 refine vAt h (fun x0 he1a he1b he1x h => ?_)
 conv => whnf
 refine vBind h (fun c1_0 hb2 h => ?_)
 conv => whnf
 refine vIfB h (fun h => ?_) (fun h => ?_)
 conv => whnf
 cases h
 obtain rfl := hR0 _ rfl
 exact hK
 conv => whnf
 cases h
 exact ⟨⟨rfl, rfl⟩, hI0 _ rfl⟩
 conv => whnf
 cases h
 obtain rfl := hR0 _ rfl
 exact hK
theorem w_spec_IsDesign (q0 : SoundC Tryz.prog 191 c_spec_IsLibrary) (q1 : SoundC Tryz.prog 192 c_spec_l05Parts) (q2 : SoundC Tryz.prog 193 c_spec_l05Names) : SoundC Tryz.prog 145 c_spec_IsDesign := by
 refine fn_sound tab_ok (gam_cons q0 (gam_cons q1 (gam_cons q2 gam_nil))) mixed { loops := [(0, [.reg 5 (.own (.ol 9 (.flat (.str)))), .reg 6 (.dat (.int .i64))]), (2, [.reg 7 (.own (.ol 9 (.flat (.str)))), .reg 8 (.dat (.int .i64))]), (4, [.reg 10 (.dat (.int .i64)), .ent 6 (nat_lit 2) (.flat ti33.ety)]), (6, [.reg 12 (.dat (.int .i64)), .ent 6 (nat_lit 2) (.flat ti33.ety)]), (8, [.reg 13 (.dat (.int .i64))])] } (fn := Tryz.f145) Tryz.func145 (by kernel_rfl) (by kernel_rfl) ?_
 rintro ⟨a0, a1, ⟨⟩⟩ K ⟨r, h, hK⟩
 change spec_IsDesign a0 a1 = some r at h
 unfold spec_IsDesign at h
 conv => whnf
 refine vBind h (fun IsLibrary0 hb0 h => ?_)
 conv => whnf
 refine vNot ?_
 refine vIfB h (fun h => ?_) (fun h => ?_)
 conv => whnf
 refine vIfDs h (fun h => ?_) (fun h => ?_)
 conv => whnf
 cases h
 exact hK
 conv => whnf
 refine vIfDs h (fun h => ?_) (fun h => ?_)
 conv => whnf
 cases h
 exact hK
 conv => whnf
 refine vIfDs h (fun h => ?_) (fun h => ?_)
 conv => whnf
 cases h
 exact hK
 conv => whnf
 refine vBind h (fun l05Parts0 hb1 h => ?_)
 conv => whnf
 refine vNots ?_
 refine vIfB h (fun h => ?_) (fun h => ?_)
 conv => whnf
 refine vLoop h ?_
 rintro I2 μ2 ⟨v0, v1, ⟨⟩⟩ zs2 h hI2 hR2
 change spec_IsDesign_loop4 a1 v0 v1 = some zs2 at h
 unfold spec_IsDesign_loop4 at h
 conv => whnf
 refine vIfD h (fun h => ?_) (fun h => ?_)
 conv => whnf
 refine vAt h (fun x0 he3a he3b he3x h => ?_)
 conv => whnf
 refine vPre h (fun hp4 h => ?_)
 conv => whnf
 cases h
 exact ⟨⟨rfl, rfl⟩, hI2 _ rfl⟩
 conv => whnf
 refine vLoop h ?_
 rintro I5 μ5 ⟨v2, v3, ⟨⟩⟩ zs5 h hI5 hR5
 change spec_IsDesign_loop3 a1 v0 v2 v3 = some zs5 at h
 unfold spec_IsDesign_loop3 at h
 conv => whnf
 refine vIfD h (fun h => ?_) (fun h => ?_)
 conv => whnf
 refine vAt h (fun x0 he6a he6b he6x h => ?_)
 conv => whnf
 refine vPre h (fun hp7 h => ?_)
 conv => whnf
 cases h
 exact ⟨⟨rfl, rfl⟩, hI5 _ rfl⟩
 conv => whnf
 refine vBind h (fun l05Names0 hb8 h => ?_)
 conv => whnf
 refine vNot ?_
 refine vIfB h (fun h => ?_) (fun h => ?_)
 conv => whnf
 refine vBind h (fun l05Names1 hb9 h => ?_)
 conv => whnf
 refine vNot ?_
 refine vIfB h (fun h => ?_) (fun h => ?_)
 conv => whnf
 refine vBind h (fun l05Names2 hb10 h => ?_)
 conv => whnf
 refine vNots ?_
 refine vIfB h (fun h => ?_) (fun h => ?_)
 conv => whnf
 refine vPre h (fun hp11 h => ?_)
 conv => whnf
 refine vPre h (fun hp12 h => ?_)
 conv => whnf
 refine vPre h (fun hp13 h => ?_)
 conv => whnf
 refine vPre h (fun hp14 h => ?_)
 conv => whnf
 refine vLoop h ?_
 rintro I15 μ15 ⟨v4, l0, ⟨⟩⟩ zs15 h hI15 hR15
 change spec_IsDesign_loop2 a1 v4 l0 = some zs15 at h
 unfold spec_IsDesign_loop2 at h
 conv => whnf
 refine vIfD h (fun h => ?_) (fun h => ?_)
 conv => whnf
 refine vAt h (fun x0 he16a he16b he16x h => ?_)
 conv => whnf
 refine vAt h (fun x1 he17a he17b he17x h => ?_)
 conv => whnf
 refine vAt h (fun x2 he18a he18b he18x h => ?_)
 conv => whnf
 refine ⟨by kernel_rfl, ?_⟩
 conv => whnf
 refine ⟨he18a, he18b, vAgain he18x ?_⟩
 conv => whnf
 refine ⟨he18a, he18b, vAgain he18x ?_⟩
 conv => whnf
 refine ⟨by kernel_rfl, ?_⟩
 conv => whnf
 refine ⟨by decide, ?_⟩
 conv => whnf
 refine ⟨he18a, he18b, vAgain he18x ?_⟩
 conv => whnf
 cases h
 exact ⟨⟨rfl, rfl⟩, hI15 _ rfl⟩
 conv => whnf
 refine vLoop h ?_
 rintro I19 μ19 ⟨v5, l1, ⟨⟩⟩ zs19 h hI19 hR19
 change spec_IsDesign_loop1 a1 v5 l1 = some zs19 at h
 unfold spec_IsDesign_loop1 at h
 conv => whnf
 refine vIfD h (fun h => ?_) (fun h => ?_)
 conv => whnf
 refine vAt h (fun x0 he20a he20b he20x h => ?_)
 conv => whnf
 refine vIfD h (fun h => ?_) (fun h => ?_)
 conv => whnf
 refine ⟨he20a, he20b, vAgain he20x ?_⟩
 conv => whnf
 refine vAt h (fun x1 he21a he21b he21x h => ?_)
 conv => whnf
 refine ⟨by kernel_rfl, ?_⟩
 conv => whnf
 refine ⟨he21a, he21b, vAgain he21x ?_⟩
 conv => whnf
 refine ⟨he21a, he21b, vAgain he21x ?_⟩
 conv => whnf
 refine ⟨by kernel_rfl, ?_⟩
 conv => whnf
 refine ⟨by decide, ?_⟩
 conv => whnf
 refine ⟨he21a, he21b, vAgain he21x ?_⟩
 conv => whnf
 cases h
 exact ⟨⟨rfl, rfl⟩, hI19 _ rfl⟩
 conv => whnf
 cases h
 exact ⟨⟨rfl, rfl⟩, hI19 _ rfl⟩
 conv => whnf
 refine vLoop h ?_
 rintro I22 μ22 ⟨v6, ⟨⟩⟩ zs22 h hI22 hR22
 change spec_IsDesign_loop0 l1 v6 = some zs22 at h
 unfold spec_IsDesign_loop0 at h
 conv => whnf
 refine vIfD h (fun h => ?_) (fun h => ?_)
 conv => whnf
 refine vAt h (fun x0 he23a he23b he23x h => ?_)
 conv => whnf
 refine ⟨by kernel_rfl, ?_⟩
 conv => whnf
 refine ⟨he23a, he23b, vAgain he23x ?_⟩
 conv => whnf
 refine vNots ?_
 refine vIfD h (fun h => ?_) (fun h => ?_)
 conv => whnf
 cases h
 exact ⟨⟨rfl, rfl⟩, hI22 _ rfl⟩
 conv => whnf
 cases h
 obtain rfl := hR22 _ rfl
 obtain rfl := hR19 _ rfl
 obtain rfl := hR15 _ rfl
 obtain rfl := hR5 _ rfl
 obtain rfl := hR2 _ rfl
 exact hK
 conv => whnf
 cases h
 obtain rfl := hR22 _ rfl
 obtain rfl := hR19 _ rfl
 obtain rfl := hR15 _ rfl
 obtain rfl := hR5 _ rfl
 obtain rfl := hR2 _ rfl
 exact hK
 conv => whnf
 cases h
 obtain rfl := hR5 _ rfl
 obtain rfl := hR2 _ rfl
 exact hK
 conv => whnf
 cases h
 obtain rfl := hR5 _ rfl
 obtain rfl := hR2 _ rfl
 exact hK
 conv => whnf
 cases h
 obtain rfl := hR5 _ rfl
 obtain rfl := hR2 _ rfl
 exact hK
 conv => whnf
 cases h
 exact hK
 conv => whnf
 cases h
 exact hK
theorem w_spec_TableBounds (q0 : SoundC Tryz.prog 296 c_spec_IsTable) : SoundC Tryz.prog 286 c_spec_TableBounds := by
 refine fn_sound tab_ok (gam_cons q0 gam_nil) mixed { loops := [(0, [.reg 5 (.dat (.int .i64)), .cell 2 0 (.int .i64), .cell 2 1 (.int .i64)])], draws := [(3, [0, 1, 3, 7, 0, 16, 48, 112, 255, 0, 1023], .op 0 (.op 1 (.op 2 (.op 3 (.op 4 (.op 5 (.op 6 (.op 7 (.op 8 (.alt 9 (.alt 10 (.done) (.done)) (.done))))))))))), (7, [0, 1, 0, 4, 0, 28, 60, 127, 255, 511], .op 0 (.op 1 (.op 2 (.op 3 (.op 4 (.op 5 (.op 6 (.op 7 (.op 8 (.alt 9 (.done) (.done))))))))))), (8, [0, 1, 0, 4, 0, 28, 60, 127, 255, 511], .op 0 (.op 1 (.op 2 (.op 3 (.op 4 (.op 5 (.op 6 (.op 7 (.op 8 (.alt 9 (.done) (.done)))))))))))] } (fn := Tryz.f286) Tryz.func286 (by kernel_rfl) (by kernel_rfl) ?_
 rintro ⟨t0, ⟨⟩⟩ K ⟨r, h, hK⟩
 change spec_TableBounds t0 = some r at h
 unfold spec_TableBounds at h
 conv => whnf
 refine vBind h (fun IsTable0 hb0 h => ?_)
 conv => whnf
 refine vNots ?_
 refine vIfB h (fun h => ?_) (fun h => ?_)
 conv => whnf
 refine ⟨by kernel_rfl, ?_⟩
 conv => whnf
 refine vAt h (fun x0 he1a he1b he1x h => ?_)
 conv => whnf
 refine ⟨he1a, he1b, vAgain he1x ?_⟩
 conv => whnf
 refine vLoop h ?_
 rintro I2 μ2 ⟨i0, c0, c1, ⟨⟩⟩ zs2 h hI2 hR2
 change spec_TableBounds_loop0 t0 i0 c0 c1 = some zs2 at h
 unfold spec_TableBounds_loop0 at h
 conv => whnf
 refine vIfD h (fun h => ?_) (fun h => ?_)
 conv => whnf
 refine ⟨by kernel_rfl, ?_⟩
 conv => whnf
 refine vAt h (fun x1 he3a he3b he3x h => ?_)
 conv => whnf
 refine ⟨by kernel_rfl, ?_⟩
 conv => whnf
 refine ⟨he3a, he3b, vAgain he3x ?_⟩
 conv => whnf
 cases h
 exact ⟨⟨rfl, rfl⟩, hI2 _ rfl⟩
 conv => whnf
 cases h
 obtain rfl := hR2 _ rfl
 exact hK
 conv => whnf
 cases h
 exact hK
theorem w_spec_l04Index : SoundC Tryz.prog 194 c_spec_l04Index := by
 refine fn_sound tab_ok gam_nil mixed { loops := [(0, [.reg 5 (.dat (.int .i64))])] } (fn := Tryz.f194) Tryz.func194 (by kernel_rfl) (by kernel_rfl) ?_
 rintro ⟨list0, word0, ⟨⟩⟩ K ⟨r, h, hK⟩
 change spec_l04Index list0 word0 = some r at h
 unfold spec_l04Index at h
 conv => whnf
 refine vLoop h ?_
 rintro I0 μ0 ⟨i0, ⟨⟩⟩ zs0 h hI0 hR0
 change spec_l04Index_loop0 list0 word0 i0 = some zs0 at h
 unfold spec_l04Index_loop0 at h
 conv => whnf
 refine vIfD h (fun h => ?_) (fun h => ?_)
 conv => whnf
 refine vAt h (fun x0 he1a he1b he1x h => ?_)
 conv => whnf
 refine vIfD h (fun h => ?_) (fun h => ?_)
 conv => whnf
 cases h
 obtain rfl := hR0 _ rfl
 exact hK
 conv => whnf
 cases h
 exact ⟨⟨rfl, rfl⟩, hI0 _ rfl⟩
 conv => whnf
 cases h
 obtain rfl := hR0 _ rfl
 exact hK
theorem w_spec_l05Parts (q0 : SoundC Tryz.prog 112 c_spec_l01In) : SoundC Tryz.prog 192 c_spec_l05Parts := by
 refine fn_sound tab_ok (gam_cons q0 gam_nil) mixed { loops := [(0, [.reg 6 (.dat (.int .i64))]), (2, [.reg 8 (.dat (.int .i64))]), (4, [.reg 9 (.dat (.int .i64))])], draws := [(6, [0, 1, 0, 4, 12, 28, 63, 127, 255, 511, 1023, 2047, 511, 4607, 511, 16895, 61951, 127487, 258559, 520703, 1048575, 2097151], .op 0 (.op 1 (.op 2 (.op 3 (.op 4 (.op 5 (.alt 6 (.op 7 (.op 8 (.op 9 (.op 10 (.op 11 (.op 12 (.op 13 (.op 14 (.op 15 (.op 16 (.op 17 (.op 18 (.op 19 (.op 20 (.op 21 (.done)))))))))))))))) (.done))))))))] } (fn := Tryz.f192) Tryz.func192 (by kernel_rfl) (by kernel_rfl) ?_
 rintro ⟨a0, a1, ⟨⟩⟩ K ⟨r, h, hK⟩
 change spec_l05Parts a0 a1 = some r at h
 unfold spec_l05Parts at h
 conv => whnf
 refine vLoop h ?_
 rintro I0 μ0 ⟨v0, ⟨⟩⟩ zs0 h hI0 hR0
 change spec_l05Parts_loop2 a0 a1 v0 = some zs0 at h
 unfold spec_l05Parts_loop2 at h
 conv => whnf
 refine vIfD h (fun h => ?_) (fun h => ?_)
 conv => whnf
 refine vAt h (fun x0 he1a he1b he1x h => ?_)
 conv => whnf
 refine ⟨by kernel_rfl, ?_⟩
 conv => whnf
 refine vBind h (fun l01In0 hb2 h => ?_)
 conv => whnf
 refine vNot ?_
 refine vIfB h (fun h => ?_) (fun h => ?_)
 conv => whnf
 refine vAt h (fun x1 he3a he3b he3x h => ?_)
 conv => whnf
 refine vNots ?_
 refine vIfD h (fun h => ?_) (fun h => ?_)
 conv => whnf
 refine vLoop h ?_
 rintro I4 μ4 ⟨v1, ⟨⟩⟩ zs4 h hI4 hR4
 change spec_l05Parts_loop0 a1 v0 x0 v1 = some zs4 at h
 unfold spec_l05Parts_loop0 at h
 conv => whnf
 refine vIfD h (fun h => ?_) (fun h => ?_)
 conv => whnf
 refine vAt h (fun x2 he5a he5b he5x h => ?_)
 conv => whnf
 refine vBind h (fun l01In1 hb6 h => ?_)
 conv => whnf
 refine vNots ?_
 refine vIfB h (fun h => ?_) (fun h => ?_)
 conv => whnf
 cases h
 exact ⟨⟨rfl, rfl⟩, hI4 _ rfl⟩
 conv => whnf
 cases h
 obtain rfl := hR4 _ rfl
 obtain rfl := hR0 _ rfl
 exact hK
 conv => whnf
 cases h
 obtain rfl := hR4 _ rfl
 exact ⟨⟨rfl, rfl⟩, hI0 _ rfl⟩
 conv => whnf
 cases h
 obtain rfl := hR0 _ rfl
 exact hK
 conv => whnf
 cases h
 obtain rfl := hR0 _ rfl
 exact hK
 conv => whnf
 refine vLoop h ?_
 rintro I7 μ7 ⟨v1, ⟨⟩⟩ zs7 h hI7 hR7
 change spec_l05Parts_loop1 a1 v1 = some zs7 at h
 unfold spec_l05Parts_loop1 at h
 conv => whnf
 refine vIfD h (fun h => ?_) (fun h => ?_)
 conv => whnf
 refine vAt h (fun x0 he8a he8b he8x h => ?_)
 conv => whnf
 refine vBind h (fun l01In0 hb9 h => ?_)
 conv => whnf
 refine vNot ?_
 refine vIfB h (fun h => ?_) (fun h => ?_)
 conv => whnf
 refine ⟨he8a, he8b, vAgain he8x ?_⟩
 conv => whnf
 refine vBind h (fun l01In1 hb10 h => ?_)
 conv => whnf
 refine vNots ?_
 refine vIfB h (fun h => ?_) (fun h => ?_)
 conv => whnf
 cases h
 exact ⟨⟨rfl, rfl⟩, hI7 _ rfl⟩
 conv => whnf
 cases h
 obtain rfl := hR7 _ rfl
 obtain rfl := hR0 _ rfl
 exact hK
 conv => whnf
 cases h
 obtain rfl := hR7 _ rfl
 obtain rfl := hR0 _ rfl
 exact hK
 conv => whnf
 cases h
 obtain rfl := hR7 _ rfl
 obtain rfl := hR0 _ rfl
 exact hK
theorem w_spec_l05Sinks (q0 : SoundC Tryz.prog 93 c_spec_l05Places) : SoundC Tryz.prog 147 c_spec_l05Sinks := by
 refine fn_sound tab_ok (gam_cons q0 gam_nil) mixed { loops := [(0, [.reg 5 (.own (.ol 2 (.flat (.int .i64)))), .reg 7 (.dat (.int .i64))])] } (fn := Tryz.f147) Tryz.func147 (by kernel_rfl) (by kernel_rfl) ?_
 rintro ⟨d0, net0, ⟨⟩⟩ K ⟨r, h, hK⟩
 change spec_l05Sinks d0 net0 = some r at h
 unfold spec_l05Sinks at h
 conv => whnf
 refine vBind h (fun l05Places0 hb0 h => ?_)
 conv => whnf
 refine vLoop h ?_
 rintro I1 μ1 ⟨out0, i0, ⟨⟩⟩ zs1 h hI1 hR1
 change spec_l05Sinks_loop0 net0 l05Places0 out0 i0 = some zs1 at h
 unfold spec_l05Sinks_loop0 at h
 conv => whnf
 refine vIfD h (fun h => ?_) (fun h => ?_)
 conv => whnf
 refine vAt h (fun x0 he2a he2b he2x h => ?_)
 conv => whnf
 refine ⟨by kernel_rfl, ?_⟩
 conv => whnf
 refine ⟨he2a, he2b, vAgain he2x ?_⟩
 conv => whnf
 refine vIfD h (fun h => ?_) (fun h => ?_)
 conv => whnf
 refine ⟨he2a, he2b, vAgain he2x ?_⟩
 conv => whnf
 refine ⟨by kernel_rfl, ?_⟩
 conv => whnf
 refine ⟨he2a, he2b, vAgain he2x ?_⟩
 conv => whnf
 refine vNots ?_
 refine vIfB h (fun h => ?_) (fun h => ?_)
 conv => whnf
 cases h
 exact ⟨⟨rfl, rfl⟩, hI1 _ rfl⟩
 conv => whnf
 refine vPre h (fun hp3 h => ?_)
 conv => whnf
 cases h
 exact ⟨⟨rfl, rfl⟩, hI1 _ rfl⟩
 conv => whnf
 cases h
 exact ⟨⟨rfl, rfl⟩, hI1 _ rfl⟩
 conv => whnf
 cases h
 obtain rfl := hR1 _ rfl
 exact hK
theorem w_spec_l08Buffer : SoundC Tryz.prog 149 c_spec_l08Buffer := by
 refine fn_sound tab_ok gam_nil mixed {} (fn := Tryz.f149) Tryz.func149 (by kernel_rfl) (by kernel_rfl) ?_
 rintro ⟨c0, ⟨⟩⟩ K ⟨r, h, hK⟩
 change spec_l08Buffer c0 = some r at h
 unfold spec_l08Buffer at h
 conv => whnf
 refine vIfD h (fun h => ?_) (fun h => ?_)
 conv => whnf
 cases h
 exact hK
 conv => whnf
 cases h
 exact hK
end Go.Proofs.YtaccffcigblceaaGreatDoor
