/-
  The functions keep their contracts, if what they call does. Printed by program.
-/
import Derived.Test.YtmlloomodhhefaaGreatDoorM
import Derived.KernelRfl
namespace Go.Proofs.YtmlloomodhhefaaGreatDoor
open Go Go.Sx
set_option maxRecDepth 100000
set_option linter.unusedVariables false
set_option linter.unusedSimpArgs false
theorem w_impl_Arc_transitions : SoundC Tryz.prog 131 c_impl_Arc_transitions := by
  refine fn_sound tab_ok gam_nil mixed {} (fn := Tryz.f131) Tryz.func131 (by kernel_rfl) (by kernel_rfl) ?_
  rintro ⟨a0, ⟨⟩⟩ K ⟨r, h, hK⟩
  change impl_Arc_transitions a0 = some r at h
  unfold impl_Arc_transitions at h
  conv => whnf
  refine vIfD h (fun h => ?_) (fun h => ?_)
  · conv => whnf
    cases h
    exact hK
  · conv => whnf
    refine vIfD h (fun h => ?_) (fun h => ?_)
    · conv => whnf
      cases h
      exact hK
    · conv => whnf
      refine vNots ?_
      refine vIfD h (fun h => ?_) (fun h => ?_)
      · conv => whnf
        refine vIfD h (fun h => ?_) (fun h => ?_)
        · conv => whnf
          cases h
          exact hK
        · conv => whnf
          refine vIfD h (fun h => ?_) (fun h => ?_)
          · conv => whnf
            cases h
            exact hK
          · conv => whnf
            cases h
            exact hK
      · conv => whnf
        cases h
        exact hK
theorem w_impl_Block_exactDelays (q0 : SoundC Tryz.prog 135 c_impl_Block_nodeDelays) : SoundC Tryz.prog 80 c_impl_Block_exactDelays := by
  refine fn_sound tab_ok (gam_cons q0 gam_nil) mixed { loops := [(0, [.reg 6 (.own (.ol 2 (.flat (.int .i64)))), .reg 19 (.dat (.int .i64))])] } (fn := Tryz.f80) Tryz.func80 (by kernel_rfl) (by kernel_rfl) ?_
  rintro ⟨b0, net0, ⟨⟩⟩ K ⟨r, h, hK⟩
  change impl_Block_exactDelays b0 net0 = some r at h
  unfold impl_Block_exactDelays at h
  conv => whnf
  refine vBind h (fun nodeDelays0 hb0 h => ?_)
  conv => whnf
  refine vAt h (fun x0 he1a he1b he1x h => ?_)
  conv => whnf
  refine vLoop h ?_
  rintro I2 μ2 ⟨out0, v0, ⟨⟩⟩ zs2 h hI2 hR2
  change impl_Block_exactDelays_loop0 nodeDelays0 x0 out0 v0 = some zs2 at h
  unfold impl_Block_exactDelays_loop0 at h
  conv => whnf
  refine vIfD h (fun h => ?_) (fun h => ?_)
  · conv => whnf
    refine vAt h (fun x1 he3a he3b he3x h => ?_)
    conv => whnf
    refine vAt h (fun x2 he4a he4b he4x h => ?_)
    conv => whnf
    refine ⟨by kernel_rfl, ?_⟩
    conv => whnf
    refine ⟨he4a, he4b, vAgain he4x ?_⟩
    conv => whnf
    refine vPre h (fun hp5 h => ?_)
    conv => whnf
    cases h
    exact ⟨⟨rfl, rfl⟩, hI2 _ rfl⟩
  · conv => whnf
    cases h
    obtain rfl := hR2 _ rfl
    exact hK
theorem w_impl_Block_nodeDelays (q0 : SoundC Tryz.prog 79 c_impl_Block_nodeLoads) : SoundC Tryz.prog 135 c_impl_Block_nodeDelays := by
  refine fn_sound tab_ok (gam_cons q0 gam_nil) mixed { loops := [(0, [.reg 8 (.dat (.int .i64)), .ent 3 (nat_lit 2) (.flat ti79.ety)])], draws := [(1, [0, 1, 0, 7, 15, 0, 0, 96, 0, 511, 1023], .op 0 (.op 1 (.op 2 (.op 3 (.op 4 (.op 5 (.op 6 (.alt 7 (.alt 8 (.alt 9 (.op 10 (.done)) (.done)) (.done)) (.alt 8 (.alt 7 (.alt 9 (.op 10 (.done)) (.done)) (.done)) (.done)))))))))), (6, [0, 0, 0, 0, 8, 0, 56, 120, 252, 508, 0, 1024, 0, 7168, 15360, 0, 0, 98304, 229376, 523264, 1048572, 2097151, 4194303], .op 0 (.op 1 (.op 2 (.op 3 (.op 4 (.op 5 (.op 6 (.op 7 (.op 8 (.op 9 (.op 10 (.op 11 (.op 12 (.op 13 (.op 14 (.op 15 (.op 16 (.op 17 (.op 18 (.op 19 (.op 20 (.op 21 (.alt 22 (.done) (.done))))))))))))))))))))))))] } (fn := Tryz.f135) Tryz.func135 (by kernel_rfl) (by kernel_rfl) ?_
  rintro ⟨b0, net0, ⟨⟩⟩ K ⟨r, h, hK⟩
  change impl_Block_nodeDelays b0 net0 = some r at h
  unfold impl_Block_nodeDelays at h
  conv => whnf
  refine ⟨by kernel_rfl, ?_⟩
  conv => whnf
  refine vAt h (fun x0 he0a he0b he0x h => ?_)
  conv => whnf
  refine ⟨?_, ?_⟩
  · conv => whnf
    refine vBind h (fun nodeLoads0 hb1 h => ?_)
    conv => whnf
    refine vPre h (fun hp2 h => ?_)
    conv => whnf
    refine vPre h (fun hp3 h => ?_)
    conv => whnf
    refine vPre h (fun hp4 h => ?_)
    conv => whnf
    refine vPre h (fun hp5 h => ?_)
    conv => whnf
    refine vLoop h ?_
    rintro I6 μ6 ⟨i0, l0, ⟨⟩⟩ zs6 h hI6 hR6
    change impl_Block_nodeDelays_loop0 x0 nodeLoads0 i0 l0 = some zs6 at h
    unfold impl_Block_nodeDelays_loop0 at h
    conv => whnf
    refine vIfD h (fun h => ?_) (fun h => ?_)
    · conv => whnf
      refine ⟨by kernel_rfl, ?_⟩
      conv => whnf
      refine vAt h (fun x1 he7a he7b he7x h => ?_)
      conv => whnf
      refine vAt h (fun x2 he8a he8b he8x h => ?_)
      conv => whnf
      refine ⟨by kernel_rfl, ?_⟩
      conv => whnf
      refine ⟨he8a, he8b, vAgain he8x ?_⟩
      conv => whnf
      refine vAt h (fun x3 he9a he9b he9x h => ?_)
      conv => whnf
      refine vAt h (fun x4 he10a he10b he10x h => ?_)
      conv => whnf
      refine ⟨by kernel_rfl, ?_⟩
      conv => whnf
      refine ⟨he10a, he10b, vAgain he10x ?_⟩
      conv => whnf
      refine vAt h (fun x5 he11a he11b he11x h => ?_)
      conv => whnf
      refine ⟨by kernel_rfl, ?_⟩
      conv => whnf
      refine ⟨by decide, ?_⟩
      conv => whnf
      refine ⟨he11a, he11b, vAgain he11x ?_⟩
      conv => whnf
      cases h
      exact ⟨⟨rfl, rfl⟩, hI6 _ rfl⟩
    · conv => whnf
      cases h
      obtain rfl := hR6 _ rfl
      exact hK
  · obtain ⟨nodeLoads0, hb1, h⟩ := Option.bind_eq_some_iff.1 h
    obtain ⟨hp2, h⟩ := guardE h
    obtain ⟨hp3, h⟩ := guardE h
    obtain ⟨hp4, h⟩ := guardE h
    obtain ⟨hp5, h⟩ := guardE h
    conv => whnf
    refine ⟨_, hb1, ?_⟩
    conv => whnf
    refine ⟨hp2, ?_⟩
    conv => whnf
    refine ⟨hp3, ?_⟩
    conv => whnf
    refine ⟨hp4, ?_⟩
    conv => whnf
    refine ⟨hp5, ?_⟩
    conv => whnf
    refine vLoop h ?_
    rintro I12 μ12 ⟨i0, l0, ⟨⟩⟩ zs12 h hI12 hR12
    change impl_Block_nodeDelays_loop0 x0 nodeLoads0 i0 l0 = some zs12 at h
    unfold impl_Block_nodeDelays_loop0 at h
    conv => whnf
    refine vIfD h (fun h => ?_) (fun h => ?_)
    · conv => whnf
      refine ⟨by kernel_rfl, ?_⟩
      conv => whnf
      refine vAt h (fun x1 he13a he13b he13x h => ?_)
      conv => whnf
      refine vAt h (fun x2 he14a he14b he14x h => ?_)
      conv => whnf
      refine ⟨by kernel_rfl, ?_⟩
      conv => whnf
      refine ⟨he14a, he14b, vAgain he14x ?_⟩
      conv => whnf
      refine vAt h (fun x3 he15a he15b he15x h => ?_)
      conv => whnf
      refine vAt h (fun x4 he16a he16b he16x h => ?_)
      conv => whnf
      refine ⟨by kernel_rfl, ?_⟩
      conv => whnf
      refine ⟨he16a, he16b, vAgain he16x ?_⟩
      conv => whnf
      refine vAt h (fun x5 he17a he17b he17x h => ?_)
      conv => whnf
      refine ⟨by kernel_rfl, ?_⟩
      conv => whnf
      refine ⟨by decide, ?_⟩
      conv => whnf
      refine ⟨he17a, he17b, vAgain he17x ?_⟩
      conv => whnf
      cases h
      exact ⟨⟨rfl, rfl⟩, hI12 _ rfl⟩
    · conv => whnf
      cases h
      obtain rfl := hR12 _ rfl
      exact hK
theorem w_impl_Cell_output (q0 : SoundC Tryz.prog 208 c_impl_length_impl_Pin) : SoundC Tryz.prog 212 c_impl_Cell_output := by
  refine fn_sound tab_ok (gam_cons q0 gam_nil) mixed {} (fn := Tryz.f212) Tryz.func212 (by kernel_rfl) (by kernel_rfl) ?_
  rintro ⟨c0, ⟨⟩⟩ K ⟨r, h, hK⟩
  change impl_Cell_output c0 = some r at h
  unfold impl_Cell_output at h
  conv => whnf
  refine vBind h (fun Pin0 hb0 h => ?_)
  conv => whnf
  cases h
  exact hK
theorem w_impl_Design_hasNames (q0 : SoundC Tryz.prog 137 c_impl_areNames) : SoundC Tryz.prog 123 c_impl_Design_hasNames := by
  refine fn_sound tab_ok (gam_cons q0 gam_nil) mixed { loops := [(0, [.reg 3 (.own (.ol 9 (.flat (.str)))), .reg 12 (.dat (.int .i64))]), (2, [.reg 4 (.own (.ol 9 (.flat (.str)))), .reg 25 (.dat (.int .i64))])] } (fn := Tryz.f123) Tryz.func123 (by kernel_rfl) (by kernel_rfl) ?_
  rintro ⟨d0, ⟨⟩⟩ K ⟨r, h, hK⟩
  change impl_Design_hasNames d0 = some r at h
  unfold impl_Design_hasNames at h
  conv => whnf
  refine vLoop h ?_
  rintro I0 μ0 ⟨instances0, v0, ⟨⟩⟩ zs0 h hI0 hR0
  change impl_Design_hasNames_loop1 d0 instances0 v0 = some zs0 at h
  unfold impl_Design_hasNames_loop1 at h
  conv => whnf
  refine vIfD h (fun h => ?_) (fun h => ?_)
  · conv => whnf
    refine vAt h (fun x0 he1a he1b he1x h => ?_)
    conv => whnf
    refine vPre h (fun hp2 h => ?_)
    conv => whnf
    cases h
    exact ⟨⟨rfl, rfl⟩, hI0 _ rfl⟩
  · conv => whnf
    refine vLoop h ?_
    rintro I3 μ3 ⟨ports0, v1, ⟨⟩⟩ zs3 h hI3 hR3
    change impl_Design_hasNames_loop0 d0 instances0 ports0 v1 = some zs3 at h
    unfold impl_Design_hasNames_loop0 at h
    conv => whnf
    refine vIfD h (fun h => ?_) (fun h => ?_)
    · conv => whnf
      refine vAt h (fun x0 he4a he4b he4x h => ?_)
      conv => whnf
      refine vPre h (fun hp5 h => ?_)
      conv => whnf
      cases h
      exact ⟨⟨rfl, rfl⟩, hI3 _ rfl⟩
    · conv => whnf
      refine vIfD h (fun h => ?_) (fun h => ?_)
      · conv => whnf
        refine vIfD h (fun h => ?_) (fun h => ?_)
        · conv => whnf
          refine vIfD h (fun h => ?_) (fun h => ?_)
          · conv => whnf
            refine vBind h (fun areNames0 hb6 h => ?_)
            conv => whnf
            refine vIfB h (fun h => ?_) (fun h => ?_)
            · conv => whnf
              refine vBind h (fun areNames1 hb7 h => ?_)
              conv => whnf
              refine vIfB h (fun h => ?_) (fun h => ?_)
              · conv => whnf
                refine vBind h (fun areNames2 hb8 h => ?_)
                conv => whnf
                cases h
                obtain rfl := hR3 _ rfl
                obtain rfl := hR0 _ rfl
                exact hK
              · conv => whnf
                cases h
                obtain rfl := hR3 _ rfl
                obtain rfl := hR0 _ rfl
                exact hK
            · conv => whnf
              cases h
              obtain rfl := hR3 _ rfl
              obtain rfl := hR0 _ rfl
              exact hK
          · conv => whnf
            cases h
            obtain rfl := hR3 _ rfl
            obtain rfl := hR0 _ rfl
            exact hK
        · conv => whnf
          cases h
          obtain rfl := hR3 _ rfl
          obtain rfl := hR0 _ rfl
          exact hK
      · conv => whnf
        cases h
        obtain rfl := hR3 _ rfl
        obtain rfl := hR0 _ rfl
        exact hK
theorem w_impl_IsDesign_c1 : SoundC Tryz.prog 127 c_impl_IsDesign_c1 := by
  refine fn_sound tab_ok gam_nil mixed {} (fn := Tryz.f127) Tryz.func127 (by kernel_rfl) (by kernel_rfl) ?_
  rintro ⟨n0, ⟨⟩⟩ K ⟨r, h, hK⟩
  change impl_IsDesign_c1 n0 = some r at h
  unfold impl_IsDesign_c1 at h
  conv => whnf
  cases h
  exact hK
theorem w_impl_IsLibrary (q1 : SoundC Tryz.prog 164 c_impl_IsCell) (q0 : SoundC Tryz.prog 137 c_impl_areNames) : SoundC Tryz.prog 122 c_impl_IsLibrary := by
  refine fn_sound tab_ok (gam_cons q1 (gam_cons q0 gam_nil)) mixed { loops := [(0, [.reg 3 (.own (.ol 9 (.flat (.str)))), .reg 9 (.dat (.int .i64))])] } (fn := Tryz.f122) Tryz.func122 (by kernel_rfl) (by kernel_rfl) ?_
  rintro ⟨l0, ⟨⟩⟩ K ⟨r, h, hK⟩
  change impl_IsLibrary l0 = some r at h
  unfold impl_IsLibrary at h
  conv => whnf
  refine vLoop h ?_
  rintro I0 μ0 ⟨names0, v0, ⟨⟩⟩ zs0 h hI0 hR0
  change impl_IsLibrary_loop0 l0 names0 v0 = some zs0 at h
  unfold impl_IsLibrary_loop0 at h
  conv => whnf
  refine vIfD h (fun h => ?_) (fun h => ?_)
  · conv => whnf
    refine vAt h (fun x0 he1a he1b he1x h => ?_)
    conv => whnf
    refine vBind h (fun IsCell0 hb2 h => ?_)
    conv => whnf
    refine vNots ?_
    refine vIfB h (fun h => ?_) (fun h => ?_)
    · conv => whnf
      refine vPre h (fun hp3 h => ?_)
      conv => whnf
      cases h
      exact ⟨⟨rfl, rfl⟩, hI0 _ rfl⟩
    · conv => whnf
      cases h
      obtain rfl := hR0 _ rfl
      exact hK
  · conv => whnf
    refine vIfD h (fun h => ?_) (fun h => ?_)
    · conv => whnf
      refine vBind h (fun areNames0 hb4 h => ?_)
      conv => whnf
      cases h
      obtain rfl := hR0 _ rfl
      exact hK
    · conv => whnf
      cases h
      obtain rfl := hR0 _ rfl
      exact hK
theorem w_impl_areTables_c1 (q1 : SoundC Tryz.prog 252 c_impl_IsTable) (q0 : SoundC Tryz.prog 253 c_slices_Min_Sint64_int64) : SoundC Tryz.prog 251 c_impl_areTables_c1 := by
  refine fn_sound tab_ok (gam_cons q1 (gam_cons q0 gam_nil)) mixed {} (fn := Tryz.f251) Tryz.func251 (by kernel_rfl) (by kernel_rfl) ?_
  rintro ⟨t0, a0, ⟨⟩⟩ K ⟨r, h, hK⟩
  change impl_areTables_c1 t0 a0 = some r at h
  unfold impl_areTables_c1 at h
  conv => whnf
  refine vBind h (fun IsTable0 hb0 h => ?_)
  conv => whnf
  refine vNot ?_
  refine vIfB h (fun h => ?_) (fun h => ?_)
  · conv => whnf
    refine vIfB h (fun h => ?_) (fun h => ?_)
    · conv => whnf
      refine vBind h (fun int64_0 hb1 h => ?_)
      conv => whnf
      cases h
      exact hK
    · conv => whnf
      cases h
      exact hK
  · conv => whnf
    cases h
    exact hK
theorem w_impl_areWithin (q0 : SoundC Tryz.prog 166 c_slices_ContainsFunc_Sint64_int64_at_impl_areWithin_c1) : SoundC Tryz.prog 130 c_impl_areWithin := by
  refine fn_sound tab_ok (gam_cons q0 gam_nil) mixed {} (fn := Tryz.f130) Tryz.func130 (by kernel_rfl) (by kernel_rfl) ?_
  rintro ⟨list0, low0, high0, ⟨⟩⟩ K ⟨r, h, hK⟩
  change impl_areWithin list0 low0 high0 = some r at h
  unfold impl_areWithin at h
  conv => whnf
  refine vBind h (fun c1_0 hb0 h => ?_)
  conv => whnf
  cases h
  exact hK
theorem w_impl_isAxis (q0 : SoundC Tryz.prog 78 c_impl_length_int64) (q3 : SoundC Tryz.prog 128 c_impl_within) (q2 : SoundC Tryz.prog 130 c_impl_areWithin) (q1 : SoundC Tryz.prog 144 c_impl_isIncreasing) : SoundC Tryz.prog 263 c_impl_isAxis := by
  refine fn_sound tab_ok (gam_cons q0 (gam_cons q3 (gam_cons q2 (gam_cons q1 gam_nil)))) mixed {} (fn := Tryz.f263) Tryz.func263 (by kernel_rfl) (by kernel_rfl) ?_
  rintro ⟨list0, ⟨⟩⟩ K ⟨r, h, hK⟩
  change impl_isAxis list0 = some r at h
  unfold impl_isAxis at h
  conv => whnf
  refine vBind h (fun int64_0 hb0 h => ?_)
  conv => whnf
  refine vBind h (fun within0 hb1 h => ?_)
  conv => whnf
  refine vIfB h (fun h => ?_) (fun h => ?_)
  · conv => whnf
    refine vBind h (fun areWithin0 hb2 h => ?_)
    conv => whnf
    refine vIfB h (fun h => ?_) (fun h => ?_)
    · conv => whnf
      refine vBind h (fun isIncreasing0 hb3 h => ?_)
      conv => whnf
      cases h
      exact hK
    · conv => whnf
      cases h
      exact hK
  · conv => whnf
    cases h
    exact hK
theorem w_impl_isName (q2 : SoundC Tryz.prog 128 c_impl_within) (q1 : SoundC Tryz.prog 196 c_strings_Trim) (q0 : SoundC Tryz.prog 197 c_strings_IndexByte) : SoundC Tryz.prog 173 c_impl_isName := by
  refine fn_sound tab_ok (gam_cons q2 (gam_cons q1 (gam_cons q0 gam_nil))) mixed {} (fn := Tryz.f173) Tryz.func173 (by kernel_rfl) (by kernel_rfl) ?_
  rintro ⟨s0, ⟨⟩⟩ K ⟨r, h, hK⟩
  change impl_isName s0 = some r at h
  unfold impl_isName at h
  conv => whnf
  refine vBind h (fun within0 hb0 h => ?_)
  conv => whnf
  refine vIfB h (fun h => ?_) (fun h => ?_)
  · conv => whnf
    refine vPre h (fun hp1 h => ?_)
    conv => whnf
    refine ⟨by decide, ?_⟩
    conv => whnf
    refine ⟨by kernel_rfl, ?_⟩
    conv => whnf
    refine vIfD h (fun h => ?_) (fun h => ?_)
    · conv => whnf
      refine vAt h (fun x0 he2a he2b he2x h => ?_)
      conv => whnf
      cases h
      exact hK
    · conv => whnf
      cases h
      exact hK
  · conv => whnf
    cases h
    exact hK
theorem w_impl_length_impl_Cell : SoundC Tryz.prog 165 c_impl_length_impl_Cell := by
  refine fn_sound tab_ok gam_nil mixed {} (fn := Tryz.f165) Tryz.func165 (by kernel_rfl) (by kernel_rfl) ?_
  rintro ⟨list0, ⟨⟩⟩ K ⟨r, h, hK⟩
  change impl_length_impl_Cell list0 = some r at h
  unfold impl_length_impl_Cell at h
  conv => whnf
  cases h
  exact hK
theorem w_impl_length_impl_Corner : SoundC Tryz.prog 146 c_impl_length_impl_Corner := by
  refine fn_sound tab_ok gam_nil mixed {} (fn := Tryz.f146) Tryz.func146 (by kernel_rfl) (by kernel_rfl) ?_
  rintro ⟨list0, ⟨⟩⟩ K ⟨r, h, hK⟩
  change impl_length_impl_Corner list0 = some r at h
  unfold impl_length_impl_Corner at h
  conv => whnf
  cases h
  exact hK
theorem w_impl_view_isSetup_c2 (q0 : SoundC Tryz.prog 89 c_impl_view_isException) : SoundC Tryz.prog 88 c_impl_view_isSetup_c2 := by
  refine fn_sound tab_ok (gam_cons q0 gam_nil) mixed {} (fn := Tryz.f88) Tryz.func88 (by kernel_rfl) (by kernel_rfl) ?_
  rintro ⟨e0, a0, ⟨⟩⟩ K ⟨r, h, hK⟩
  change impl_view_isSetup_c2 e0 a0 = some r at h
  unfold impl_view_isSetup_c2 at h
  conv => whnf
  refine vBind h (fun isException0 hb0 h => ?_)
  conv => whnf
  cases h
  exact hK
theorem w_impl_within : SoundC Tryz.prog 128 c_impl_within := by
  refine fn_sound tab_ok gam_nil mixed {} (fn := Tryz.f128) Tryz.func128 (by kernel_rfl) (by kernel_rfl) ?_
  rintro ⟨x0, low0, high0, ⟨⟩⟩ K ⟨r, h, hK⟩
  change impl_within x0 low0 high0 = some r at h
  unfold impl_within at h
  conv => whnf
  refine vIfD h (fun h => ?_) (fun h => ?_)
  · conv => whnf
    cases h
    exact hK
  · conv => whnf
    cases h
    exact hK
theorem w_laws_eqExternalS (q0 : SoundC Tryz.prog 97 c_laws_eqExternal) : SoundC Tryz.prog 42 c_laws_eqExternalS := by
  refine fn_sound tab_ok (gam_cons q0 gam_nil) mixed { loops := [(0, [.reg 5 (.dat (.int .i64))])], draws := [(6, [0, 0, 3, 7, 0, 0, 48, 112, 255, 511], .op 0 (.op 1 (.op 2 (.op 3 (.op 4 (.op 5 (.op 6 (.op 7 (.alt 8 (.op 9 (.done)) (.done))))))))))] } (fn := Tryz.f42) Tryz.func42 (by kernel_rfl) (by kernel_rfl) ?_
  rintro ⟨a0, b0, ⟨⟩⟩ K ⟨r, h, hK⟩
  change laws_eqExternalS a0 b0 = some r at h
  unfold laws_eqExternalS at h
  conv => whnf
  refine vNots ?_
  refine vIfD h (fun h => ?_) (fun h => ?_)
  · conv => whnf
    refine vLoop h ?_
    rintro I0 μ0 ⟨i0, ⟨⟩⟩ zs0 h hI0 hR0
    change laws_eqExternalS_loop0 a0 b0 i0 = some zs0 at h
    unfold laws_eqExternalS_loop0 at h
    conv => whnf
    refine vIfD h (fun h => ?_) (fun h => ?_)
    · conv => whnf
      refine ⟨by kernel_rfl, ?_⟩
      conv => whnf
      refine vAt h (fun x0 he1a he1b he1x h => ?_)
      conv => whnf
      refine vAt h (fun x1 he2a he2b he2x h => ?_)
      conv => whnf
      refine vBind h (fun eqExternal0 hb3 h => ?_)
      conv => whnf
      refine vNots ?_
      refine vIfB h (fun h => ?_) (fun h => ?_)
      · conv => whnf
        cases h
        exact ⟨⟨rfl, rfl⟩, hI0 _ rfl⟩
      · conv => whnf
        cases h
        obtain rfl := hR0 _ rfl
        exact hK
    · conv => whnf
      cases h
      obtain rfl := hR0 _ rfl
      exact hK
  · conv => whnf
    cases h
    exact hK
theorem w_laws_eqSpan : SoundC Tryz.prog 151 c_laws_eqSpan := by
  refine fn_sound tab_ok gam_nil mixed {} (fn := Tryz.f151) Tryz.func151 (by kernel_rfl) (by kernel_rfl) ?_
  rintro ⟨a0, b0, ⟨⟩⟩ K ⟨r, h, hK⟩
  change laws_eqSpan a0 b0 = some r at h
  unfold laws_eqSpan at h
  conv => whnf
  refine vNots ?_
  refine vIfD h (fun h => ?_) (fun h => ?_)
  · conv => whnf
    refine vNots ?_
    refine vIfD h (fun h => ?_) (fun h => ?_)
    · conv => whnf
      cases h
      exact hK
    · conv => whnf
      cases h
      exact hK
  · conv => whnf
    cases h
    exact hK
theorem w_laws_eqWireS (q0 : SoundC Tryz.prog 95 c_laws_eqWire) : SoundC Tryz.prog 40 c_laws_eqWireS := by
  refine fn_sound tab_ok (gam_cons q0 gam_nil) mixed { loops := [(0, [.reg 5 (.dat (.int .i64))])], draws := [(6, [0, 0, 3, 7, 0, 0, 48, 112, 255, 511], .op 0 (.op 1 (.op 2 (.op 3 (.op 4 (.op 5 (.op 6 (.op 7 (.alt 8 (.op 9 (.done)) (.done))))))))))] } (fn := Tryz.f40) Tryz.func40 (by kernel_rfl) (by kernel_rfl) ?_
  rintro ⟨a0, b0, ⟨⟩⟩ K ⟨r, h, hK⟩
  change laws_eqWireS a0 b0 = some r at h
  unfold laws_eqWireS at h
  conv => whnf
  refine vNots ?_
  refine vIfD h (fun h => ?_) (fun h => ?_)
  · conv => whnf
    refine vLoop h ?_
    rintro I0 μ0 ⟨i0, ⟨⟩⟩ zs0 h hI0 hR0
    change laws_eqWireS_loop0 a0 b0 i0 = some zs0 at h
    unfold laws_eqWireS_loop0 at h
    conv => whnf
    refine vIfD h (fun h => ?_) (fun h => ?_)
    · conv => whnf
      refine ⟨by kernel_rfl, ?_⟩
      conv => whnf
      refine vAt h (fun x0 he1a he1b he1x h => ?_)
      conv => whnf
      refine vAt h (fun x1 he2a he2b he2x h => ?_)
      conv => whnf
      refine vBind h (fun eqWire0 hb3 h => ?_)
      conv => whnf
      refine vNots ?_
      refine vIfB h (fun h => ?_) (fun h => ?_)
      · conv => whnf
        cases h
        exact ⟨⟨rfl, rfl⟩, hI0 _ rfl⟩
      · conv => whnf
        cases h
        obtain rfl := hR0 _ rfl
        exact hK
    · conv => whnf
      cases h
      obtain rfl := hR0 _ rfl
      exact hK
  · conv => whnf
    cases h
    exact hK
theorem w_laws_szCornerS (q0 : SoundC Tryz.prog 54 c_laws_szCorner) : SoundC Tryz.prog 21 c_laws_szCornerS := by
  refine fn_sound tab_ok (gam_cons q0 gam_nil) mixed { loops := [(0, [.reg 1 (.dat (.int .i64)), .reg 5 (.dat (.int .i64))])] } (fn := Tryz.f21) Tryz.func21 (by kernel_rfl) (by kernel_rfl) ?_
  rintro ⟨a0, left0, ⟨⟩⟩ K ⟨r, h, hK⟩
  change laws_szCornerS a0 left0 = some r at h
  unfold laws_szCornerS at h
  conv => whnf
  refine vIfD h (fun h => ?_) (fun h => ?_)
  · conv => whnf
    cases h
    exact hK
  · conv => whnf
    refine vLoop h ?_
    rintro I0 μ0 ⟨left1, i0, ⟨⟩⟩ zs0 h hI0 hR0
    change laws_szCornerS_loop0 a0 left1 i0 = some zs0 at h
    unfold laws_szCornerS_loop0 at h
    conv => whnf
    refine vIfD h (fun h => ?_) (fun h => ?_)
    · conv => whnf
      refine vAt h (fun x0 he1a he1b he1x h => ?_)
      conv => whnf
      refine vBind h (fun szCorner0 hb2 h => ?_)
      conv => whnf
      refine vIfD h (fun h => ?_) (fun h => ?_)
      · conv => whnf
        cases h
        obtain rfl := hR0 _ rfl
        exact hK
      · conv => whnf
        cases h
        exact ⟨⟨rfl, rfl⟩, hI0 _ rfl⟩
    · conv => whnf
      cases h
      obtain rfl := hR0 _ rfl
      exact hK
theorem w_laws_toCell (q1 : SoundC Tryz.prog 162 c_laws_toPinS) (q2 : SoundC Tryz.prog 163 c_laws_toArcS) (q0 : SoundC Tryz.prog 120 c_laws_toInt64S) : SoundC Tryz.prog 117 c_laws_toCell := by
  refine fn_sound tabD_ok (gam_cons q1 (gam_cons q2 (gam_cons q0 gam_nil))) mixed {} (fn := Tryz.f117) Tryz.func117 (by kernel_rfl) (by kernel_rfl) ?_
  rintro ⟨a0, ⟨⟩⟩ K ⟨r, h, hK⟩
  change laws_toCell a0 = some r at h
  unfold laws_toCell at h
  conv => whnf
  refine vBind h (fun toPinS0 hb0 h => ?_)
  conv => whnf
  refine vBind h (fun toArcS0 hb1 h => ?_)
  conv => whnf
  intro fp2
  conv => whnf
  refine vBind h (fun toInt64S0 hb3 h => ?_)
  conv => whnf
  cases h
  exact hK
theorem w_laws_toClockS (q0 : SoundC Tryz.prog 70 c_laws_toClock) : SoundC Tryz.prog 31 c_laws_toClockS := by
  refine fn_sound tab_ok (gam_cons q0 gam_nil) mixed { loops := [(0, [.reg 4 (.dat (.int .i64)), .ent 0 (nat_lit 75) (.flat ti53.ety)])] } (fn := Tryz.f31) Tryz.func31 (by kernel_rfl) (by kernel_rfl) ?_
  rintro ⟨a0, ⟨⟩⟩ K ⟨r, h, hK⟩
  change laws_toClockS a0 = some r at h
  unfold laws_toClockS at h
  conv => whnf
  refine vPre h (fun hp0 h => ?_)
  conv => whnf
  refine vPre h (fun hp1 h => ?_)
  conv => whnf
  refine vPre h (fun hp2 h => ?_)
  conv => whnf
  refine vPre h (fun hp3 h => ?_)
  conv => whnf
  refine vLoop h ?_
  rintro I4 μ4 ⟨i0, l0, ⟨⟩⟩ zs4 h hI4 hR4
  change laws_toClockS_loop0 a0 i0 l0 = some zs4 at h
  unfold laws_toClockS_loop0 at h
  conv => whnf
  refine vIfD h (fun h => ?_) (fun h => ?_)
  · conv => whnf
    refine vAt h (fun x0 he5a he5b he5x h => ?_)
    conv => whnf
    refine vBind h (fun toClock0 hb6 h => ?_)
    conv => whnf
    refine vAt h (fun x1 he7a he7b he7x h => ?_)
    conv => whnf
    refine ⟨by kernel_rfl, ?_⟩
    conv => whnf
    refine ⟨by decide, ?_⟩
    conv => whnf
    refine ⟨he7a, he7b, vAgain he7x ?_⟩
    conv => whnf
    cases h
    exact ⟨⟨rfl, rfl⟩, hI4 _ rfl⟩
  · conv => whnf
    cases h
    obtain rfl := hR4 _ rfl
    exact hK
theorem w_laws_toExceptionS (q0 : SoundC Tryz.prog 72 c_laws_toException) : SoundC Tryz.prog 33 c_laws_toExceptionS := by
  refine fn_sound tabD_ok (gam_cons q0 gam_nil) mixed { loops := [(0, [.reg 4 (.dat (.int .i64)), .ent 0 (nat_lit 81) dException])] } (fn := Tryz.f33) Tryz.func33 (by kernel_rfl) (by kernel_rfl) ?_
  rintro ⟨a0, ⟨⟩⟩ K ⟨r, h, hK⟩
  change laws_toExceptionS a0 = some r at h
  unfold laws_toExceptionS at h
  conv => whnf
  refine vPre h (fun hp0 h => ?_)
  conv => whnf
  refine vPre h (fun hp1 h => ?_)
  conv => whnf
  refine vPre h (fun hp2 h => ?_)
  conv => whnf
  refine vPre h (fun hp3 h => ?_)
  conv => whnf
  intro fp4
  conv => whnf
  refine vLoop h ?_
  rintro I5 μ5 ⟨i0, l0, ⟨⟩⟩ zs5 h hI5 hR5
  change laws_toExceptionS_loop0 a0 i0 l0 = some zs5 at h
  unfold laws_toExceptionS_loop0 at h
  conv => whnf
  intro fp6
  conv => whnf
  refine vIfD h (fun h => ?_) (fun h => ?_)
  · conv => whnf
    refine vAt h (fun x0 he7a he7b he7x h => ?_)
    conv => whnf
    refine vBind h (fun toException0 hb8 h => ?_)
    conv => whnf
    refine vAt h (fun x1 he9a he9b he9x h => ?_)
    conv => whnf
    refine ⟨he9a, he9b, vAgain he9x ?_⟩
    conv => whnf
    intro fp10
    conv => whnf
    cases h
    exact ⟨⟨rfl, rfl⟩, hI5 _ rfl⟩
  · conv => whnf
    cases h
    obtain rfl := hR5 _ rfl
    exact hK
theorem w_laws_toPin : SoundC Tryz.prog 190 c_laws_toPin := by
  refine fn_sound tab_ok gam_nil mixed {} (fn := Tryz.f190) Tryz.func190 (by kernel_rfl) (by kernel_rfl) ?_
  rintro ⟨a0, ⟨⟩⟩ K ⟨r, h, hK⟩
  change laws_toPin a0 = some r at h
  unfold laws_toPin at h
  conv => whnf
  cases h
  exact hK
theorem w_laws_toStringS : SoundC Tryz.prog 67 c_laws_toStringS := by
  refine fn_sound tab_ok gam_nil mixed { loops := [(0, [.reg 4 (.dat (.int .i64)), .ent 0 (nat_lit 9) (.flat ti26.ety)])] } (fn := Tryz.f67) Tryz.func67 (by kernel_rfl) (by kernel_rfl) ?_
  rintro ⟨a0, ⟨⟩⟩ K ⟨r, h, hK⟩
  change laws_toStringS a0 = some r at h
  unfold laws_toStringS at h
  conv => whnf
  refine vPre h (fun hp0 h => ?_)
  conv => whnf
  refine vPre h (fun hp1 h => ?_)
  conv => whnf
  refine vPre h (fun hp2 h => ?_)
  conv => whnf
  refine vPre h (fun hp3 h => ?_)
  conv => whnf
  refine vLoop h ?_
  rintro I4 μ4 ⟨i0, l0, ⟨⟩⟩ zs4 h hI4 hR4
  change laws_toStringS_loop0 a0 i0 l0 = some zs4 at h
  unfold laws_toStringS_loop0 at h
  conv => whnf
  refine vIfD h (fun h => ?_) (fun h => ?_)
  · conv => whnf
    refine vAt h (fun x0 he5a he5b he5x h => ?_)
    conv => whnf
    refine vAt h (fun x1 he6a he6b he6x h => ?_)
    conv => whnf
    refine ⟨by kernel_rfl, ?_⟩
    conv => whnf
    refine ⟨by decide, ?_⟩
    conv => whnf
    refine ⟨he6a, he6b, vAgain he6x ?_⟩
    conv => whnf
    cases h
    exact ⟨⟨rfl, rfl⟩, hI4 _ rfl⟩
  · conv => whnf
    cases h
    obtain rfl := hR4 _ rfl
    exact hK
theorem w_laws_toWire (q0 : SoundC Tryz.prog 120 c_laws_toInt64S) : SoundC Tryz.prog 69 c_laws_toWire := by
  refine fn_sound tab_ok (gam_cons q0 gam_nil) mixed {} (fn := Tryz.f69) Tryz.func69 (by kernel_rfl) (by kernel_rfl) ?_
  rintro ⟨a0, ⟨⟩⟩ K ⟨r, h, hK⟩
  change laws_toWire a0 = some r at h
  unfold laws_toWire at h
  conv => whnf
  refine vBind h (fun toInt64S0 hb0 h => ?_)
  conv => whnf
  refine vBind h (fun toInt64S1 hb1 h => ?_)
  conv => whnf
  refine vBind h (fun toInt64S2 hb2 h => ?_)
  conv => whnf
  refine vBind h (fun toInt64S3 hb3 h => ?_)
  conv => whnf
  cases h
  exact hK
theorem w_slices_ContainsFunc_Simpl_Table_impl_Table_at_impl_areTables_c1 (q0 : SoundC Tryz.prog 262 c_slices_IndexFunc_Simpl_Table_impl_Table_at_impl_areTables_c1) : SoundC Tryz.prog 250 c_slices_ContainsFunc_Simpl_Table_impl_Table_at_impl_areTables_c1 := by
  refine fn_sound tab_ok (gam_cons q0 gam_nil) mixed {} (fn := Tryz.f250) Tryz.func250 (by kernel_rfl) (by kernel_rfl) ?_
  rintro ⟨s0, f0, ⟨⟩⟩ K ⟨r, h, hK⟩
  change slices_ContainsFunc_Simpl_Table_impl_Table_at_impl_areTables_c1 s0 f0 = some r at h
  unfold slices_ContainsFunc_Simpl_Table_impl_Table_at_impl_areTables_c1 at h
  conv => whnf
  refine vBind h (fun c1_0 hb0 h => ?_)
  conv => whnf
  cases h
  exact hK
theorem w_slices_IndexFunc_Sint64_int64_at_impl_areWithin_c1 (q0 : SoundC Tryz.prog 170 c_impl_areWithin_c1) : SoundC Tryz.prog 195 c_slices_IndexFunc_Sint64_int64_at_impl_areWithin_c1 := by
  refine fn_sound tab_ok (gam_cons q0 gam_nil) mixed { loops := [(0, [.reg 8 (.dat (.int .i64))])] } (fn := Tryz.f195) Tryz.func195 (by kernel_rfl) (by kernel_rfl) ?_
  rintro ⟨s0, f0, ⟨⟩⟩ K ⟨r, h, hK⟩
  change slices_IndexFunc_Sint64_int64_at_impl_areWithin_c1 s0 f0 = some r at h
  unfold slices_IndexFunc_Sint64_int64_at_impl_areWithin_c1 at h
  conv => whnf
  refine vLoop h ?_
  rintro I0 μ0 ⟨v0, ⟨⟩⟩ zs0 h hI0 hR0
  change slices_IndexFunc_Sint64_int64_at_impl_areWithin_c1_loop0 s0 f0 v0 = some zs0 at h
  unfold slices_IndexFunc_Sint64_int64_at_impl_areWithin_c1_loop0 at h
  conv => whnf
  refine vIfD h (fun h => ?_) (fun h => ?_)
  · conv => whnf
    refine vAt h (fun x0 he1a he1b he1x h => ?_)
    conv => whnf
    refine vBind h (fun c1_0 hb2 h => ?_)
    conv => whnf
    refine vIfB h (fun h => ?_) (fun h => ?_)
    · conv => whnf
      cases h
      obtain rfl := hR0 _ rfl
      exact hK
    · conv => whnf
      cases h
      exact ⟨⟨rfl, rfl⟩, hI0 _ rfl⟩
  · conv => whnf
    cases h
    obtain rfl := hR0 _ rfl
    exact hK
theorem w_spec_IsTable (q0 : SoundC Tryz.prog 261 c_spec_l02Axis) (q1 : SoundC Tryz.prog 60 c_spec_l01In) : SoundC Tryz.prog 249 c_spec_IsTable := by
  refine fn_sound tab_ok (gam_cons q0 (gam_cons q1 gam_nil)) mixed { loops := [(0, [.reg 3 (.dat (.int .i64))])] } (fn := Tryz.f249) Tryz.func249 (by kernel_rfl) (by kernel_rfl) ?_
  rintro ⟨t0, ⟨⟩⟩ K ⟨r, h, hK⟩
  change spec_IsTable t0 = some r at h
  unfold spec_IsTable at h
  conv => whnf
  refine vBind h (fun l02Axis0 hb0 h => ?_)
  conv => whnf
  refine vNot ?_
  refine vIfB h (fun h => ?_) (fun h => ?_)
  · conv => whnf
    refine vBind h (fun l02Axis1 hb1 h => ?_)
    conv => whnf
    refine vNot ?_
    refine vIfB h (fun h => ?_) (fun h => ?_)
    · conv => whnf
      refine vNots ?_
      refine vIfD h (fun h => ?_) (fun h => ?_)
      · conv => whnf
        refine vLoop h ?_
        rintro I2 μ2 ⟨i0, ⟨⟩⟩ zs2 h hI2 hR2
        change spec_IsTable_loop0 t0 i0 = some zs2 at h
        unfold spec_IsTable_loop0 at h
        conv => whnf
        refine vIfD h (fun h => ?_) (fun h => ?_)
        · conv => whnf
          refine vAt h (fun x0 he3a he3b he3x h => ?_)
          conv => whnf
          refine vBind h (fun l01In0 hb4 h => ?_)
          conv => whnf
          refine vNots ?_
          refine vIfB h (fun h => ?_) (fun h => ?_)
          · conv => whnf
            cases h
            exact ⟨⟨rfl, rfl⟩, hI2 _ rfl⟩
          · conv => whnf
            cases h
            obtain rfl := hR2 _ rfl
            exact hK
        · conv => whnf
          cases h
          obtain rfl := hR2 _ rfl
          exact hK
      · conv => whnf
        cases h
        exact hK
    · conv => whnf
      cases h
      exact hK
  · conv => whnf
    cases h
    exact hK
theorem w_spec_TableBounds (q0 : SoundC Tryz.prog 249 c_spec_IsTable) : SoundC Tryz.prog 230 c_spec_TableBounds := by
  refine fn_sound tab_ok (gam_cons q0 gam_nil) mixed { loops := [(0, [.reg 5 (.dat (.int .i64)), .cell 2 0 (.int .i64), .cell 2 1 (.int .i64)])], draws := [(3, [0, 1, 3, 7, 0, 16, 48, 112, 255, 0, 1023], .op 0 (.op 1 (.op 2 (.op 3 (.op 4 (.op 5 (.op 6 (.op 7 (.op 8 (.alt 9 (.alt 10 (.done) (.done)) (.done))))))))))), (7, [0, 1, 0, 4, 0, 28, 60, 127, 255, 511], .op 0 (.op 1 (.op 2 (.op 3 (.op 4 (.op 5 (.op 6 (.op 7 (.op 8 (.alt 9 (.done) (.done))))))))))), (8, [0, 1, 0, 4, 0, 28, 60, 127, 255, 511], .op 0 (.op 1 (.op 2 (.op 3 (.op 4 (.op 5 (.op 6 (.op 7 (.op 8 (.alt 9 (.done) (.done)))))))))))] } (fn := Tryz.f230) Tryz.func230 (by kernel_rfl) (by kernel_rfl) ?_
  rintro ⟨t0, ⟨⟩⟩ K ⟨r, h, hK⟩
  change spec_TableBounds t0 = some r at h
  unfold spec_TableBounds at h
  conv => whnf
  refine vBind h (fun IsTable0 hb0 h => ?_)
  conv => whnf
  refine vNots ?_
  refine vIfB h (fun h => ?_) (fun h => ?_)
  · conv => whnf
    refine ⟨by kernel_rfl, ?_⟩
    conv => whnf
    refine vAt h (fun x0 he1a he1b he1x h => ?_)
    conv => whnf
    refine ⟨he1a, he1b, vAgain he1x ?_⟩
    conv => whnf
    refine vLoop h ?_
    rintro I2 μ2 ⟨i0, c0, c1, ⟨⟩⟩ zs2 h hI2 hR2
    change spec_TableBounds_loop0 t0 i0 c0 c1 = some zs2 at h
    unfold spec_TableBounds_loop0 at h
    conv => whnf
    refine vIfD h (fun h => ?_) (fun h => ?_)
    · conv => whnf
      refine ⟨by kernel_rfl, ?_⟩
      conv => whnf
      refine vAt h (fun x1 he3a he3b he3x h => ?_)
      conv => whnf
      refine ⟨by kernel_rfl, ?_⟩
      conv => whnf
      refine ⟨he3a, he3b, vAgain he3x ?_⟩
      conv => whnf
      cases h
      exact ⟨⟨rfl, rfl⟩, hI2 _ rfl⟩
    · conv => whnf
      cases h
      obtain rfl := hR2 _ rfl
      exact hK
  · conv => whnf
    cases h
    exact hK
theorem w_spec_l02Axis (q0 : SoundC Tryz.prog 60 c_spec_l01In) : SoundC Tryz.prog 261 c_spec_l02Axis := by
  refine fn_sound tab_ok (gam_cons q0 gam_nil) mixed { loops := [(0, [.reg 3 (.dat (.int .i64))])], draws := [(4, [0, 0, 3, 7, 15, 31, 63, 127, 255, 511, 1023, 1023, 3071, 8191, 16383, 1023, 1023, 99327, 230399, 524287, 1048575, 2097151], .op 0 (.op 1 (.op 2 (.op 3 (.alt 4 (.op 5 (.op 6 (.op 7 (.op 8 (.op 9 (.op 10 (.op 11 (.op 12 (.op 13 (.op 14 (.op 15 (.op 16 (.op 17 (.op 18 (.op 19 (.op 20 (.op 21 (.done)))))))))))))))))) (.done))))))] } (fn := Tryz.f261) Tryz.func261 (by kernel_rfl) (by kernel_rfl) ?_
  rintro ⟨list0, ⟨⟩⟩ K ⟨r, h, hK⟩
  change spec_l02Axis list0 = some r at h
  unfold spec_l02Axis at h
  conv => whnf
  refine vLoop h ?_
  rintro I0 μ0 ⟨i0, ⟨⟩⟩ zs0 h hI0 hR0
  change spec_l02Axis_loop0 list0 i0 = some zs0 at h
  unfold spec_l02Axis_loop0 at h
  conv => whnf
  refine vIfD h (fun h => ?_) (fun h => ?_)
  · conv => whnf
    refine ⟨by kernel_rfl, ?_⟩
    conv => whnf
    refine vAt h (fun x0 he1a he1b he1x h => ?_)
    conv => whnf
    refine vBind h (fun l01In0 hb2 h => ?_)
    conv => whnf
    refine vNot ?_
    refine vIfB h (fun h => ?_) (fun h => ?_)
    · conv => whnf
      refine vIfD h (fun h => ?_) (fun h => ?_)
      · conv => whnf
        refine vAt h (fun x1 he3a he3b he3x h => ?_)
        conv => whnf
        refine ⟨he1a, he1b, vAgain he1x ?_⟩
        conv => whnf
        refine vIfD h (fun h => ?_) (fun h => ?_)
        · conv => whnf
          cases h
          obtain rfl := hR0 _ rfl
          exact hK
        · conv => whnf
          cases h
          exact ⟨⟨rfl, rfl⟩, hI0 _ rfl⟩
      · conv => whnf
        cases h
        exact ⟨⟨rfl, rfl⟩, hI0 _ rfl⟩
    · conv => whnf
      cases h
      obtain rfl := hR0 _ rfl
      exact hK
  · conv => whnf
    refine vIfD h (fun h => ?_) (fun h => ?_)
    · conv => whnf
      cases h
      obtain rfl := hR0 _ rfl
      exact hK
    · conv => whnf
      cases h
      obtain rfl := hR0 _ rfl
      exact hK
theorem w_spec_l03Pins (q0 : SoundC Tryz.prog 115 c_spec_l03Name) (q1 : SoundC Tryz.prog 60 c_spec_l01In) : SoundC Tryz.prog 187 c_spec_l03Pins := by
  refine fn_sound tab_ok (gam_cons q0 (gam_cons q1 gam_nil)) mixed { loops := [(0, [.reg 5 (.dat (.int .i64)), .reg 6 (.dat (.int .i64))]), (2, [.reg 8 (.dat (.int .i64))])], draws := [(12, [0, 1, 0, 7, 15, 31, 0, 64, 255], .op 0 (.op 1 (.op 2 (.op 3 (.op 4 (.op 5 (.op 6 (.op 7 (.op 8 (.done))))))))))] } (fn := Tryz.f187) Tryz.func187 (by kernel_rfl) (by kernel_rfl) ?_
  rintro ⟨a0, ⟨⟩⟩ K ⟨r, h, hK⟩
  change spec_l03Pins a0 = some r at h
  unfold spec_l03Pins at h
  conv => whnf
  refine vIfDs h (fun h => ?_) (fun h => ?_)
  · conv => whnf
    cases h
    exact hK
  · conv => whnf
    refine vIfD h (fun h => ?_) (fun h => ?_)
    · conv => whnf
      cases h
      exact hK
    · conv => whnf
      refine vLoop h ?_
      rintro I0 μ0 ⟨v0, v1, ⟨⟩⟩ zs0 h hI0 hR0
      change spec_l03Pins_loop1 a0 v0 v1 = some zs0 at h
      unfold spec_l03Pins_loop1 at h
      conv => whnf
      refine vIfD h (fun h => ?_) (fun h => ?_)
      · conv => whnf
        refine vAt h (fun x0 he1a he1b he1x h => ?_)
        conv => whnf
        refine vLoop h ?_
        rintro I2 μ2 ⟨v2, ⟨⟩⟩ zs2 h hI2 hR2
        change spec_l03Pins_loop0 a0 v0 v1 x0 v2 = some zs2 at h
        unfold spec_l03Pins_loop0 at h
        conv => whnf
        refine vIfD h (fun h => ?_) (fun h => ?_)
        · conv => whnf
          refine ⟨by kernel_rfl, ?_⟩
          conv => whnf
          refine vAt h (fun x1 he3a he3b he3x h => ?_)
          conv => whnf
          refine vIfD h (fun h => ?_) (fun h => ?_)
          · conv => whnf
            cases h
            obtain rfl := hR2 _ rfl
            obtain rfl := hR0 _ rfl
            exact hK
          · conv => whnf
            cases h
            exact ⟨⟨rfl, rfl⟩, hI2 _ rfl⟩
        · conv => whnf
          refine vBind h (fun l03Name0 hb4 h => ?_)
          conv => whnf
          refine vNot ?_
          refine vIfB h (fun h => ?_) (fun h => ?_)
          · conv => whnf
            refine vBind h (fun l01In0 hb5 h => ?_)
            conv => whnf
            refine vNots ?_
            refine vIfB h (fun h => ?_) (fun h => ?_)
            · conv => whnf
              refine vIfD h (fun h => ?_) (fun h => ?_)
              · conv => whnf
                refine vNot ?_
                refine vIfD h (fun h => ?_) (fun h => ?_)
                · conv => whnf
                  refine vNot ?_
                  refine vIfD h (fun h => ?_) (fun h => ?_)
                  · conv => whnf
                    refine vIfBs h (fun h => ?_) (fun h => ?_)
                    · conv => whnf
                      cases h
                      obtain rfl := hR2 _ rfl
                      obtain rfl := hR0 _ rfl
                      exact hK
                    · conv => whnf
                      refine vIfD h (fun h => ?_) (fun h => ?_)
                      · conv => whnf
                        refine vNots ?_
                        refine vIfD h (fun h => ?_) (fun h => ?_)
                        · conv => whnf
                          refine vIfB h (fun h => ?_) (fun h => ?_)
                          · conv => whnf
                            cases h
                            obtain rfl := hR2 _ rfl
                            exact ⟨⟨rfl, rfl⟩, hI0 _ rfl⟩
                          · conv => whnf
                            cases h
                            obtain rfl := hR2 _ rfl
                            exact ⟨⟨rfl, rfl⟩, hI0 _ rfl⟩
                        · conv => whnf
                          cases h
                          obtain rfl := hR2 _ rfl
                          obtain rfl := hR0 _ rfl
                          exact hK
                      · conv => whnf
                        refine vIfB h (fun h => ?_) (fun h => ?_)
                        · conv => whnf
                          cases h
                          obtain rfl := hR2 _ rfl
                          exact ⟨⟨rfl, rfl⟩, hI0 _ rfl⟩
                        · conv => whnf
                          cases h
                          obtain rfl := hR2 _ rfl
                          exact ⟨⟨rfl, rfl⟩, hI0 _ rfl⟩
                  · conv => whnf
                    cases h
                    obtain rfl := hR2 _ rfl
                    obtain rfl := hR0 _ rfl
                    exact hK
                · conv => whnf
                  cases h
                  obtain rfl := hR2 _ rfl
                  obtain rfl := hR0 _ rfl
                  exact hK
              · conv => whnf
                refine vIfD h (fun h => ?_) (fun h => ?_)
                · conv => whnf
                  refine vNots ?_
                  refine vIfD h (fun h => ?_) (fun h => ?_)
                  · conv => whnf
                    refine vIfB h (fun h => ?_) (fun h => ?_)
                    · conv => whnf
                      cases h
                      obtain rfl := hR2 _ rfl
                      exact ⟨⟨rfl, rfl⟩, hI0 _ rfl⟩
                    · conv => whnf
                      cases h
                      obtain rfl := hR2 _ rfl
                      exact ⟨⟨rfl, rfl⟩, hI0 _ rfl⟩
                  · conv => whnf
                    cases h
                    obtain rfl := hR2 _ rfl
                    obtain rfl := hR0 _ rfl
                    exact hK
                · conv => whnf
                  refine vIfB h (fun h => ?_) (fun h => ?_)
                  · conv => whnf
                    cases h
                    obtain rfl := hR2 _ rfl
                    exact ⟨⟨rfl, rfl⟩, hI0 _ rfl⟩
                  · conv => whnf
                    cases h
                    obtain rfl := hR2 _ rfl
                    exact ⟨⟨rfl, rfl⟩, hI0 _ rfl⟩
            · conv => whnf
              cases h
              obtain rfl := hR2 _ rfl
              obtain rfl := hR0 _ rfl
              exact hK
          · conv => whnf
            cases h
            obtain rfl := hR2 _ rfl
            obtain rfl := hR0 _ rfl
            exact hK
      · conv => whnf
        cases h
        obtain rfl := hR0 _ rfl
        exact hK
theorem w_spec_l03Tables (q0 : SoundC Tryz.prog 230 c_spec_TableBounds) : SoundC Tryz.prog 206 c_spec_l03Tables := by
  refine fn_sound tab_ok (gam_cons q0 gam_nil) mixed { loops := [(0, [.reg 5 (.dat (.int .i64))])] } (fn := Tryz.f206) Tryz.func206 (by kernel_rfl) (by kernel_rfl) ?_
  rintro ⟨list0, positive0, ⟨⟩⟩ K ⟨r, h, hK⟩
  change spec_l03Tables list0 positive0 = some r at h
  unfold spec_l03Tables at h
  conv => whnf
  refine vNots ?_
  refine vIfD h (fun h => ?_) (fun h => ?_)
  · conv => whnf
    refine vLoop h ?_
    rintro I0 μ0 ⟨i0, ⟨⟩⟩ zs0 h hI0 hR0
    change spec_l03Tables_loop0 list0 positive0 i0 = some zs0 at h
    unfold spec_l03Tables_loop0 at h
    conv => whnf
    refine vIfD h (fun h => ?_) (fun h => ?_)
    · conv => whnf
      refine vAt h (fun x0 he1a he1b he1x h => ?_)
      conv => whnf
      refine vBind h (fun TableBounds0 hb2 h => ?_)
      conv => whnf
      refine vNot ?_
      refine vIfD h (fun h => ?_) (fun h => ?_)
      · conv => whnf
        refine vIfB h (fun h => ?_) (fun h => ?_)
        · conv => whnf
          refine vIfD h (fun h => ?_) (fun h => ?_)
          · conv => whnf
            cases h
            obtain rfl := hR0 _ rfl
            exact hK
          · conv => whnf
            cases h
            exact ⟨⟨rfl, rfl⟩, hI0 _ rfl⟩
        · conv => whnf
          cases h
          exact ⟨⟨rfl, rfl⟩, hI0 _ rfl⟩
      · conv => whnf
        cases h
        obtain rfl := hR0 _ rfl
        exact hK
    · conv => whnf
      cases h
      obtain rfl := hR0 _ rfl
      exact hK
  · conv => whnf
    cases h
    exact hK
theorem w_spec_l14Plain (q0 : SoundC Tryz.prog 115 c_spec_l03Name) (q1 : SoundC Tryz.prog 60 c_spec_l01In) : SoundC Tryz.prog 58 c_spec_l14Plain := by
  refine fn_sound tab_ok (gam_cons q0 (gam_cons q1 gam_nil)) mixed {} (fn := Tryz.f58) Tryz.func58 (by kernel_rfl) (by kernel_rfl) ?_
  rintro ⟨c0, ⟨⟩⟩ K ⟨r, h, hK⟩
  change spec_l14Plain c0 = some r at h
  unfold spec_l14Plain at h
  conv => whnf
  refine vBind h (fun l03Name0 hb0 h => ?_)
  conv => whnf
  refine vIfB h (fun h => ?_) (fun h => ?_)
  · conv => whnf
    refine vIfD h (fun h => ?_) (fun h => ?_)
    · conv => whnf
      refine vBind h (fun l01In0 hb1 h => ?_)
      conv => whnf
      refine vIfB h (fun h => ?_) (fun h => ?_)
      · conv => whnf
        refine vBind h (fun l01In1 hb2 h => ?_)
        conv => whnf
        refine vIfB h (fun h => ?_) (fun h => ?_)
        · conv => whnf
          refine vBind h (fun l01In2 hb3 h => ?_)
          conv => whnf
          cases h
          exact hK
        · conv => whnf
          cases h
          exact hK
      · conv => whnf
        cases h
        exact hK
    · conv => whnf
      cases h
      exact hK
  · conv => whnf
    cases h
    exact hK
theorem w_spec_l22Places (q0 : SoundC Tryz.prog 116 c_spec_l22Count) (q1 : SoundC Tryz.prog 60 c_spec_l01In) : SoundC Tryz.prog 63 c_spec_l22Places := by
  refine fn_sound tab_ok (gam_cons q0 (gam_cons q1 gam_nil)) mixed { loops := [(0, [.reg 7 (.dat (.int .i64))])], draws := [(4, [0, 0, 3, 7, 0, 16, 48, 127, 255, 511, 1023, 2047, 4095, 8191, 16383, 32767, 65535, 65535, 196607, 524287, 1048575, 65535, 65535, 6356991, 14745599, 33554431, 67108863, 134217727], .op 0 (.op 1 (.op 2 (.op 3 (.op 4 (.alt 5 (.op 6 (.alt 7 (.op 8 (.op 9 (.op 10 (.op 11 (.op 12 (.op 13 (.op 14 (.op 15 (.op 16 (.op 17 (.op 18 (.op 19 (.op 20 (.op 21 (.op 22 (.op 23 (.op 24 (.op 25 (.op 26 (.op 27 (.done))))))))))))))))))))) (.done))) (.done)))))))] } (fn := Tryz.f63) Tryz.func63 (by kernel_rfl) (by kernel_rfl) ?_
  rintro ⟨b0, list0, sorted0, ⟨⟩⟩ K ⟨r, h, hK⟩
  change spec_l22Places b0 list0 sorted0 = some r at h
  unfold spec_l22Places at h
  conv => whnf
  refine vLoop h ?_
  rintro I0 μ0 ⟨i0, ⟨⟩⟩ zs0 h hI0 hR0
  change spec_l22Places_loop0 b0 list0 sorted0 i0 = some zs0 at h
  unfold spec_l22Places_loop0 at h
  conv => whnf
  refine vIfD h (fun h => ?_) (fun h => ?_)
  · conv => whnf
    refine ⟨by kernel_rfl, ?_⟩
    conv => whnf
    refine vAt h (fun x0 he1a he1b he1x h => ?_)
    conv => whnf
    refine vBind h (fun l22Count0 hb2 h => ?_)
    conv => whnf
    refine vBind h (fun l01In0 hb3 h => ?_)
    conv => whnf
    refine vNot ?_
    refine vIfB h (fun h => ?_) (fun h => ?_)
    · conv => whnf
      refine vIfB h (fun h => ?_) (fun h => ?_)
      · conv => whnf
        refine vIfD h (fun h => ?_) (fun h => ?_)
        · conv => whnf
          refine vAt h (fun x1 he4a he4b he4x h => ?_)
          conv => whnf
          refine ⟨he1a, he1b, vAgain he1x ?_⟩
          conv => whnf
          refine vIfD h (fun h => ?_) (fun h => ?_)
          · conv => whnf
            cases h
            obtain rfl := hR0 _ rfl
            exact hK
          · conv => whnf
            cases h
            exact ⟨⟨rfl, rfl⟩, hI0 _ rfl⟩
        · conv => whnf
          cases h
          exact ⟨⟨rfl, rfl⟩, hI0 _ rfl⟩
      · conv => whnf
        cases h
        exact ⟨⟨rfl, rfl⟩, hI0 _ rfl⟩
    · conv => whnf
      cases h
      obtain rfl := hR0 _ rfl
      exact hK
  · conv => whnf
    cases h
    obtain rfl := hR0 _ rfl
    exact hK
theorem w_spec_l31Externals (q0 : SoundC Tryz.prog 25 c_spec_l05Places) (q2 : SoundC Tryz.prog 60 c_spec_l01In) (q1 : SoundC Tryz.prog 64 c_spec_l12Slews) : SoundC Tryz.prog 27 c_spec_l31Externals := by
  refine fn_sound tab_ok (gam_cons q0 (gam_cons q2 (gam_cons q1 gam_nil))) mixed { loops := [(0, [.reg 10 (.dat (.int .i64))])], draws := [(6, [0, 1, 0, 4, 12, 31, 63, 127, 255, 511, 1023, 2047, 2047, 6143, 16383, 32767, 65535, 2047, 133119, 524287, 1048575, 2097151, 4194303, 8388607, 16777215, 8388607, 41943039, 109051903, 243269631, 536870911, 1073741823, 2147483647], .op 0 (.op 1 (.op 2 (.op 3 (.op 4 (.alt 5 (.op 6 (.op 7 (.op 8 (.op 9 (.op 10 (.op 11 (.op 12 (.op 13 (.op 14 (.op 15 (.op 16 (.op 17 (.op 18 (.op 19 (.op 20 (.op 21 (.op 22 (.op 23 (.op 24 (.op 25 (.op 26 (.op 27 (.op 28 (.alt 29 (.op 30 (.op 31 (.done))) (.done))))))))))))))))))))))))) (.done)))))))] } (fn := Tryz.f27) Tryz.func27 (by kernel_rfl) (by kernel_rfl) ?_
  rintro ⟨a0, a1, a2, a3, ⟨⟩⟩ K ⟨r, h, hK⟩
  change spec_l31Externals a0 a1 a2 a3 = some r at h
  unfold spec_l31Externals at h
  conv => whnf
  refine vBind h (fun l05Places0 hb0 h => ?_)
  conv => whnf
  refine vLoop h ?_
  rintro I1 μ1 ⟨v0, ⟨⟩⟩ zs1 h hI1 hR1
  change spec_l31Externals_loop0 a1 a2 a3 l05Places0 v0 = some zs1 at h
  unfold spec_l31Externals_loop0 at h
  conv => whnf
  refine vIfD h (fun h => ?_) (fun h => ?_)
  · conv => whnf
    refine vAt h (fun x0 he2a he2b he2x h => ?_)
    conv => whnf
    refine ⟨by kernel_rfl, ?_⟩
    conv => whnf
    refine vBind h (fun l01In0 hb3 h => ?_)
    conv => whnf
    refine vNot ?_
    refine vIfB h (fun h => ?_) (fun h => ?_)
    · conv => whnf
      refine vIfD h (fun h => ?_) (fun h => ?_)
      · conv => whnf
        refine vAt h (fun x1 he4a he4b he4x h => ?_)
        conv => whnf
        refine vIfDs h (fun h => ?_) (fun h => ?_)
        · conv => whnf
          cases h
          obtain rfl := hR1 _ rfl
          exact hK
        · conv => whnf
          refine vBind h (fun l01In1 hb5 h => ?_)
          conv => whnf
          refine vNots ?_
          refine vIfB h (fun h => ?_) (fun h => ?_)
          · conv => whnf
            refine vAt h (fun x2 he6a he6b he6x h => ?_)
            conv => whnf
            refine ⟨by kernel_rfl, ?_⟩
            conv => whnf
            refine ⟨he6a, he6b, vAgain he6x ?_⟩
            conv => whnf
            refine vIfDs h (fun h => ?_) (fun h => ?_)
            · conv => whnf
              cases h
              obtain rfl := hR1 _ rfl
              exact hK
            · conv => whnf
              refine vNot ?_
              refine vIfB h (fun h => ?_) (fun h => ?_)
              · conv => whnf
                refine vIfDs h (fun h => ?_) (fun h => ?_)
                · conv => whnf
                  cases h
                  obtain rfl := hR1 _ rfl
                  exact hK
                · conv => whnf
                  refine vIfDs h (fun h => ?_) (fun h => ?_)
                  · conv => whnf
                    cases h
                    obtain rfl := hR1 _ rfl
                    exact hK
                  · conv => whnf
                    refine vIfD h (fun h => ?_) (fun h => ?_)
                    · conv => whnf
                      cases h
                      obtain rfl := hR1 _ rfl
                      exact hK
                    · conv => whnf
                      refine vBind h (fun l12Slews0 hb7 h => ?_)
                      conv => whnf
                      refine vNot ?_
                      refine vIfB h (fun h => ?_) (fun h => ?_)
                      · conv => whnf
                        refine vNots ?_
                        refine vIfB h (fun h => ?_) (fun h => ?_)
                        · conv => whnf
                          cases h
                          exact ⟨⟨rfl, rfl⟩, hI1 _ rfl⟩
                        · conv => whnf
                          refine vNots ?_
                          refine vIfB h (fun h => ?_) (fun h => ?_)
                          · conv => whnf
                            cases h
                            exact ⟨⟨rfl, rfl⟩, hI1 _ rfl⟩
                          · conv => whnf
                            cases h
                            obtain rfl := hR1 _ rfl
                            exact hK
                      · conv => whnf
                        cases h
                        obtain rfl := hR1 _ rfl
                        exact hK
              · conv => whnf
                cases h
                obtain rfl := hR1 _ rfl
                exact hK
          · conv => whnf
            cases h
            obtain rfl := hR1 _ rfl
            exact hK
      · conv => whnf
        refine vBind h (fun l01In1 hb8 h => ?_)
        conv => whnf
        refine vNots ?_
        refine vIfB h (fun h => ?_) (fun h => ?_)
        · conv => whnf
          refine vAt h (fun x1 he9a he9b he9x h => ?_)
          conv => whnf
          refine ⟨by kernel_rfl, ?_⟩
          conv => whnf
          refine ⟨he9a, he9b, vAgain he9x ?_⟩
          conv => whnf
          refine vIfDs h (fun h => ?_) (fun h => ?_)
          · conv => whnf
            cases h
            obtain rfl := hR1 _ rfl
            exact hK
          · conv => whnf
            refine vNot ?_
            refine vIfB h (fun h => ?_) (fun h => ?_)
            · conv => whnf
              refine vIfDs h (fun h => ?_) (fun h => ?_)
              · conv => whnf
                cases h
                obtain rfl := hR1 _ rfl
                exact hK
              · conv => whnf
                refine vIfDs h (fun h => ?_) (fun h => ?_)
                · conv => whnf
                  cases h
                  obtain rfl := hR1 _ rfl
                  exact hK
                · conv => whnf
                  refine vIfD h (fun h => ?_) (fun h => ?_)
                  · conv => whnf
                    cases h
                    obtain rfl := hR1 _ rfl
                    exact hK
                  · conv => whnf
                    refine vBind h (fun l12Slews0 hb10 h => ?_)
                    conv => whnf
                    refine vNot ?_
                    refine vIfB h (fun h => ?_) (fun h => ?_)
                    · conv => whnf
                      refine vNots ?_
                      refine vIfB h (fun h => ?_) (fun h => ?_)
                      · conv => whnf
                        cases h
                        exact ⟨⟨rfl, rfl⟩, hI1 _ rfl⟩
                      · conv => whnf
                        refine vNots ?_
                        refine vIfB h (fun h => ?_) (fun h => ?_)
                        · conv => whnf
                          cases h
                          exact ⟨⟨rfl, rfl⟩, hI1 _ rfl⟩
                        · conv => whnf
                          cases h
                          obtain rfl := hR1 _ rfl
                          exact hK
                    · conv => whnf
                      cases h
                      obtain rfl := hR1 _ rfl
                      exact hK
            · conv => whnf
              cases h
              obtain rfl := hR1 _ rfl
              exact hK
        · conv => whnf
          cases h
          obtain rfl := hR1 _ rfl
          exact hK
    · conv => whnf
      cases h
      obtain rfl := hR1 _ rfl
      exact hK
  · conv => whnf
    cases h
    obtain rfl := hR1 _ rfl
    exact hK
end Go.Proofs.YtmlloomodhhefaaGreatDoor
