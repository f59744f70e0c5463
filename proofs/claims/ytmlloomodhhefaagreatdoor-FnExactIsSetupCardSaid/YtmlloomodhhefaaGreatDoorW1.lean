/-
  The functions keep their contracts, if what they call does. Printed by program.
-/
import Derived.Test.YtmlloomodhhefaaGreatDoorM
import Derived.KernelRfl
namespace Go.Proofs.YtmlloomodhhefaaGreatDoor
open Go Go.Sx
set_option maxRecDepth 100000
set_option linter.unusedVariables false
set_option linter.unusedSimpArgs false
theorem w_impl_Block_nodeLoads (q0 : SoundC Tryz.prog 132 c_slices_Clone_Sint64_int64) (q1 : SoundC Tryz.prog 75 c_impl_Design_places) (q2 : SoundC Tryz.prog 133 c_impl_Design_sinks) (q3 : SoundC Tryz.prog 134 c_impl_Design_capOf) : SoundC Tryz.prog 79 c_impl_Block_nodeLoads := by
  refine fn_sound tab_ok (gam_cons q0 (gam_cons q1 (gam_cons q2 (gam_cons q3 gam_nil)))) mixed { loops := [(0, [.reg 27 (.dat (.int .i64)), .ent 2 (nat_lit 2) (.flat (Ty.int IntKind.i64))]), (2, [.reg 10 (.dat (.int .i64)), .ent 2 (nat_lit 2) (.flat (Ty.int IntKind.i64))])], draws := [(7, [0, 0, 2, 0, 14, 30, 63, 127, 0, 256, 0, 1024, 0, 0, 12288, 28672, 65280, 131071, 262143, 524287], .op 0 (.op 1 (.op 2 (.op 3 (.op 4 (.op 5 (.op 6 (.op 7 (.op 8 (.op 9 (.op 10 (.op 11 (.op 12 (.op 13 (.op 14 (.op 15 (.alt 16 (.op 17 (.op 18 (.alt 19 (.done) (.done)))) (.done)))))))))))))))))), (12, [0, 0, 2, 0, 14, 30, 63, 127, 0, 0, 768, 1792, 4095, 8191, 16383], .op 0 (.op 1 (.op 2 (.op 3 (.op 4 (.op 5 (.op 6 (.op 7 (.op 8 (.op 9 (.op 10 (.op 11 (.op 12 (.op 13 (.alt 14 (.done) (.done))))))))))))))))] } (fn := Tryz.f79) Tryz.func79 (by kernel_rfl) (by kernel_rfl) ?_
  rintro ⟨a0, a1, ⟨⟩⟩ K ⟨r, h, hK⟩
  change impl_Block_nodeLoads a0 a1 = some r at h
  unfold impl_Block_nodeLoads at h
  conv => whnf
  refine vAt h (fun x0 he0a he0b he0x h => ?_)
  conv => whnf
  refine vBind h (fun int64_0 hb1 h => ?_)
  conv => whnf
  refine vBind h (fun places0 hb2 h => ?_)
  conv => whnf
  refine vBind h (fun sinks0 hb3 h => ?_)
  conv => whnf
  refine vLoop h ?_
  rintro I4 μ4 ⟨v0, l0, ⟨⟩⟩ zs4 h hI4 hR4
  change impl_Block_nodeLoads_loop1 a0 x0 places0 sinks0 v0 l0 = some zs4 at h
  unfold impl_Block_nodeLoads_loop1 at h
  conv => whnf
  refine vIfD h (fun h => ?_) (fun h => ?_)
  · conv => whnf
    refine vAt h (fun x1 he5a he5b he5x h => ?_)
    conv => whnf
    refine ⟨by kernel_rfl, ?_⟩
    conv => whnf
    refine ⟨he5a, he5b, vAgain he5x ?_⟩
    conv => whnf
    refine ⟨by kernel_rfl, ?_⟩
    conv => whnf
    refine vAt h (fun x2 he6a he6b he6x h => ?_)
    conv => whnf
    refine vAt h (fun x3 he7a he7b he7x h => ?_)
    conv => whnf
    refine ⟨by kernel_rfl, ?_⟩
    conv => whnf
    refine ⟨he7a, he7b, vAgain he7x ?_⟩
    conv => whnf
    refine vAt h (fun x4 he8a he8b he8x h => ?_)
    conv => whnf
    refine ⟨by kernel_rfl, ?_⟩
    conv => whnf
    refine ⟨he8a, he8b, vAgain he8x ?_⟩
    conv => whnf
    refine vBind h (fun capOf0 hb9 h => ?_)
    conv => whnf
    refine ⟨he7a, he7b, vAgain he7x ?_⟩
    conv => whnf
    refine ⟨by kernel_rfl, ?_⟩
    conv => whnf
    refine ⟨by decide, ?_⟩
    conv => whnf
    refine ⟨he7a, he7b, vAgain he7x ?_⟩
    conv => whnf
    cases h
    exact ⟨⟨rfl, rfl⟩, hI4 _ rfl⟩
  · conv => whnf
    refine vLoop h ?_
    rintro I10 μ10 ⟨v1, l1, ⟨⟩⟩ zs10 h hI10 hR10
    change impl_Block_nodeLoads_loop0 x0 v1 l1 = some zs10 at h
    unfold impl_Block_nodeLoads_loop0 at h
    conv => whnf
    refine vIfD h (fun h => ?_) (fun h => ?_)
    · conv => whnf
      refine ⟨by kernel_rfl, ?_⟩
      conv => whnf
      refine vAt h (fun x1 he11a he11b he11x h => ?_)
      conv => whnf
      refine vAt h (fun x2 he12a he12b he12x h => ?_)
      conv => whnf
      refine ⟨by kernel_rfl, ?_⟩
      conv => whnf
      refine ⟨he12a, he12b, vAgain he12x ?_⟩
      conv => whnf
      refine vAt h (fun x3 he13a he13b he13x h => ?_)
      conv => whnf
      refine ⟨by kernel_rfl, ?_⟩
      conv => whnf
      refine ⟨he13a, he13b, vAgain he13x ?_⟩
      conv => whnf
      refine ⟨he12a, he12b, vAgain he12x ?_⟩
      conv => whnf
      refine ⟨by kernel_rfl, ?_⟩
      conv => whnf
      refine ⟨by decide, ?_⟩
      conv => whnf
      refine ⟨he12a, he12b, vAgain he12x ?_⟩
      conv => whnf
      cases h
      exact ⟨⟨rfl, rfl⟩, hI10 _ rfl⟩
    · conv => whnf
      cases h
      obtain rfl := hR10 _ rfl
      obtain rfl := hR4 _ rfl
      exact hK
theorem w_impl_Cell_clock (q0 : SoundC Tryz.prog 254 c_slices_IndexFunc_Simpl_Pin_impl_Pin_at_impl_Cell_clock_c1) : SoundC Tryz.prog 234 c_impl_Cell_clock := by
  refine fn_sound tab_ok (gam_cons q0 gam_nil) mixed {} (fn := Tryz.f234) Tryz.func234 (by kernel_rfl) (by kernel_rfl) ?_
  rintro ⟨c0, ⟨⟩⟩ K ⟨r, h, hK⟩
  change impl_Cell_clock c0 = some r at h
  unfold impl_Cell_clock at h
  conv => whnf
  refine vBind h (fun c1_0 hb0 h => ?_)
  conv => whnf
  cases h
  exact hK
theorem w_impl_Design_capOf : SoundC Tryz.prog 134 c_impl_Design_capOf := by
  refine fn_sound tab_ok gam_nil mixed { draws := [(3, [0, 1, 0, 4, 0, 16, 60, 124, 252, 511, 1023, 2047, 0, 4096, 16383, 32767, 65535, 131071], .op 0 (.op 1 (.op 2 (.op 3 (.op 4 (.op 5 (.op 6 (.op 7 (.op 8 (.op 9 (.op 10 (.op 11 (.op 12 (.op 13 (.op 14 (.op 15 (.op 16 (.op 17 (.done)))))))))))))))))))] } (fn := Tryz.f134) Tryz.func134 (by kernel_rfl) (by kernel_rfl) ?_
  rintro ⟨d0, l0, p0, ⟨⟩⟩ K ⟨r, h, hK⟩
  change impl_Design_capOf d0 l0 p0 = some r at h
  unfold impl_Design_capOf at h
  conv => whnf
  refine vIfD h (fun h => ?_) (fun h => ?_)
  · conv => whnf
    cases h
    exact hK
  · conv => whnf
    refine ⟨by kernel_rfl, ?_⟩
    conv => whnf
    refine vAt h (fun x0 he0a he0b he0x h => ?_)
    conv => whnf
    refine vAt h (fun x1 he1a he1b he1x h => ?_)
    conv => whnf
    refine vAt h (fun x2 he2a he2b he2x h => ?_)
    conv => whnf
    cases h
    exact hK
theorem w_impl_Design_isInstance (q1 : SoundC Tryz.prog 165 c_impl_length_impl_Cell) (q2 : SoundC Tryz.prog 128 c_impl_within) (q0 : SoundC Tryz.prog 166 c_slices_ContainsFunc_Sint64_int64_at_impl_Design_isInstance_c1) : SoundC Tryz.prog 124 c_impl_Design_isInstance := by
  refine fn_sound tab_ok (gam_cons q1 (gam_cons q2 (gam_cons q0 gam_nil))) mixed { draws := [(1, [0, 1, 0, 4, 12, 28, 63, 127, 255, 511, 1023, 255, 2303, 255, 8447, 30975, 63743, 129279, 260351, 524287, 1048575, 2097151, 4194303, 8388607, 4194303, 33554431, 67108863, 134217727, 268435455], .op 0 (.op 1 (.op 2 (.op 3 (.alt 4 (.op 5 (.alt 6 (.op 7 (.op 8 (.op 9 (.op 10 (.op 11 (.op 12 (.op 13 (.op 14 (.op 15 (.op 16 (.op 17 (.op 18 (.op 19 (.op 20 (.op 21 (.op 22 (.op 23 (.op 24 (.alt 25 (.op 26 (.op 27 (.op 28 (.done)))) (.done)))))))))))))))))))) (.done))) (.done))))))] } (fn := Tryz.f124) Tryz.func124 (by kernel_rfl) (by kernel_rfl) ?_
  rintro ⟨d0, l0, x0, ⟨⟩⟩ K ⟨r, h, hK⟩
  change impl_Design_isInstance d0 l0 x0 = some r at h
  unfold impl_Design_isInstance at h
  conv => whnf
  refine ⟨by kernel_rfl, ?_⟩
  conv => whnf
  refine vBind h (fun Cell0 hb0 h => ?_)
  conv => whnf
  refine vBind h (fun within0 hb1 h => ?_)
  conv => whnf
  refine vIfB h (fun h => ?_) (fun h => ?_)
  · conv => whnf
    refine vAt h (fun x1 he2a he2b he2x h => ?_)
    conv => whnf
    refine vIfD h (fun h => ?_) (fun h => ?_)
    · conv => whnf
      refine vBind h (fun c1_0 hb3 h => ?_)
      conv => whnf
      cases h
      exact hK
    · conv => whnf
      cases h
      exact hK
  · conv => whnf
    cases h
    exact hK
theorem w_impl_Design_isNet (q0 : SoundC Tryz.prog 168 c_impl_length_string) (q1 : SoundC Tryz.prog 128 c_impl_within) : SoundC Tryz.prog 125 c_impl_Design_isNet := by
  refine fn_sound tab_ok (gam_cons q0 (gam_cons q1 gam_nil)) mixed {} (fn := Tryz.f125) Tryz.func125 (by kernel_rfl) (by kernel_rfl) ?_
  rintro ⟨d0, net0, ⟨⟩⟩ K ⟨r, h, hK⟩
  change impl_Design_isNet d0 net0 = some r at h
  unfold impl_Design_isNet at h
  conv => whnf
  refine vBind h (fun string0 hb0 h => ?_)
  conv => whnf
  refine vBind h (fun within0 hb1 h => ?_)
  conv => whnf
  cases h
  exact hK
theorem w_impl_areSlews (q0 : SoundC Tryz.prog 140 c_impl_IsSpan) (q1 : SoundC Tryz.prog 176 c_impl_isSlew) : SoundC Tryz.prog 141 c_impl_areSlews := by
  refine fn_sound tab_ok (gam_cons q0 (gam_cons q1 gam_nil)) mixed {} (fn := Tryz.f141) Tryz.func141 (by kernel_rfl) (by kernel_rfl) ?_
  rintro ⟨s0, ⟨⟩⟩ K ⟨r, h, hK⟩
  change impl_areSlews s0 = some r at h
  unfold impl_areSlews at h
  conv => whnf
  refine vBind h (fun IsSpan0 hb0 h => ?_)
  conv => whnf
  refine vIfB h (fun h => ?_) (fun h => ?_)
  · conv => whnf
    refine vBind h (fun isSlew0 hb1 h => ?_)
    conv => whnf
    refine vIfB h (fun h => ?_) (fun h => ?_)
    · conv => whnf
      refine vBind h (fun isSlew1 hb2 h => ?_)
      conv => whnf
      cases h
      exact hK
    · conv => whnf
      cases h
      exact hK
  · conv => whnf
    cases h
    exact hK
theorem w_impl_isSlew (q0 : SoundC Tryz.prog 128 c_impl_within) : SoundC Tryz.prog 176 c_impl_isSlew := by
  refine fn_sound tab_ok (gam_cons q0 gam_nil) mixed {} (fn := Tryz.f176) Tryz.func176 (by kernel_rfl) (by kernel_rfl) ?_
  rintro ⟨n0, ⟨⟩⟩ K ⟨r, h, hK⟩
  change impl_isSlew n0 = some r at h
  unfold impl_isSlew at h
  conv => whnf
  refine vBind h (fun within0 hb0 h => ?_)
  conv => whnf
  cases h
  exact hK
theorem w_impl_isTime (q0 : SoundC Tryz.prog 128 c_impl_within) : SoundC Tryz.prog 175 c_impl_isTime := by
  refine fn_sound tab_ok (gam_cons q0 gam_nil) mixed {} (fn := Tryz.f175) Tryz.func175 (by kernel_rfl) (by kernel_rfl) ?_
  rintro ⟨t0, ⟨⟩⟩ K ⟨r, h, hK⟩
  change impl_isTime t0 = some r at h
  unfold impl_isTime at h
  conv => whnf
  refine vBind h (fun within0 hb0 h => ?_)
  conv => whnf
  cases h
  exact hK
theorem w_impl_isValue (q0 : SoundC Tryz.prog 128 c_impl_within) : SoundC Tryz.prog 143 c_impl_isValue := by
  refine fn_sound tab_ok (gam_cons q0 gam_nil) mixed {} (fn := Tryz.f143) Tryz.func143 (by kernel_rfl) (by kernel_rfl) ?_
  rintro ⟨kind0, value0, ⟨⟩⟩ K ⟨r, h, hK⟩
  change impl_isValue kind0 value0 = some r at h
  unfold impl_isValue at h
  conv => whnf
  refine vIfD h (fun h => ?_) (fun h => ?_)
  · conv => whnf
    cases h
    exact hK
  · conv => whnf
    refine vIfD h (fun h => ?_) (fun h => ?_)
    · conv => whnf
      refine vBind h (fun within0 hb0 h => ?_)
      conv => whnf
      cases h
      exact hK
    · conv => whnf
      refine vIfD h (fun h => ?_) (fun h => ?_)
      · conv => whnf
        refine vIfD h (fun h => ?_) (fun h => ?_)
        · conv => whnf
          refine vBind h (fun within0 hb1 h => ?_)
          conv => whnf
          cases h
          exact hK
        · conv => whnf
          cases h
          exact hK
      · conv => whnf
        refine vIfD h (fun h => ?_) (fun h => ?_)
        · conv => whnf
          refine vBind h (fun within0 hb2 h => ?_)
          conv => whnf
          cases h
          exact hK
        · conv => whnf
          cases h
          exact hK
theorem w_impl_length_impl_Pin : SoundC Tryz.prog 208 c_impl_length_impl_Pin := by
  refine fn_sound tab_ok gam_nil mixed {} (fn := Tryz.f208) Tryz.func208 (by kernel_rfl) (by kernel_rfl) ?_
  rintro ⟨list0, ⟨⟩⟩ K ⟨r, h, hK⟩
  change impl_length_impl_Pin list0 = some r at h
  unfold impl_length_impl_Pin at h
  conv => whnf
  cases h
  exact hK
theorem w_impl_view_isException (q0 : SoundC Tryz.prog 139 c_impl_length_impl_place) (q2 : SoundC Tryz.prog 130 c_impl_areWithin) (q3 : SoundC Tryz.prog 143 c_impl_isValue) (q1 : SoundC Tryz.prog 144 c_impl_isIncreasing) : SoundC Tryz.prog 89 c_impl_view_isException := by
  refine fn_sound tab_ok (gam_cons q0 (gam_cons q2 (gam_cons q3 (gam_cons q1 gam_nil)))) mixed { loops := [(0, [.reg 15 (.dat (.int .i64))])] } (fn := Tryz.f89) Tryz.func89 (by kernel_rfl) (by kernel_rfl) ?_
  rintro ⟨v0, e0, ⟨⟩⟩ K ⟨r, h, hK⟩
  change impl_view_isException v0 e0 = some r at h
  unfold impl_view_isException at h
  conv => whnf
  refine vLoop h ?_
  rintro I0 μ0 ⟨v1, ⟨⟩⟩ zs0 h hI0 hR0
  change impl_view_isException_loop0 v0 e0 v1 = some zs0 at h
  unfold impl_view_isException_loop0 at h
  conv => whnf
  refine vIfD h (fun h => ?_) (fun h => ?_)
  · conv => whnf
    refine vAt h (fun x0 he1a he1b he1x h => ?_)
    conv => whnf
    refine ⟨by kernel_rfl, ?_⟩
    conv => whnf
    refine ⟨he1a, he1b, vAgain he1x ?_⟩
    conv => whnf
    refine vIfDs h (fun h => ?_) (fun h => ?_)
    · conv => whnf
      cases h
      obtain rfl := hR0 _ rfl
      exact hK
    · conv => whnf
      refine vBind h (fun place0 hb2 h => ?_)
      conv => whnf
      refine vBind h (fun areWithin0 hb3 h => ?_)
      conv => whnf
      refine vNots ?_
      refine vIfB h (fun h => ?_) (fun h => ?_)
      · conv => whnf
        cases h
        exact ⟨⟨rfl, rfl⟩, hI0 _ rfl⟩
      · conv => whnf
        cases h
        obtain rfl := hR0 _ rfl
        exact hK
  · conv => whnf
    refine vBind h (fun isValue0 hb4 h => ?_)
    conv => whnf
    refine vIfB h (fun h => ?_) (fun h => ?_)
    · conv => whnf
      refine vBind h (fun isIncreasing0 hb5 h => ?_)
      conv => whnf
      refine vIfB h (fun h => ?_) (fun h => ?_)
      · conv => whnf
        refine vBind h (fun isIncreasing1 hb6 h => ?_)
        conv => whnf
        cases h
        obtain rfl := hR0 _ rfl
        exact hK
      · conv => whnf
        cases h
        obtain rfl := hR0 _ rfl
        exact hK
    · conv => whnf
      cases h
      obtain rfl := hR0 _ rfl
      exact hK
theorem w_impl_view_isSetup (q2 : SoundC Tryz.prog 81 c_impl_length_impl_Clock) (q5 : SoundC Tryz.prog 82 c_impl_IsClocks) (q1 : SoundC Tryz.prog 83 c_slices_ContainsFunc_Simpl_Clock_impl_Clock_at_impl_view_isSetup_c1) (q3 : SoundC Tryz.prog 86 c_impl_view_areExternals) (q0 : SoundC Tryz.prog 87 c_slices_ContainsFunc_Simpl_Exception_impl_Exception_at_impl_view_isSetup_c2) (q4 : SoundC Tryz.prog 90 c_impl_IsCornerList) : SoundC Tryz.prog 37 c_impl_view_isSetup := by
  refine fn_sound tab_ok (gam_cons q2 (gam_cons q5 (gam_cons q1 (gam_cons q3 (gam_cons q0 (gam_cons q4 gam_nil)))))) mixed {} (fn := Tryz.f37) Tryz.func37 (by kernel_rfl) (by kernel_rfl) ?_
  rintro ⟨v0, s0, ⟨⟩⟩ K ⟨r, h, hK⟩
  change impl_view_isSetup v0 s0 = some r at h
  unfold impl_view_isSetup at h
  conv => whnf
  refine vBind h (fun Clock0 hb0 h => ?_)
  conv => whnf
  refine vBind h (fun IsClocks0 hb1 h => ?_)
  conv => whnf
  refine vNot ?_
  refine vIfB h (fun h => ?_) (fun h => ?_)
  · conv => whnf
    refine vBind h (fun c1_0 hb2 h => ?_)
    conv => whnf
    refine vIfB h (fun h => ?_) (fun h => ?_)
    · conv => whnf
      cases h
      exact hK
    · conv => whnf
      refine vBind h (fun areExternals0 hb3 h => ?_)
      conv => whnf
      refine vNot ?_
      refine vIfB h (fun h => ?_) (fun h => ?_)
      · conv => whnf
        refine vBind h (fun areExternals1 hb4 h => ?_)
        conv => whnf
        refine vNot ?_
        refine vIfB h (fun h => ?_) (fun h => ?_)
        · conv => whnf
          refine vIfD h (fun h => ?_) (fun h => ?_)
          · conv => whnf
            cases h
            exact hK
          · conv => whnf
            refine vBind h (fun c2_0 hb5 h => ?_)
            conv => whnf
            refine vNots ?_
            refine vIfB h (fun h => ?_) (fun h => ?_)
            · conv => whnf
              cases h
              exact hK
            · conv => whnf
              refine vIfDs h (fun h => ?_) (fun h => ?_)
              · conv => whnf
                cases h
                exact hK
              · conv => whnf
                refine vBind h (fun IsCornerList0 hb6 h => ?_)
                conv => whnf
                cases h
                exact hK
        · conv => whnf
          cases h
          exact hK
      · conv => whnf
        cases h
        exact hK
  · conv => whnf
    cases h
    exact hK
theorem w_laws_eqExceptionS (q0 : SoundC Tryz.prog 98 c_laws_eqException) : SoundC Tryz.prog 43 c_laws_eqExceptionS := by
  refine fn_sound tab_ok (gam_cons q0 gam_nil) mixed { loops := [(0, [.reg 5 (.dat (.int .i64))])], draws := [(6, [0, 0, 3, 7, 0, 0, 48, 112, 255, 511], .op 0 (.op 1 (.op 2 (.op 3 (.op 4 (.op 5 (.op 6 (.op 7 (.alt 8 (.op 9 (.done)) (.done))))))))))] } (fn := Tryz.f43) Tryz.func43 (by kernel_rfl) (by kernel_rfl) ?_
  rintro ⟨a0, b0, ⟨⟩⟩ K ⟨r, h, hK⟩
  change laws_eqExceptionS a0 b0 = some r at h
  unfold laws_eqExceptionS at h
  conv => whnf
  refine vNots ?_
  refine vIfD h (fun h => ?_) (fun h => ?_)
  · conv => whnf
    refine vLoop h ?_
    rintro I0 μ0 ⟨i0, ⟨⟩⟩ zs0 h hI0 hR0
    change laws_eqExceptionS_loop0 a0 b0 i0 = some zs0 at h
    unfold laws_eqExceptionS_loop0 at h
    conv => whnf
    refine vIfD h (fun h => ?_) (fun h => ?_)
    · conv => whnf
      refine ⟨by kernel_rfl, ?_⟩
      conv => whnf
      refine vAt h (fun x0 he1a he1b he1x h => ?_)
      conv => whnf
      refine vAt h (fun x1 he2a he2b he2x h => ?_)
      conv => whnf
      refine vBind h (fun eqException0 hb3 h => ?_)
      conv => whnf
      refine vNots ?_
      refine vIfB h (fun h => ?_) (fun h => ?_)
      · conv => whnf
        cases h
        exact ⟨⟨rfl, rfl⟩, hI0 _ rfl⟩
      · conv => whnf
        cases h
        obtain rfl := hR0 _ rfl
        exact hK
    · conv => whnf
      cases h
      obtain rfl := hR0 _ rfl
      exact hK
  · conv => whnf
    cases h
    exact hK
theorem w_laws_eqPinS (q0 : SoundC Tryz.prog 199 c_laws_eqPin) : SoundC Tryz.prog 178 c_laws_eqPinS := by
  refine fn_sound tab_ok (gam_cons q0 gam_nil) mixed { loops := [(0, [.reg 5 (.dat (.int .i64))])], draws := [(6, [0, 0, 3, 7, 0, 0, 48, 112, 255, 511], .op 0 (.op 1 (.op 2 (.op 3 (.op 4 (.op 5 (.op 6 (.op 7 (.alt 8 (.op 9 (.done)) (.done))))))))))] } (fn := Tryz.f178) Tryz.func178 (by kernel_rfl) (by kernel_rfl) ?_
  rintro ⟨a0, b0, ⟨⟩⟩ K ⟨r, h, hK⟩
  change laws_eqPinS a0 b0 = some r at h
  unfold laws_eqPinS at h
  conv => whnf
  refine vNots ?_
  refine vIfD h (fun h => ?_) (fun h => ?_)
  · conv => whnf
    refine vLoop h ?_
    rintro I0 μ0 ⟨i0, ⟨⟩⟩ zs0 h hI0 hR0
    change laws_eqPinS_loop0 a0 b0 i0 = some zs0 at h
    unfold laws_eqPinS_loop0 at h
    conv => whnf
    refine vIfD h (fun h => ?_) (fun h => ?_)
    · conv => whnf
      refine ⟨by kernel_rfl, ?_⟩
      conv => whnf
      refine vAt h (fun x0 he1a he1b he1x h => ?_)
      conv => whnf
      refine vAt h (fun x1 he2a he2b he2x h => ?_)
      conv => whnf
      refine vBind h (fun eqPin0 hb3 h => ?_)
      conv => whnf
      refine vNots ?_
      refine vIfB h (fun h => ?_) (fun h => ?_)
      · conv => whnf
        cases h
        exact ⟨⟨rfl, rfl⟩, hI0 _ rfl⟩
      · conv => whnf
        cases h
        obtain rfl := hR0 _ rfl
        exact hK
    · conv => whnf
      cases h
      obtain rfl := hR0 _ rfl
      exact hK
  · conv => whnf
    cases h
    exact hK
theorem w_laws_eqTable (q0 : SoundC Tryz.prog 150 c_laws_eqInt64S) : SoundC Tryz.prog 243 c_laws_eqTable := by
  refine fn_sound tab_ok (gam_cons q0 gam_nil) mixed {} (fn := Tryz.f243) Tryz.func243 (by kernel_rfl) (by kernel_rfl) ?_
  rintro ⟨a0, b0, ⟨⟩⟩ K ⟨r, h, hK⟩
  change laws_eqTable a0 b0 = some r at h
  unfold laws_eqTable at h
  conv => whnf
  refine vBind h (fun eqInt64S0 hb0 h => ?_)
  conv => whnf
  refine vNots ?_
  refine vIfB h (fun h => ?_) (fun h => ?_)
  · conv => whnf
    refine vBind h (fun eqInt64S1 hb1 h => ?_)
    conv => whnf
    refine vNots ?_
    refine vIfB h (fun h => ?_) (fun h => ?_)
    · conv => whnf
      refine vBind h (fun eqInt64S2 hb2 h => ?_)
      conv => whnf
      refine vNots ?_
      refine vIfB h (fun h => ?_) (fun h => ?_)
      · conv => whnf
        cases h
        exact hK
      · conv => whnf
        cases h
        exact hK
    · conv => whnf
      cases h
      exact hK
  · conv => whnf
    cases h
    exact hK
theorem w_laws_eqTableS (q0 : SoundC Tryz.prog 243 c_laws_eqTable) : SoundC Tryz.prog 222 c_laws_eqTableS := by
  refine fn_sound tab_ok (gam_cons q0 gam_nil) mixed { loops := [(0, [.reg 5 (.dat (.int .i64))])], draws := [(6, [0, 0, 3, 7, 0, 0, 48, 112, 255, 511], .op 0 (.op 1 (.op 2 (.op 3 (.op 4 (.op 5 (.op 6 (.op 7 (.alt 8 (.op 9 (.done)) (.done))))))))))] } (fn := Tryz.f222) Tryz.func222 (by kernel_rfl) (by kernel_rfl) ?_
  rintro ⟨a0, b0, ⟨⟩⟩ K ⟨r, h, hK⟩
  change laws_eqTableS a0 b0 = some r at h
  unfold laws_eqTableS at h
  conv => whnf
  refine vNots ?_
  refine vIfD h (fun h => ?_) (fun h => ?_)
  · conv => whnf
    refine vLoop h ?_
    rintro I0 μ0 ⟨i0, ⟨⟩⟩ zs0 h hI0 hR0
    change laws_eqTableS_loop0 a0 b0 i0 = some zs0 at h
    unfold laws_eqTableS_loop0 at h
    conv => whnf
    refine vIfD h (fun h => ?_) (fun h => ?_)
    · conv => whnf
      refine ⟨by kernel_rfl, ?_⟩
      conv => whnf
      refine vAt h (fun x0 he1a he1b he1x h => ?_)
      conv => whnf
      refine vAt h (fun x1 he2a he2b he2x h => ?_)
      conv => whnf
      refine vBind h (fun eqTable0 hb3 h => ?_)
      conv => whnf
      refine vNots ?_
      refine vIfB h (fun h => ?_) (fun h => ?_)
      · conv => whnf
        cases h
        exact ⟨⟨rfl, rfl⟩, hI0 _ rfl⟩
      · conv => whnf
        cases h
        obtain rfl := hR0 _ rfl
        exact hK
    · conv => whnf
      cases h
      obtain rfl := hR0 _ rfl
      exact hK
  · conv => whnf
    cases h
    exact hK
theorem w_laws_szArc (q0 : SoundC Tryz.prog 205 c_laws_szTableS) : SoundC Tryz.prog 186 c_laws_szArc := by
  refine fn_sound tab_ok (gam_cons q0 gam_nil) mixed {} (fn := Tryz.f186) Tryz.func186 (by kernel_rfl) (by kernel_rfl) ?_
  rintro ⟨a0, left0, ⟨⟩⟩ K ⟨r, h, hK⟩
  change laws_szArc a0 left0 = some r at h
  unfold laws_szArc at h
  conv => whnf
  refine vBind h (fun szTableS0 hb0 h => ?_)
  conv => whnf
  refine vIfD h (fun h => ?_) (fun h => ?_)
  · conv => whnf
    cases h
    exact hK
  · conv => whnf
    refine vBind h (fun szTableS1 hb1 h => ?_)
    conv => whnf
    refine vIfD h (fun h => ?_) (fun h => ?_)
    · conv => whnf
      cases h
      exact hK
    · conv => whnf
      cases h
      exact hK
theorem w_laws_szDesign (q0 : SoundC Tryz.prog 48 c_laws_szInstanceS) (q1 : SoundC Tryz.prog 49 c_laws_szStringS) (q2 : SoundC Tryz.prog 50 c_laws_szPortS) : SoundC Tryz.prog 16 c_laws_szDesign := by
  refine fn_sound tab_ok (gam_cons q0 (gam_cons q1 (gam_cons q2 gam_nil))) mixed {} (fn := Tryz.f16) Tryz.func16 (by kernel_rfl) (by kernel_rfl) ?_
  rintro ⟨a0, left0, ⟨⟩⟩ K ⟨r, h, hK⟩
  change laws_szDesign a0 left0 = some r at h
  unfold laws_szDesign at h
  conv => whnf
  refine vBind h (fun szInstanceS0 hb0 h => ?_)
  conv => whnf
  refine vIfD h (fun h => ?_) (fun h => ?_)
  · conv => whnf
    cases h
    exact hK
  · conv => whnf
    refine vBind h (fun szStringS0 hb1 h => ?_)
    conv => whnf
    refine vIfD h (fun h => ?_) (fun h => ?_)
    · conv => whnf
      cases h
      exact hK
    · conv => whnf
      refine vBind h (fun szPortS0 hb2 h => ?_)
      conv => whnf
      refine vIfD h (fun h => ?_) (fun h => ?_)
      · conv => whnf
        cases h
        exact hK
      · conv => whnf
        cases h
        exact hK
theorem w_laws_szPin : SoundC Tryz.prog 185 c_laws_szPin := by
  refine fn_sound tab_ok gam_nil mixed {} (fn := Tryz.f185) Tryz.func185 (by kernel_rfl) (by kernel_rfl) ?_
  rintro ⟨a0, left0, ⟨⟩⟩ K ⟨r, h, hK⟩
  change laws_szPin a0 left0 = some r at h
  unfold laws_szPin at h
  conv => whnf
  refine vIfD h (fun h => ?_) (fun h => ?_)
  · conv => whnf
    cases h
    exact hK
  · conv => whnf
    cases h
    exact hK
theorem w_laws_szSetup (q3 : SoundC Tryz.prog 18 c_laws_szClockS) (q1 : SoundC Tryz.prog 19 c_laws_szExternalS) (q0 : SoundC Tryz.prog 20 c_laws_szExceptionS) (q2 : SoundC Tryz.prog 21 c_laws_szCornerS) : SoundC Tryz.prog 6 c_laws_szSetup := by
  refine fn_sound tab_ok (gam_cons q3 (gam_cons q1 (gam_cons q0 (gam_cons q2 gam_nil)))) mixed {} (fn := Tryz.f6) Tryz.func6 (by kernel_rfl) (by kernel_rfl) ?_
  rintro ⟨a0, left0, ⟨⟩⟩ K ⟨r, h, hK⟩
  change laws_szSetup a0 left0 = some r at h
  unfold laws_szSetup at h
  conv => whnf
  refine vBind h (fun szClockS0 hb0 h => ?_)
  conv => whnf
  refine vIfD h (fun h => ?_) (fun h => ?_)
  · conv => whnf
    cases h
    exact hK
  · conv => whnf
    refine vBind h (fun szExternalS0 hb1 h => ?_)
    conv => whnf
    refine vIfD h (fun h => ?_) (fun h => ?_)
    · conv => whnf
      cases h
      exact hK
    · conv => whnf
      refine vBind h (fun szExternalS1 hb2 h => ?_)
      conv => whnf
      refine vIfD h (fun h => ?_) (fun h => ?_)
      · conv => whnf
        cases h
        exact hK
      · conv => whnf
        refine vBind h (fun szExceptionS0 hb3 h => ?_)
        conv => whnf
        refine vIfD h (fun h => ?_) (fun h => ?_)
        · conv => whnf
          cases h
          exact hK
        · conv => whnf
          refine vBind h (fun szCornerS0 hb4 h => ?_)
          conv => whnf
          refine vIfD h (fun h => ?_) (fun h => ?_)
          · conv => whnf
            cases h
            exact hK
          · conv => whnf
            cases h
            exact hK
theorem w_laws_szWire (q0 : SoundC Tryz.prog 111 c_laws_szInt64S) : SoundC Tryz.prog 51 c_laws_szWire := by
  refine fn_sound tab_ok (gam_cons q0 gam_nil) mixed {} (fn := Tryz.f51) Tryz.func51 (by kernel_rfl) (by kernel_rfl) ?_
  rintro ⟨a0, left0, ⟨⟩⟩ K ⟨r, h, hK⟩
  change laws_szWire a0 left0 = some r at h
  unfold laws_szWire at h
  conv => whnf
  refine vBind h (fun szInt64S0 hb0 h => ?_)
  conv => whnf
  refine vIfD h (fun h => ?_) (fun h => ?_)
  · conv => whnf
    cases h
    exact hK
  · conv => whnf
    refine vBind h (fun szInt64S1 hb1 h => ?_)
    conv => whnf
    refine vIfD h (fun h => ?_) (fun h => ?_)
    · conv => whnf
      cases h
      exact hK
    · conv => whnf
      refine vBind h (fun szInt64S2 hb2 h => ?_)
      conv => whnf
      refine vIfD h (fun h => ?_) (fun h => ?_)
      · conv => whnf
        cases h
        exact hK
      · conv => whnf
        refine vBind h (fun szInt64S3 hb3 h => ?_)
        conv => whnf
        refine vIfD h (fun h => ?_) (fun h => ?_)
        · conv => whnf
          cases h
          exact hK
        · conv => whnf
          cases h
          exact hK
theorem w_laws_szWireS (q0 : SoundC Tryz.prog 51 c_laws_szWire) : SoundC Tryz.prog 17 c_laws_szWireS := by
  refine fn_sound tab_ok (gam_cons q0 gam_nil) mixed { loops := [(0, [.reg 1 (.dat (.int .i64)), .reg 5 (.dat (.int .i64))])] } (fn := Tryz.f17) Tryz.func17 (by kernel_rfl) (by kernel_rfl) ?_
  rintro ⟨a0, left0, ⟨⟩⟩ K ⟨r, h, hK⟩
  change laws_szWireS a0 left0 = some r at h
  unfold laws_szWireS at h
  conv => whnf
  refine vIfD h (fun h => ?_) (fun h => ?_)
  · conv => whnf
    cases h
    exact hK
  · conv => whnf
    refine vLoop h ?_
    rintro I0 μ0 ⟨left1, i0, ⟨⟩⟩ zs0 h hI0 hR0
    change laws_szWireS_loop0 a0 left1 i0 = some zs0 at h
    unfold laws_szWireS_loop0 at h
    conv => whnf
    refine vIfD h (fun h => ?_) (fun h => ?_)
    · conv => whnf
      refine vAt h (fun x0 he1a he1b he1x h => ?_)
      conv => whnf
      refine vBind h (fun szWire0 hb2 h => ?_)
      conv => whnf
      refine vIfD h (fun h => ?_) (fun h => ?_)
      · conv => whnf
        cases h
        obtain rfl := hR0 _ rfl
        exact hK
      · conv => whnf
        cases h
        exact ⟨⟨rfl, rfl⟩, hI0 _ rfl⟩
    · conv => whnf
      cases h
      obtain rfl := hR0 _ rfl
      exact hK
theorem w_laws_toArc (q0 : SoundC Tryz.prog 207 c_laws_toTableS) : SoundC Tryz.prog 191 c_laws_toArc := by
  refine fn_sound tabD_ok (gam_cons q0 gam_nil) mixed {} (fn := Tryz.f191) Tryz.func191 (by kernel_rfl) (by kernel_rfl) ?_
  rintro ⟨a0, ⟨⟩⟩ K ⟨r, h, hK⟩
  change laws_toArc a0 = some r at h
  unfold laws_toArc at h
  conv => whnf
  refine vBind h (fun toTableS0 hb0 h => ?_)
  conv => whnf
  intro fp1
  conv => whnf
  refine vBind h (fun toTableS1 hb2 h => ?_)
  conv => whnf
  intro fp3
  conv => whnf
  cases h
  exact hK
theorem w_laws_toArcS (q0 : SoundC Tryz.prog 191 c_laws_toArc) : SoundC Tryz.prog 163 c_laws_toArcS := by
  refine fn_sound tabD_ok (gam_cons q0 gam_nil) mixed { loops := [(0, [.reg 4 (.dat (.int .i64)), .ent 0 (nat_lit 217) dArc])] } (fn := Tryz.f163) Tryz.func163 (by kernel_rfl) (by kernel_rfl) ?_
  rintro ⟨a0, ⟨⟩⟩ K ⟨r, h, hK⟩
  change laws_toArcS a0 = some r at h
  unfold laws_toArcS at h
  conv => whnf
  refine vPre h (fun hp0 h => ?_)
  conv => whnf
  refine vPre h (fun hp1 h => ?_)
  conv => whnf
  refine vPre h (fun hp2 h => ?_)
  conv => whnf
  refine vPre h (fun hp3 h => ?_)
  conv => whnf
  intro fp4
  conv => whnf
  refine vLoop h ?_
  rintro I5 μ5 ⟨i0, l0, ⟨⟩⟩ zs5 h hI5 hR5
  change laws_toArcS_loop0 a0 i0 l0 = some zs5 at h
  unfold laws_toArcS_loop0 at h
  conv => whnf
  intro fp6
  conv => whnf
  refine vIfD h (fun h => ?_) (fun h => ?_)
  · conv => whnf
    refine vAt h (fun x0 he7a he7b he7x h => ?_)
    conv => whnf
    refine vBind h (fun toArc0 hb8 h => ?_)
    conv => whnf
    intro fp9
    conv => whnf
    intro fp10
    conv => whnf
    refine vAt h (fun x1 he11a he11b he11x h => ?_)
    conv => whnf
    refine ⟨he11a, he11b, vAgain he11x ?_⟩
    conv => whnf
    intro fp12
    conv => whnf
    intro fp13
    conv => whnf
    intro fp14
    conv => whnf
    cases h
    exact ⟨⟨rfl, rfl⟩, hI5 _ rfl⟩
  · conv => whnf
    cases h
    obtain rfl := hR5 _ rfl
    exact hK
theorem w_laws_toPort : SoundC Tryz.prog 119 c_laws_toPort := by
  refine fn_sound tab_ok gam_nil mixed {} (fn := Tryz.f119) Tryz.func119 (by kernel_rfl) (by kernel_rfl) ?_
  rintro ⟨a0, ⟨⟩⟩ K ⟨r, h, hK⟩
  change laws_toPort a0 = some r at h
  unfold laws_toPort at h
  conv => whnf
  cases h
  exact hK
theorem w_laws_toTable (q0 : SoundC Tryz.prog 120 c_laws_toInt64S) : SoundC Tryz.prog 231 c_laws_toTable := by
  refine fn_sound tab_ok (gam_cons q0 gam_nil) mixed {} (fn := Tryz.f231) Tryz.func231 (by kernel_rfl) (by kernel_rfl) ?_
  rintro ⟨a0, ⟨⟩⟩ K ⟨r, h, hK⟩
  change laws_toTable a0 = some r at h
  unfold laws_toTable at h
  conv => whnf
  refine vBind h (fun toInt64S0 hb0 h => ?_)
  conv => whnf
  refine vBind h (fun toInt64S1 hb1 h => ?_)
  conv => whnf
  refine vBind h (fun toInt64S2 hb2 h => ?_)
  conv => whnf
  cases h
  exact hK
theorem w_laws_toTableS (q0 : SoundC Tryz.prog 231 c_laws_toTable) : SoundC Tryz.prog 207 c_laws_toTableS := by
  refine fn_sound tabD_ok (gam_cons q0 gam_nil) mixed { loops := [(0, [.reg 4 (.dat (.int .i64)), .ent 0 (nat_lit 322) dTable])] } (fn := Tryz.f207) Tryz.func207 (by kernel_rfl) (by kernel_rfl) ?_
  rintro ⟨a0, ⟨⟩⟩ K ⟨r, h, hK⟩
  change laws_toTableS a0 = some r at h
  unfold laws_toTableS at h
  conv => whnf
  refine vPre h (fun hp0 h => ?_)
  conv => whnf
  refine vPre h (fun hp1 h => ?_)
  conv => whnf
  refine vPre h (fun hp2 h => ?_)
  conv => whnf
  refine vPre h (fun hp3 h => ?_)
  conv => whnf
  intro fp4
  conv => whnf
  refine vLoop h ?_
  rintro I5 μ5 ⟨i0, l0, ⟨⟩⟩ zs5 h hI5 hR5
  change laws_toTableS_loop0 a0 i0 l0 = some zs5 at h
  unfold laws_toTableS_loop0 at h
  conv => whnf
  intro fp6
  conv => whnf
  refine vIfD h (fun h => ?_) (fun h => ?_)
  · conv => whnf
    refine vAt h (fun x0 he7a he7b he7x h => ?_)
    conv => whnf
    refine vBind h (fun toTable0 hb8 h => ?_)
    conv => whnf
    refine vAt h (fun x1 he9a he9b he9x h => ?_)
    conv => whnf
    refine ⟨he9a, he9b, vAgain he9x ?_⟩
    conv => whnf
    intro fp10
    conv => whnf
    cases h
    exact ⟨⟨rfl, rfl⟩, hI5 _ rfl⟩
  · conv => whnf
    cases h
    obtain rfl := hR5 _ rfl
    exact hK
theorem w_slices_ContainsFunc_Simpl_Arc_impl_Arc_at_impl_Cell_has_c1 (q0 : SoundC Tryz.prog 236 c_slices_IndexFunc_Simpl_Arc_impl_Arc_at_impl_Cell_has_c1) : SoundC Tryz.prog 210 c_slices_ContainsFunc_Simpl_Arc_impl_Arc_at_impl_Cell_has_c1 := by
  refine fn_sound tab_ok (gam_cons q0 gam_nil) mixed {} (fn := Tryz.f210) Tryz.func210 (by kernel_rfl) (by kernel_rfl) ?_
  rintro ⟨s0, f0, ⟨⟩⟩ K ⟨r, h, hK⟩
  change slices_ContainsFunc_Simpl_Arc_impl_Arc_at_impl_Cell_has_c1 s0 f0 = some r at h
  unfold slices_ContainsFunc_Simpl_Arc_impl_Arc_at_impl_Cell_has_c1 at h
  conv => whnf
  refine vBind h (fun c1_0 hb0 h => ?_)
  conv => whnf
  cases h
  exact hK
theorem w_slices_IndexFunc_Simpl_Arc_impl_Arc_at_impl_Cell_areArcs_c1 (q0 : SoundC Tryz.prog 211 c_impl_Cell_areArcs_c1) : SoundC Tryz.prog 236 c_slices_IndexFunc_Simpl_Arc_impl_Arc_at_impl_Cell_areArcs_c1 := by
  refine fn_sound tab_ok (gam_cons q0 gam_nil) mixed { loops := [(0, [.reg 8 (.dat (.int .i64))])] } (fn := Tryz.f236) Tryz.func236 (by kernel_rfl) (by kernel_rfl) ?_
  rintro ⟨s0, f0, ⟨⟩⟩ K ⟨r, h, hK⟩
  change slices_IndexFunc_Simpl_Arc_impl_Arc_at_impl_Cell_areArcs_c1 s0 f0 = some r at h
  unfold slices_IndexFunc_Simpl_Arc_impl_Arc_at_impl_Cell_areArcs_c1 at h
  conv => whnf
  refine vLoop h ?_
  rintro I0 μ0 ⟨v0, ⟨⟩⟩ zs0 h hI0 hR0
  change slices_IndexFunc_Simpl_Arc_impl_Arc_at_impl_Cell_areArcs_c1_loop0 s0 f0 v0 = some zs0 at h
  unfold slices_IndexFunc_Simpl_Arc_impl_Arc_at_impl_Cell_areArcs_c1_loop0 at h
  conv => whnf
  refine vIfD h (fun h => ?_) (fun h => ?_)
  · conv => whnf
    refine vAt h (fun x0 he1a he1b he1x h => ?_)
    conv => whnf
    refine vBind h (fun c1_0 hb2 h => ?_)
    conv => whnf
    refine vIfB h (fun h => ?_) (fun h => ?_)
    · conv => whnf
      cases h
      obtain rfl := hR0 _ rfl
      exact hK
    · conv => whnf
      cases h
      exact ⟨⟨rfl, rfl⟩, hI0 _ rfl⟩
  · conv => whnf
    cases h
    obtain rfl := hR0 _ rfl
    exact hK
theorem w_slices_IndexFunc_Simpl_Arc_impl_Arc_at_impl_Cell_has_c1 (q0 : SoundC Tryz.prog 237 c_impl_Cell_has_c1) : SoundC Tryz.prog 236 c_slices_IndexFunc_Simpl_Arc_impl_Arc_at_impl_Cell_has_c1 := by
  refine fn_sound tab_ok (gam_cons q0 gam_nil) mixed { loops := [(0, [.reg 8 (.dat (.int .i64))])] } (fn := Tryz.f236) Tryz.func236 (by kernel_rfl) (by kernel_rfl) ?_
  rintro ⟨s0, f0, ⟨⟩⟩ K ⟨r, h, hK⟩
  change slices_IndexFunc_Simpl_Arc_impl_Arc_at_impl_Cell_has_c1 s0 f0 = some r at h
  unfold slices_IndexFunc_Simpl_Arc_impl_Arc_at_impl_Cell_has_c1 at h
  conv => whnf
  refine vLoop h ?_
  rintro I0 μ0 ⟨v0, ⟨⟩⟩ zs0 h hI0 hR0
  change slices_IndexFunc_Simpl_Arc_impl_Arc_at_impl_Cell_has_c1_loop0 s0 f0 v0 = some zs0 at h
  unfold slices_IndexFunc_Simpl_Arc_impl_Arc_at_impl_Cell_has_c1_loop0 at h
  conv => whnf
  refine vIfD h (fun h => ?_) (fun h => ?_)
  · conv => whnf
    refine vAt h (fun x0 he1a he1b he1x h => ?_)
    conv => whnf
    refine vBind h (fun c1_0 hb2 h => ?_)
    conv => whnf
    refine vIfB h (fun h => ?_) (fun h => ?_)
    · conv => whnf
      cases h
      obtain rfl := hR0 _ rfl
      exact hK
    · conv => whnf
      cases h
      exact ⟨⟨rfl, rfl⟩, hI0 _ rfl⟩
  · conv => whnf
    cases h
    obtain rfl := hR0 _ rfl
    exact hK
theorem w_spec_IsBlock (q0 : SoundC Tryz.prog 55 c_spec_IsDesign) (q1 : SoundC Tryz.prog 57 c_spec_l05Sinks) (q2 : SoundC Tryz.prog 56 c_spec_IsWire) : SoundC Tryz.prog 22 c_spec_IsBlock := by
  refine fn_sound tab_ok (gam_cons q0 (gam_cons q1 (gam_cons q2 gam_nil))) mixed { loops := [(0, [.reg 3 (.dat (.int .i64))])], draws := [(6, [0, 1, 0, 7, 15, 0, 32, 0, 224, 480, 1023, 2047], .op 0 (.op 1 (.op 2 (.op 3 (.op 4 (.op 5 (.op 6 (.op 7 (.alt 8 (.op 9 (.alt 10 (.op 11 (.done)) (.done))) (.done))))))))))] } (fn := Tryz.f22) Tryz.func22 (by kernel_rfl) (by kernel_rfl) ?_
  rintro ⟨b0, ⟨⟩⟩ K ⟨r, h, hK⟩
  change spec_IsBlock b0 = some r at h
  unfold spec_IsBlock at h
  conv => whnf
  refine vBind h (fun IsDesign0 hb0 h => ?_)
  conv => whnf
  refine vNot ?_
  refine vIfB h (fun h => ?_) (fun h => ?_)
  · conv => whnf
    refine vNots ?_
    refine vIfD h (fun h => ?_) (fun h => ?_)
    · conv => whnf
      refine vLoop h ?_
      rintro I1 μ1 ⟨net0, ⟨⟩⟩ zs1 h hI1 hR1
      change spec_IsBlock_loop0 b0 net0 = some zs1 at h
      unfold spec_IsBlock_loop0 at h
      conv => whnf
      refine vIfD h (fun h => ?_) (fun h => ?_)
      · conv => whnf
        refine ⟨by kernel_rfl, ?_⟩
        conv => whnf
        refine vAt h (fun x0 he2a he2b he2x h => ?_)
        conv => whnf
        refine vBind h (fun l05Sinks0 hb3 h => ?_)
        conv => whnf
        refine vBind h (fun IsWire0 hb4 h => ?_)
        conv => whnf
        refine vNots ?_
        refine vIfB h (fun h => ?_) (fun h => ?_)
        · conv => whnf
          cases h
          exact ⟨⟨rfl, rfl⟩, hI1 _ rfl⟩
        · conv => whnf
          cases h
          obtain rfl := hR1 _ rfl
          exact hK
      · conv => whnf
        cases h
        obtain rfl := hR1 _ rfl
        exact hK
    · conv => whnf
      cases h
      exact hK
  · conv => whnf
    cases h
    exact hK
theorem w_spec_IsClocks (q1 : SoundC Tryz.prog 58 c_spec_l14Plain) (q0 : SoundC Tryz.prog 59 c_spec_l14Primary) (q2 : SoundC Tryz.prog 60 c_spec_l01In) (q3 : SoundC Tryz.prog 61 c_spec_l14Of) : SoundC Tryz.prog 23 c_spec_IsClocks := by
  refine fn_sound tab_ok (gam_cons q1 (gam_cons q0 (gam_cons q2 (gam_cons q3 gam_nil)))) mixed { loops := [(0, [.reg 3 (.dat (.int .i64))]), (2, [.reg 5 (.dat (.int .i64))])], draws := [(10, [0, 0, 3, 7, 15, 0, 32, 127], .op 0 (.op 1 (.op 2 (.op 3 (.op 4 (.op 5 (.op 6 (.op 7 (.done)))))))))] } (fn := Tryz.f23) Tryz.func23 (by kernel_rfl) (by kernel_rfl) ?_
  rintro ⟨a0, ⟨⟩⟩ K ⟨r, h, hK⟩
  change spec_IsClocks a0 = some r at h
  unfold spec_IsClocks at h
  conv => whnf
  refine vLoop h ?_
  rintro I0 μ0 ⟨v0, ⟨⟩⟩ zs0 h hI0 hR0
  change spec_IsClocks_loop1 a0 v0 = some zs0 at h
  unfold spec_IsClocks_loop1 at h
  conv => whnf
  refine vIfD h (fun h => ?_) (fun h => ?_)
  · conv => whnf
    refine vIfD h (fun h => ?_) (fun h => ?_)
    · conv => whnf
      refine vAt h (fun x0 he1a he1b he1x h => ?_)
      conv => whnf
      refine vBind h (fun l14Plain0 hb2 h => ?_)
      conv => whnf
      refine vNots ?_
      refine vIfB h (fun h => ?_) (fun h => ?_)
      · conv => whnf
        refine vLoop h ?_
        rintro I3 μ3 ⟨v1, ⟨⟩⟩ zs3 h hI3 hR3
        change spec_IsClocks_loop0 a0 v0 x0 v1 = some zs3 at h
        unfold spec_IsClocks_loop0 at h
        conv => whnf
        refine vIfD h (fun h => ?_) (fun h => ?_)
        · conv => whnf
          refine ⟨by kernel_rfl, ?_⟩
          conv => whnf
          refine vAt h (fun x1 he4a he4b he4x h => ?_)
          conv => whnf
          refine vIfD h (fun h => ?_) (fun h => ?_)
          · conv => whnf
            cases h
            obtain rfl := hR3 _ rfl
            obtain rfl := hR0 _ rfl
            exact hK
          · conv => whnf
            cases h
            exact ⟨⟨rfl, rfl⟩, hI3 _ rfl⟩
        · conv => whnf
          refine vIfD h (fun h => ?_) (fun h => ?_)
          · conv => whnf
            refine vBind h (fun l14Primary0 hb5 h => ?_)
            conv => whnf
            refine vNots ?_
            refine vIfB h (fun h => ?_) (fun h => ?_)
            · conv => whnf
              cases h
              obtain rfl := hR3 _ rfl
              exact ⟨⟨rfl, rfl⟩, hI0 _ rfl⟩
            · conv => whnf
              cases h
              obtain rfl := hR3 _ rfl
              obtain rfl := hR0 _ rfl
              exact hK
          · conv => whnf
            refine vBind h (fun l01In0 hb6 h => ?_)
            conv => whnf
            refine vNot ?_
            refine vIfB h (fun h => ?_) (fun h => ?_)
            · conv => whnf
              refine vBind h (fun l01In1 hb7 h => ?_)
              conv => whnf
              refine vNot ?_
              refine vIfB h (fun h => ?_) (fun h => ?_)
              · conv => whnf
                refine vNot ?_
                refine vIfD h (fun h => ?_) (fun h => ?_)
                · conv => whnf
                  refine vNot ?_
                  refine vIfD h (fun h => ?_) (fun h => ?_)
                  · conv => whnf
                    refine vNot ?_
                    refine vIfD h (fun h => ?_) (fun h => ?_)
                    · conv => whnf
                      refine vBind h (fun l14Of0 hb8 h => ?_)
                      conv => whnf
                      refine vIfD h (fun h => ?_) (fun h => ?_)
                      · conv => whnf
                        cases h
                        obtain rfl := hR3 _ rfl
                        obtain rfl := hR0 _ rfl
                        exact hK
                      · conv => whnf
                        cases h
                        obtain rfl := hR3 _ rfl
                        exact ⟨⟨rfl, rfl⟩, hI0 _ rfl⟩
                    · conv => whnf
                      cases h
                      obtain rfl := hR3 _ rfl
                      obtain rfl := hR0 _ rfl
                      exact hK
                  · conv => whnf
                    cases h
                    obtain rfl := hR3 _ rfl
                    obtain rfl := hR0 _ rfl
                    exact hK
                · conv => whnf
                  cases h
                  obtain rfl := hR3 _ rfl
                  obtain rfl := hR0 _ rfl
                  exact hK
              · conv => whnf
                cases h
                obtain rfl := hR3 _ rfl
                obtain rfl := hR0 _ rfl
                exact hK
            · conv => whnf
              cases h
              obtain rfl := hR3 _ rfl
              obtain rfl := hR0 _ rfl
              exact hK
      · conv => whnf
        cases h
        obtain rfl := hR0 _ rfl
        exact hK
    · conv => whnf
      cases h
      obtain rfl := hR0 _ rfl
      exact hK
  · conv => whnf
    cases h
    obtain rfl := hR0 _ rfl
    exact hK
theorem w_spec_l03Arc (q1 : SoundC Tryz.prog 60 c_spec_l01In) (q0 : SoundC Tryz.prog 206 c_spec_l03Tables) : SoundC Tryz.prog 188 c_spec_l03Arc := by
  refine fn_sound tab_ok (gam_cons q1 (gam_cons q0 gam_nil)) mixed {} (fn := Tryz.f188) Tryz.func188 (by kernel_rfl) (by kernel_rfl) ?_
  rintro ⟨a0, a1, ⟨⟩⟩ K ⟨r, h, hK⟩
  change spec_l03Arc a0 a1 = some r at h
  unfold spec_l03Arc at h
  conv => whnf
  refine vBind h (fun l01In0 hb0 h => ?_)
  conv => whnf
  refine vNot ?_
  refine vIfB h (fun h => ?_) (fun h => ?_)
  · conv => whnf
    refine vBind h (fun l01In1 hb1 h => ?_)
    conv => whnf
    refine vNots ?_
    refine vIfB h (fun h => ?_) (fun h => ?_)
    · conv => whnf
      refine vAt h (fun x0 he2a he2b he2x h => ?_)
      conv => whnf
      refine vIfD h (fun h => ?_) (fun h => ?_)
      · conv => whnf
        refine vNots ?_
        refine vIfB h (fun h => ?_) (fun h => ?_)
        · conv => whnf
          cases h
          exact hK
        · conv => whnf
          refine vIfD h (fun h => ?_) (fun h => ?_)
          · conv => whnf
            refine vBind h (fun l01In2 hb3 h => ?_)
            conv => whnf
            refine vIfB h (fun h => ?_) (fun h => ?_)
            · conv => whnf
              refine vBind h (fun l03Tables0 hb4 h => ?_)
              conv => whnf
              refine vIfB h (fun h => ?_) (fun h => ?_)
              · conv => whnf
                refine vBind h (fun l03Tables1 hb5 h => ?_)
                conv => whnf
                cases h
                exact hK
              · conv => whnf
                cases h
                exact hK
            · conv => whnf
              cases h
              exact hK
          · conv => whnf
            cases h
            exact hK
      · conv => whnf
        refine vIfD h (fun h => ?_) (fun h => ?_)
        · conv => whnf
          refine vIfD h (fun h => ?_) (fun h => ?_)
          · conv => whnf
            refine vIfB h (fun h => ?_) (fun h => ?_)
            · conv => whnf
              refine vIfD h (fun h => ?_) (fun h => ?_)
              · conv => whnf
                refine vIfD h (fun h => ?_) (fun h => ?_)
                · conv => whnf
                  refine vBind h (fun l03Tables0 hb6 h => ?_)
                  conv => whnf
                  refine vIfB h (fun h => ?_) (fun h => ?_)
                  · conv => whnf
                    refine vBind h (fun l03Tables1 hb7 h => ?_)
                    conv => whnf
                    cases h
                    exact hK
                  · conv => whnf
                    cases h
                    exact hK
                · conv => whnf
                  cases h
                  exact hK
              · conv => whnf
                cases h
                exact hK
            · conv => whnf
              cases h
              exact hK
          · conv => whnf
            refine vIfD h (fun h => ?_) (fun h => ?_)
            · conv => whnf
              refine vIfD h (fun h => ?_) (fun h => ?_)
              · conv => whnf
                refine vIfB h (fun h => ?_) (fun h => ?_)
                · conv => whnf
                  refine vIfD h (fun h => ?_) (fun h => ?_)
                  · conv => whnf
                    refine vAt h (fun x1 he8a he8b he8x h => ?_)
                    conv => whnf
                    refine vNots ?_
                    refine vIfB h (fun h => ?_) (fun h => ?_)
                    · conv => whnf
                      cases h
                      exact hK
                    · conv => whnf
                      refine vIfD h (fun h => ?_) (fun h => ?_)
                      · conv => whnf
                        refine vBind h (fun l03Tables0 hb9 h => ?_)
                        conv => whnf
                        refine vIfB h (fun h => ?_) (fun h => ?_)
                        · conv => whnf
                          cases h
                          exact hK
                        · conv => whnf
                          cases h
                          exact hK
                      · conv => whnf
                        cases h
                        exact hK
                  · conv => whnf
                    cases h
                    exact hK
                · conv => whnf
                  cases h
                  exact hK
              · conv => whnf
                cases h
                exact hK
            · conv => whnf
              refine vIfD h (fun h => ?_) (fun h => ?_)
              · conv => whnf
                refine vIfB h (fun h => ?_) (fun h => ?_)
                · conv => whnf
                  refine vIfD h (fun h => ?_) (fun h => ?_)
                  · conv => whnf
                    refine vAt h (fun x1 he10a he10b he10x h => ?_)
                    conv => whnf
                    refine vNots ?_
                    refine vIfB h (fun h => ?_) (fun h => ?_)
                    · conv => whnf
                      cases h
                      exact hK
                    · conv => whnf
                      refine vIfD h (fun h => ?_) (fun h => ?_)
                      · conv => whnf
                        refine vBind h (fun l03Tables0 hb11 h => ?_)
                        conv => whnf
                        refine vIfB h (fun h => ?_) (fun h => ?_)
                        · conv => whnf
                          cases h
                          exact hK
                        · conv => whnf
                          cases h
                          exact hK
                      · conv => whnf
                        cases h
                        exact hK
                  · conv => whnf
                    cases h
                    exact hK
                · conv => whnf
                  cases h
                  exact hK
              · conv => whnf
                cases h
                exact hK
        · conv => whnf
          refine vIfD h (fun h => ?_) (fun h => ?_)
          · conv => whnf
            refine vIfB h (fun h => ?_) (fun h => ?_)
            · conv => whnf
              refine vIfD h (fun h => ?_) (fun h => ?_)
              · conv => whnf
                refine vIfD h (fun h => ?_) (fun h => ?_)
                · conv => whnf
                  refine vBind h (fun l03Tables0 hb12 h => ?_)
                  conv => whnf
                  refine vIfB h (fun h => ?_) (fun h => ?_)
                  · conv => whnf
                    refine vBind h (fun l03Tables1 hb13 h => ?_)
                    conv => whnf
                    cases h
                    exact hK
                  · conv => whnf
                    cases h
                    exact hK
                · conv => whnf
                  cases h
                  exact hK
              · conv => whnf
                cases h
                exact hK
            · conv => whnf
              cases h
              exact hK
          · conv => whnf
            refine vIfD h (fun h => ?_) (fun h => ?_)
            · conv => whnf
              refine vIfD h (fun h => ?_) (fun h => ?_)
              · conv => whnf
                refine vIfB h (fun h => ?_) (fun h => ?_)
                · conv => whnf
                  refine vIfD h (fun h => ?_) (fun h => ?_)
                  · conv => whnf
                    refine vAt h (fun x1 he14a he14b he14x h => ?_)
                    conv => whnf
                    refine vNots ?_
                    refine vIfB h (fun h => ?_) (fun h => ?_)
                    · conv => whnf
                      cases h
                      exact hK
                    · conv => whnf
                      refine vIfD h (fun h => ?_) (fun h => ?_)
                      · conv => whnf
                        refine vBind h (fun l03Tables0 hb15 h => ?_)
                        conv => whnf
                        refine vIfB h (fun h => ?_) (fun h => ?_)
                        · conv => whnf
                          cases h
                          exact hK
                        · conv => whnf
                          cases h
                          exact hK
                      · conv => whnf
                        cases h
                        exact hK
                  · conv => whnf
                    cases h
                    exact hK
                · conv => whnf
                  cases h
                  exact hK
              · conv => whnf
                cases h
                exact hK
            · conv => whnf
              refine vIfD h (fun h => ?_) (fun h => ?_)
              · conv => whnf
                refine vIfB h (fun h => ?_) (fun h => ?_)
                · conv => whnf
                  refine vIfD h (fun h => ?_) (fun h => ?_)
                  · conv => whnf
                    refine vAt h (fun x1 he16a he16b he16x h => ?_)
                    conv => whnf
                    refine vNots ?_
                    refine vIfB h (fun h => ?_) (fun h => ?_)
                    · conv => whnf
                      cases h
                      exact hK
                    · conv => whnf
                      refine vIfD h (fun h => ?_) (fun h => ?_)
                      · conv => whnf
                        refine vBind h (fun l03Tables0 hb17 h => ?_)
                        conv => whnf
                        refine vIfB h (fun h => ?_) (fun h => ?_)
                        · conv => whnf
                          cases h
                          exact hK
                        · conv => whnf
                          cases h
                          exact hK
                      · conv => whnf
                        cases h
                        exact hK
                  · conv => whnf
                    cases h
                    exact hK
                · conv => whnf
                  cases h
                  exact hK
              · conv => whnf
                cases h
                exact hK
    · conv => whnf
      cases h
      exact hK
  · conv => whnf
    cases h
    exact hK
theorem w_spec_l14Primary (q0 : SoundC Tryz.prog 60 c_spec_l01In) : SoundC Tryz.prog 59 c_spec_l14Primary := by
  refine fn_sound tab_ok (gam_cons q0 gam_nil) mixed {} (fn := Tryz.f59) Tryz.func59 (by kernel_rfl) (by kernel_rfl) ?_
  rintro ⟨c0, ⟨⟩⟩ K ⟨r, h, hK⟩
  change spec_l14Primary c0 = some r at h
  unfold spec_l14Primary at h
  conv => whnf
  refine vBind h (fun l01In0 hb0 h => ?_)
  conv => whnf
  refine vIfB h (fun h => ?_) (fun h => ?_)
  · conv => whnf
    refine vBind h (fun l01In1 hb1 h => ?_)
    conv => whnf
    refine vIfB h (fun h => ?_) (fun h => ?_)
    · conv => whnf
      refine vBind h (fun l01In2 hb2 h => ?_)
      conv => whnf
      refine vIfB h (fun h => ?_) (fun h => ?_)
      · conv => whnf
        refine vNots ?_
        refine vIfD h (fun h => ?_) (fun h => ?_)
        · conv => whnf
          cases h
          exact hK
        · conv => whnf
          refine vIfD h (fun h => ?_) (fun h => ?_)
          · conv => whnf
            cases h
            exact hK
          · conv => whnf
            cases h
            exact hK
      · conv => whnf
        cases h
        exact hK
    · conv => whnf
      cases h
      exact hK
  · conv => whnf
    cases h
    exact hK
end Go.Proofs.YtmlloomodhhefaaGreatDoor
