/-
  The functions keep their contracts, if what they call does. Printed by program.
-/
import Derived.Test.YtmlloomodhhefaaGreatDoorM
import Derived.KernelRfl
namespace Go.Proofs.YtmlloomodhhefaaGreatDoor
open Go Go.Sx
set_option maxRecDepth 100000
set_option linter.unusedVariables false
set_option linter.unusedSimpArgs false
theorem w_impl_Block_cellLinks (q0 : SoundC Tryz.prog 131 c_impl_Arc_transitions) : SoundC Tryz.prog 77 c_impl_Block_cellLinks := by
  refine fn_sound tab_ok (gam_cons q0 gam_nil) mixed { loops := [(0, [.reg 7 (.own (.ol 162 (.flat (tLink)))), .reg 21 (.dat (.int .i64))]), (2, [.reg 7 (.own (.ol 162 (.flat (tLink)))), .reg 29 (.dat (.int .i64))])] } (fn := Tryz.f77) Tryz.func77 (by kernel_rfl) (by kernel_rfl) ?_
  rintro ⟨b0, x0, first0, ⟨⟩⟩ K ⟨r, h, hK⟩
  change impl_Block_cellLinks b0 x0 first0 = some r at h
  unfold impl_Block_cellLinks at h
  conv => whnf
  refine vAt h (fun x1 he0a he0b he0x h => ?_)
  conv => whnf
  refine vLoop h ?_
  rintro I1 μ1 ⟨list0, v0, ⟨⟩⟩ zs1 h hI1 hR1
  change impl_Block_cellLinks_loop1 first0 x1 list0 v0 = some zs1 at h
  unfold impl_Block_cellLinks_loop1 at h
  conv => whnf
  refine vIfD h (fun h => ?_) (fun h => ?_)
  · conv => whnf
    refine vAt h (fun x2 he2a he2b he2x h => ?_)
    conv => whnf
    refine vBind h (fun transitions0 hb3 h => ?_)
    conv => whnf
    refine vLoop h ?_
    rintro I4 μ4 ⟨list1, v1, ⟨⟩⟩ zs4 h hI4 hR4
    change impl_Block_cellLinks_loop0 first0 v0 x2 transitions0 list1 v1 = some zs4 at h
    unfold impl_Block_cellLinks_loop0 at h
    conv => whnf
    refine vIfD h (fun h => ?_) (fun h => ?_)
    · conv => whnf
      refine vAt h (fun x3 he5a he5b he5x h => ?_)
      conv => whnf
      refine ⟨by kernel_rfl, ?_⟩
      conv => whnf
      refine ⟨he5a, he5b, vAgain he5x ?_⟩
      conv => whnf
      refine vPre h (fun hp6 h => ?_)
      conv => whnf
      cases h
      exact ⟨⟨rfl, rfl⟩, hI4 _ rfl⟩
    · conv => whnf
      cases h
      obtain rfl := hR4 _ rfl
      exact ⟨⟨rfl, rfl⟩, hI1 _ rfl⟩
  · conv => whnf
    cases h
    obtain rfl := hR1 _ rfl
    exact hK
theorem w_impl_Cell_clock_c1 : SoundC Tryz.prog 255 c_impl_Cell_clock_c1 := by
  refine fn_sound tab_ok gam_nil mixed {} (fn := Tryz.f255) Tryz.func255 (by kernel_rfl) (by kernel_rfl) ?_
  rintro ⟨p0, ⟨⟩⟩ K ⟨r, h, hK⟩
  change impl_Cell_clock_c1 p0 = some r at h
  unfold impl_Cell_clock_c1 at h
  conv => whnf
  cases h
  exact hK
theorem w_impl_IsBlock (q1 : SoundC Tryz.prog 74 c_impl_IsDesign) (q0 : SoundC Tryz.prog 75 c_impl_Design_places) (q2 : SoundC Tryz.prog 76 c_impl_IsWire) : SoundC Tryz.prog 35 c_impl_IsBlock := by
  refine fn_sound tab_ok (gam_cons q1 (gam_cons q0 (gam_cons q2 gam_nil))) mixed { loops := [(0, [.reg 32 (.dat (.int .i64)), .ent 1 (nat_lit 2) (.flat ti79.ety)]), (2, [.reg 50 (.dat (.int .i64))])], draws := [(13, [0, 0, 0, 6, 14, 31, 63], .op 0 (.op 1 (.op 2 (.op 3 (.op 4 (.alt 5 (.op 6 (.done)) (.done)))))))] } (fn := Tryz.f35) Tryz.func35 (by kernel_rfl) (by kernel_rfl) ?_
  rintro ⟨b0, ⟨⟩⟩ K ⟨r, h, hK⟩
  change impl_IsBlock b0 = some r at h
  unfold impl_IsBlock at h
  conv => whnf
  refine vBind h (fun IsDesign0 hb0 h => ?_)
  conv => whnf
  refine vNot ?_
  refine vIfB h (fun h => ?_) (fun h => ?_)
  · conv => whnf
    refine vNots ?_
    refine vIfD h (fun h => ?_) (fun h => ?_)
    · conv => whnf
      refine vPre h (fun hp1 h => ?_)
      conv => whnf
      refine vPre h (fun hp2 h => ?_)
      conv => whnf
      refine vPre h (fun hp3 h => ?_)
      conv => whnf
      refine vPre h (fun hp4 h => ?_)
      conv => whnf
      refine vBind h (fun places0 hb5 h => ?_)
      conv => whnf
      refine vLoop h ?_
      rintro I6 μ6 ⟨v0, l0, ⟨⟩⟩ zs6 h hI6 hR6
      change impl_IsBlock_loop1 b0 places0 v0 l0 = some zs6 at h
      unfold impl_IsBlock_loop1 at h
      conv => whnf
      refine vIfD h (fun h => ?_) (fun h => ?_)
      · conv => whnf
        refine vAt h (fun x0 he7a he7b he7x h => ?_)
        conv => whnf
        refine ⟨by kernel_rfl, ?_⟩
        conv => whnf
        refine ⟨he7a, he7b, vAgain he7x ?_⟩
        conv => whnf
        refine vNots ?_
        refine vIfB h (fun h => ?_) (fun h => ?_)
        · conv => whnf
          cases h
          exact ⟨⟨rfl, rfl⟩, hI6 _ rfl⟩
        · conv => whnf
          refine vAt h (fun x1 he8a he8b he8x h => ?_)
          conv => whnf
          refine ⟨by kernel_rfl, ?_⟩
          conv => whnf
          refine ⟨he8a, he8b, vAgain he8x ?_⟩
          conv => whnf
          refine ⟨he8a, he8b, vAgain he8x ?_⟩
          conv => whnf
          refine ⟨by kernel_rfl, ?_⟩
          conv => whnf
          refine ⟨by decide, ?_⟩
          conv => whnf
          refine ⟨he8a, he8b, vAgain he8x ?_⟩
          conv => whnf
          cases h
          exact ⟨⟨rfl, rfl⟩, hI6 _ rfl⟩
      · conv => whnf
        refine vLoop h ?_
        rintro I9 μ9 ⟨v1, ⟨⟩⟩ zs9 h hI9 hR9
        change impl_IsBlock_loop0 b0 l0 v1 = some zs9 at h
        unfold impl_IsBlock_loop0 at h
        conv => whnf
        refine vIfD h (fun h => ?_) (fun h => ?_)
        · conv => whnf
          refine vAt h (fun x0 he10a he10b he10x h => ?_)
          conv => whnf
          refine ⟨by kernel_rfl, ?_⟩
          conv => whnf
          refine vAt h (fun x1 he11a he11b he11x h => ?_)
          conv => whnf
          refine ⟨by kernel_rfl, ?_⟩
          conv => whnf
          refine ⟨he11a, he11b, vAgain he11x ?_⟩
          conv => whnf
          refine vBind h (fun IsWire0 hb12 h => ?_)
          conv => whnf
          refine vNots ?_
          refine vIfB h (fun h => ?_) (fun h => ?_)
          · conv => whnf
            cases h
            exact ⟨⟨rfl, rfl⟩, hI9 _ rfl⟩
          · conv => whnf
            cases h
            obtain rfl := hR9 _ rfl
            obtain rfl := hR6 _ rfl
            exact hK
        · conv => whnf
          cases h
          obtain rfl := hR9 _ rfl
          obtain rfl := hR6 _ rfl
          exact hK
    · conv => whnf
      cases h
      exact hK
  · conv => whnf
    cases h
    exact hK
theorem w_impl_areFactors : SoundC Tryz.prog 177 c_impl_areFactors := by
  refine fn_sound tab_ok gam_nil mixed {} (fn := Tryz.f177) Tryz.func177 (by kernel_rfl) (by kernel_rfl) ?_
  rintro ⟨early0, late0, ⟨⟩⟩ K ⟨r, h, hK⟩
  change impl_areFactors early0 late0 = some r at h
  unfold impl_areFactors at h
  conv => whnf
  refine vIfD h (fun h => ?_) (fun h => ?_)
  · conv => whnf
    refine vIfD h (fun h => ?_) (fun h => ?_)
    · conv => whnf
      cases h
      exact hK
    · conv => whnf
      cases h
      exact hK
  · conv => whnf
    cases h
    exact hK
theorem w_impl_isClock (q1 : SoundC Tryz.prog 128 c_impl_within) (q0 : SoundC Tryz.prog 171 c_impl_Clock_isPrimary) (q2 : SoundC Tryz.prog 172 c_impl_waveOf) : SoundC Tryz.prog 136 c_impl_isClock := by
  refine fn_sound tab_ok (gam_cons q1 (gam_cons q0 (gam_cons q2 gam_nil))) mixed {} (fn := Tryz.f136) Tryz.func136 (by kernel_rfl) (by kernel_rfl) ?_
  rintro ⟨a0, a1, ⟨⟩⟩ K ⟨r, h, hK⟩
  change impl_isClock a0 a1 = some r at h
  unfold impl_isClock at h
  conv => whnf
  refine vAt h (fun x0 he0a he0b he0x h => ?_)
  conv => whnf
  refine vIfDs h (fun h => ?_) (fun h => ?_)
  · conv => whnf
    cases h
    exact hK
  · conv => whnf
    refine vIfDs h (fun h => ?_) (fun h => ?_)
    · conv => whnf
      cases h
      exact hK
    · conv => whnf
      refine vIfDs h (fun h => ?_) (fun h => ?_)
      · conv => whnf
        cases h
        exact hK
      · conv => whnf
        refine vIfDs h (fun h => ?_) (fun h => ?_)
        · conv => whnf
          cases h
          exact hK
        · conv => whnf
          refine vBind h (fun within0 hb1 h => ?_)
          conv => whnf
          refine vNots ?_
          refine vIfB h (fun h => ?_) (fun h => ?_)
          · conv => whnf
            refine vIfD h (fun h => ?_) (fun h => ?_)
            · conv => whnf
              refine vBind h (fun isPrimary0 hb2 h => ?_)
              conv => whnf
              cases h
              exact hK
            · conv => whnf
              refine vBind h (fun within1 hb3 h => ?_)
              conv => whnf
              refine vIfB h (fun h => ?_) (fun h => ?_)
              · conv => whnf
                refine vBind h (fun within2 hb4 h => ?_)
                conv => whnf
                refine vIfB h (fun h => ?_) (fun h => ?_)
                · conv => whnf
                  refine vIfD h (fun h => ?_) (fun h => ?_)
                  · conv => whnf
                    refine vIfD h (fun h => ?_) (fun h => ?_)
                    · conv => whnf
                      refine vIfD h (fun h => ?_) (fun h => ?_)
                      · conv => whnf
                        refine vBind h (fun waveOf0 hb5 h => ?_)
                        conv => whnf
                        cases h
                        exact hK
                      · conv => whnf
                        cases h
                        exact hK
                    · conv => whnf
                      cases h
                      exact hK
                  · conv => whnf
                    cases h
                    exact hK
                · conv => whnf
                  cases h
                  exact hK
              · conv => whnf
                cases h
                exact hK
          · conv => whnf
            cases h
            exact hK
theorem w_impl_isIncreasing : SoundC Tryz.prog 144 c_impl_isIncreasing := by
  refine fn_sound tab_ok gam_nil mixed { loops := [(0, [.reg 3 (.dat (.int .i64))])], draws := [(4, [0, 0, 2, 7, 15, 0, 0, 96, 224, 511], .op 0 (.op 1 (.op 2 (.op 3 (.op 4 (.op 5 (.op 6 (.op 7 (.op 8 (.op 9 (.done)))))))))))] } (fn := Tryz.f144) Tryz.func144 (by kernel_rfl) (by kernel_rfl) ?_
  rintro ⟨list0, ⟨⟩⟩ K ⟨r, h, hK⟩
  change impl_isIncreasing list0 = some r at h
  unfold impl_isIncreasing at h
  conv => whnf
  refine vLoop h ?_
  rintro I0 μ0 ⟨i0, ⟨⟩⟩ zs0 h hI0 hR0
  change impl_isIncreasing_loop0 list0 i0 = some zs0 at h
  unfold impl_isIncreasing_loop0 at h
  conv => whnf
  refine vIfD h (fun h => ?_) (fun h => ?_)
  · conv => whnf
    refine ⟨by kernel_rfl, ?_⟩
    conv => whnf
    refine vAt h (fun x0 he1a he1b he1x h => ?_)
    conv => whnf
    refine vAt h (fun x1 he2a he2b he2x h => ?_)
    conv => whnf
    refine vIfD h (fun h => ?_) (fun h => ?_)
    · conv => whnf
      cases h
      obtain rfl := hR0 _ rfl
      exact hK
    · conv => whnf
      cases h
      exact ⟨⟨rfl, rfl⟩, hI0 _ rfl⟩
  · conv => whnf
    cases h
    obtain rfl := hR0 _ rfl
    exact hK
theorem w_laws_eqArcS (q0 : SoundC Tryz.prog 200 c_laws_eqArc) : SoundC Tryz.prog 179 c_laws_eqArcS := by
  refine fn_sound tab_ok (gam_cons q0 gam_nil) mixed { loops := [(0, [.reg 5 (.dat (.int .i64))])], draws := [(6, [0, 0, 3, 7, 0, 0, 48, 112, 255, 511], .op 0 (.op 1 (.op 2 (.op 3 (.op 4 (.op 5 (.op 6 (.op 7 (.alt 8 (.op 9 (.done)) (.done))))))))))] } (fn := Tryz.f179) Tryz.func179 (by kernel_rfl) (by kernel_rfl) ?_
  rintro ⟨a0, b0, ⟨⟩⟩ K ⟨r, h, hK⟩
  change laws_eqArcS a0 b0 = some r at h
  unfold laws_eqArcS at h
  conv => whnf
  refine vNots ?_
  refine vIfD h (fun h => ?_) (fun h => ?_)
  · conv => whnf
    refine vLoop h ?_
    rintro I0 μ0 ⟨i0, ⟨⟩⟩ zs0 h hI0 hR0
    change laws_eqArcS_loop0 a0 b0 i0 = some zs0 at h
    unfold laws_eqArcS_loop0 at h
    conv => whnf
    refine vIfD h (fun h => ?_) (fun h => ?_)
    · conv => whnf
      refine ⟨by kernel_rfl, ?_⟩
      conv => whnf
      refine vAt h (fun x0 he1a he1b he1x h => ?_)
      conv => whnf
      refine vAt h (fun x1 he2a he2b he2x h => ?_)
      conv => whnf
      refine vBind h (fun eqArc0 hb3 h => ?_)
      conv => whnf
      refine vNots ?_
      refine vIfB h (fun h => ?_) (fun h => ?_)
      · conv => whnf
        cases h
        exact ⟨⟨rfl, rfl⟩, hI0 _ rfl⟩
      · conv => whnf
        cases h
        obtain rfl := hR0 _ rfl
        exact hK
    · conv => whnf
      cases h
      obtain rfl := hR0 _ rfl
      exact hK
  · conv => whnf
    cases h
    exact hK
theorem w_laws_eqClock : SoundC Tryz.prog 96 c_laws_eqClock := by
  refine fn_sound tab_ok gam_nil mixed {} (fn := Tryz.f96) Tryz.func96 (by kernel_rfl) (by kernel_rfl) ?_
  rintro ⟨a0, b0, ⟨⟩⟩ K ⟨r, h, hK⟩
  change laws_eqClock a0 b0 = some r at h
  unfold laws_eqClock at h
  conv => whnf
  refine vNots ?_
  refine vIfD h (fun h => ?_) (fun h => ?_)
  · conv => whnf
    refine vNots ?_
    refine vIfD h (fun h => ?_) (fun h => ?_)
    · conv => whnf
      refine vNots ?_
      refine vIfD h (fun h => ?_) (fun h => ?_)
      · conv => whnf
        refine vNots ?_
        refine vIfD h (fun h => ?_) (fun h => ?_)
        · conv => whnf
          refine vNots ?_
          refine vIfD h (fun h => ?_) (fun h => ?_)
          · conv => whnf
            refine vNots ?_
            refine vIfD h (fun h => ?_) (fun h => ?_)
            · conv => whnf
              refine vNots ?_
              refine vIfD h (fun h => ?_) (fun h => ?_)
              · conv => whnf
                refine vNots ?_
                refine vIfB h (fun h => ?_) (fun h => ?_)
                · conv => whnf
                  refine vNots ?_
                  refine vIfD h (fun h => ?_) (fun h => ?_)
                  · conv => whnf
                    refine vNots ?_
                    refine vIfD h (fun h => ?_) (fun h => ?_)
                    · conv => whnf
                      refine vNots ?_
                      refine vIfD h (fun h => ?_) (fun h => ?_)
                      · conv => whnf
                        cases h
                        exact hK
                      · conv => whnf
                        cases h
                        exact hK
                    · conv => whnf
                      cases h
                      exact hK
                  · conv => whnf
                    cases h
                    exact hK
                · conv => whnf
                  cases h
                  exact hK
              · conv => whnf
                cases h
                exact hK
            · conv => whnf
              cases h
              exact hK
          · conv => whnf
            cases h
            exact hK
        · conv => whnf
          cases h
          exact hK
      · conv => whnf
        cases h
        exact hK
    · conv => whnf
      cases h
      exact hK
  · conv => whnf
    cases h
    exact hK
theorem w_laws_eqCornerS (q0 : SoundC Tryz.prog 99 c_laws_eqCorner) : SoundC Tryz.prog 44 c_laws_eqCornerS := by
  refine fn_sound tab_ok (gam_cons q0 gam_nil) mixed { loops := [(0, [.reg 5 (.dat (.int .i64))])], draws := [(6, [0, 0, 3, 7, 0, 0, 48, 112, 255, 511], .op 0 (.op 1 (.op 2 (.op 3 (.op 4 (.op 5 (.op 6 (.op 7 (.alt 8 (.op 9 (.done)) (.done))))))))))] } (fn := Tryz.f44) Tryz.func44 (by kernel_rfl) (by kernel_rfl) ?_
  rintro ⟨a0, b0, ⟨⟩⟩ K ⟨r, h, hK⟩
  change laws_eqCornerS a0 b0 = some r at h
  unfold laws_eqCornerS at h
  conv => whnf
  refine vNots ?_
  refine vIfD h (fun h => ?_) (fun h => ?_)
  · conv => whnf
    refine vLoop h ?_
    rintro I0 μ0 ⟨i0, ⟨⟩⟩ zs0 h hI0 hR0
    change laws_eqCornerS_loop0 a0 b0 i0 = some zs0 at h
    unfold laws_eqCornerS_loop0 at h
    conv => whnf
    refine vIfD h (fun h => ?_) (fun h => ?_)
    · conv => whnf
      refine ⟨by kernel_rfl, ?_⟩
      conv => whnf
      refine vAt h (fun x0 he1a he1b he1x h => ?_)
      conv => whnf
      refine vAt h (fun x1 he2a he2b he2x h => ?_)
      conv => whnf
      refine vBind h (fun eqCorner0 hb3 h => ?_)
      conv => whnf
      refine vNots ?_
      refine vIfB h (fun h => ?_) (fun h => ?_)
      · conv => whnf
        cases h
        exact ⟨⟨rfl, rfl⟩, hI0 _ rfl⟩
      · conv => whnf
        cases h
        obtain rfl := hR0 _ rfl
        exact hK
    · conv => whnf
      cases h
      obtain rfl := hR0 _ rfl
      exact hK
  · conv => whnf
    cases h
    exact hK
theorem w_laws_eqExternal (q0 : SoundC Tryz.prog 151 c_laws_eqSpan) : SoundC Tryz.prog 97 c_laws_eqExternal := by
  refine fn_sound tab_ok (gam_cons q0 gam_nil) mixed {} (fn := Tryz.f97) Tryz.func97 (by kernel_rfl) (by kernel_rfl) ?_
  rintro ⟨a0, b0, ⟨⟩⟩ K ⟨r, h, hK⟩
  change laws_eqExternal a0 b0 = some r at h
  unfold laws_eqExternal at h
  conv => whnf
  refine vNots ?_
  refine vIfD h (fun h => ?_) (fun h => ?_)
  · conv => whnf
    refine vNots ?_
    refine vIfD h (fun h => ?_) (fun h => ?_)
    · conv => whnf
      refine vBind h (fun eqSpan0 hb0 h => ?_)
      conv => whnf
      refine vNots ?_
      refine vIfB h (fun h => ?_) (fun h => ?_)
      · conv => whnf
        refine vBind h (fun eqSpan1 hb1 h => ?_)
        conv => whnf
        refine vNots ?_
        refine vIfB h (fun h => ?_) (fun h => ?_)
        · conv => whnf
          cases h
          exact hK
        · conv => whnf
          cases h
          exact hK
      · conv => whnf
        cases h
        exact hK
    · conv => whnf
      cases h
      exact hK
  · conv => whnf
    cases h
    exact hK
theorem w_laws_eqInstanceS (q0 : SoundC Tryz.prog 148 c_laws_eqInstance) : SoundC Tryz.prog 92 c_laws_eqInstanceS := by
  refine fn_sound tab_ok (gam_cons q0 gam_nil) mixed { loops := [(0, [.reg 5 (.dat (.int .i64))])], draws := [(6, [0, 0, 3, 7, 0, 0, 48, 112, 255, 511], .op 0 (.op 1 (.op 2 (.op 3 (.op 4 (.op 5 (.op 6 (.op 7 (.alt 8 (.op 9 (.done)) (.done))))))))))] } (fn := Tryz.f92) Tryz.func92 (by kernel_rfl) (by kernel_rfl) ?_
  rintro ⟨a0, b0, ⟨⟩⟩ K ⟨r, h, hK⟩
  change laws_eqInstanceS a0 b0 = some r at h
  unfold laws_eqInstanceS at h
  conv => whnf
  refine vNots ?_
  refine vIfD h (fun h => ?_) (fun h => ?_)
  · conv => whnf
    refine vLoop h ?_
    rintro I0 μ0 ⟨i0, ⟨⟩⟩ zs0 h hI0 hR0
    change laws_eqInstanceS_loop0 a0 b0 i0 = some zs0 at h
    unfold laws_eqInstanceS_loop0 at h
    conv => whnf
    refine vIfD h (fun h => ?_) (fun h => ?_)
    · conv => whnf
      refine ⟨by kernel_rfl, ?_⟩
      conv => whnf
      refine vAt h (fun x0 he1a he1b he1x h => ?_)
      conv => whnf
      refine vAt h (fun x1 he2a he2b he2x h => ?_)
      conv => whnf
      refine vBind h (fun eqInstance0 hb3 h => ?_)
      conv => whnf
      refine vNots ?_
      refine vIfB h (fun h => ?_) (fun h => ?_)
      · conv => whnf
        cases h
        exact ⟨⟨rfl, rfl⟩, hI0 _ rfl⟩
      · conv => whnf
        cases h
        obtain rfl := hR0 _ rfl
        exact hK
    · conv => whnf
      cases h
      obtain rfl := hR0 _ rfl
      exact hK
  · conv => whnf
    cases h
    exact hK
theorem w_laws_eqSetup (q3 : SoundC Tryz.prog 41 c_laws_eqClockS) (q1 : SoundC Tryz.prog 42 c_laws_eqExternalS) (q0 : SoundC Tryz.prog 43 c_laws_eqExceptionS) (q2 : SoundC Tryz.prog 44 c_laws_eqCornerS) : SoundC Tryz.prog 12 c_laws_eqSetup := by
  refine fn_sound tab_ok (gam_cons q3 (gam_cons q1 (gam_cons q0 (gam_cons q2 gam_nil)))) mixed {} (fn := Tryz.f12) Tryz.func12 (by kernel_rfl) (by kernel_rfl) ?_
  rintro ⟨a0, b0, ⟨⟩⟩ K ⟨r, h, hK⟩
  change laws_eqSetup a0 b0 = some r at h
  unfold laws_eqSetup at h
  conv => whnf
  refine vBind h (fun eqClockS0 hb0 h => ?_)
  conv => whnf
  refine vNots ?_
  refine vIfB h (fun h => ?_) (fun h => ?_)
  · conv => whnf
    refine vBind h (fun eqExternalS0 hb1 h => ?_)
    conv => whnf
    refine vNots ?_
    refine vIfB h (fun h => ?_) (fun h => ?_)
    · conv => whnf
      refine vBind h (fun eqExternalS1 hb2 h => ?_)
      conv => whnf
      refine vNots ?_
      refine vIfB h (fun h => ?_) (fun h => ?_)
      · conv => whnf
        refine vBind h (fun eqExceptionS0 hb3 h => ?_)
        conv => whnf
        refine vNots ?_
        refine vIfB h (fun h => ?_) (fun h => ?_)
        · conv => whnf
          refine vBind h (fun eqCornerS0 hb4 h => ?_)
          conv => whnf
          refine vNots ?_
          refine vIfB h (fun h => ?_) (fun h => ?_)
          · conv => whnf
            cases h
            exact hK
          · conv => whnf
            cases h
            exact hK
        · conv => whnf
          cases h
          exact hK
      · conv => whnf
        cases h
        exact hK
    · conv => whnf
      cases h
      exact hK
  · conv => whnf
    cases h
    exact hK
theorem w_laws_szCell (q1 : SoundC Tryz.prog 159 c_laws_szPinS) (q2 : SoundC Tryz.prog 160 c_laws_szArcS) (q0 : SoundC Tryz.prog 111 c_laws_szInt64S) : SoundC Tryz.prog 108 c_laws_szCell := by
  refine fn_sound tab_ok (gam_cons q1 (gam_cons q2 (gam_cons q0 gam_nil))) mixed {} (fn := Tryz.f108) Tryz.func108 (by kernel_rfl) (by kernel_rfl) ?_
  rintro ⟨a0, left0, ⟨⟩⟩ K ⟨r, h, hK⟩
  change laws_szCell a0 left0 = some r at h
  unfold laws_szCell at h
  conv => whnf
  refine vIfD h (fun h => ?_) (fun h => ?_)
  · conv => whnf
    cases h
    exact hK
  · conv => whnf
    refine vBind h (fun szPinS0 hb0 h => ?_)
    conv => whnf
    refine vIfD h (fun h => ?_) (fun h => ?_)
    · conv => whnf
      cases h
      exact hK
    · conv => whnf
      refine vBind h (fun szArcS0 hb1 h => ?_)
      conv => whnf
      refine vIfD h (fun h => ?_) (fun h => ?_)
      · conv => whnf
        cases h
        exact hK
      · conv => whnf
        refine vBind h (fun szInt64S0 hb2 h => ?_)
        conv => whnf
        refine vIfD h (fun h => ?_) (fun h => ?_)
        · conv => whnf
          cases h
          exact hK
        · conv => whnf
          cases h
          exact hK
theorem w_laws_szClock : SoundC Tryz.prog 52 c_laws_szClock := by
  refine fn_sound tab_ok gam_nil mixed {} (fn := Tryz.f52) Tryz.func52 (by kernel_rfl) (by kernel_rfl) ?_
  rintro ⟨a0, left0, ⟨⟩⟩ K ⟨r, h, hK⟩
  change laws_szClock a0 left0 = some r at h
  unfold laws_szClock at h
  conv => whnf
  refine vIfD h (fun h => ?_) (fun h => ?_)
  · conv => whnf
    cases h
    exact hK
  · conv => whnf
    cases h
    exact hK
theorem w_laws_szCorner : SoundC Tryz.prog 54 c_laws_szCorner := by
  refine fn_sound tab_ok gam_nil mixed {} (fn := Tryz.f54) Tryz.func54 (by kernel_rfl) (by kernel_rfl) ?_
  rintro ⟨a0, left0, ⟨⟩⟩ K ⟨r, h, hK⟩
  change laws_szCorner a0 left0 = some r at h
  unfold laws_szCorner at h
  conv => whnf
  refine vIfD h (fun h => ?_) (fun h => ?_)
  · conv => whnf
    cases h
    exact hK
  · conv => whnf
    cases h
    exact hK
theorem w_laws_szInstance (q0 : SoundC Tryz.prog 111 c_laws_szInt64S) : SoundC Tryz.prog 109 c_laws_szInstance := by
  refine fn_sound tab_ok (gam_cons q0 gam_nil) mixed {} (fn := Tryz.f109) Tryz.func109 (by kernel_rfl) (by kernel_rfl) ?_
  rintro ⟨a0, left0, ⟨⟩⟩ K ⟨r, h, hK⟩
  change laws_szInstance a0 left0 = some r at h
  unfold laws_szInstance at h
  conv => whnf
  refine vIfD h (fun h => ?_) (fun h => ?_)
  · conv => whnf
    cases h
    exact hK
  · conv => whnf
    refine vBind h (fun szInt64S0 hb0 h => ?_)
    conv => whnf
    refine vIfD h (fun h => ?_) (fun h => ?_)
    · conv => whnf
      cases h
      exact hK
    · conv => whnf
      cases h
      exact hK
theorem w_laws_szPortS (q0 : SoundC Tryz.prog 110 c_laws_szPort) : SoundC Tryz.prog 50 c_laws_szPortS := by
  refine fn_sound tab_ok (gam_cons q0 gam_nil) mixed { loops := [(0, [.reg 1 (.dat (.int .i64)), .reg 5 (.dat (.int .i64))])] } (fn := Tryz.f50) Tryz.func50 (by kernel_rfl) (by kernel_rfl) ?_
  rintro ⟨a0, left0, ⟨⟩⟩ K ⟨r, h, hK⟩
  change laws_szPortS a0 left0 = some r at h
  unfold laws_szPortS at h
  conv => whnf
  refine vIfD h (fun h => ?_) (fun h => ?_)
  · conv => whnf
    cases h
    exact hK
  · conv => whnf
    refine vLoop h ?_
    rintro I0 μ0 ⟨left1, i0, ⟨⟩⟩ zs0 h hI0 hR0
    change laws_szPortS_loop0 a0 left1 i0 = some zs0 at h
    unfold laws_szPortS_loop0 at h
    conv => whnf
    refine vIfD h (fun h => ?_) (fun h => ?_)
    · conv => whnf
      refine vAt h (fun x0 he1a he1b he1x h => ?_)
      conv => whnf
      refine vBind h (fun szPort0 hb2 h => ?_)
      conv => whnf
      refine vIfD h (fun h => ?_) (fun h => ?_)
      · conv => whnf
        cases h
        obtain rfl := hR0 _ rfl
        exact hK
      · conv => whnf
        cases h
        exact ⟨⟨rfl, rfl⟩, hI0 _ rfl⟩
    · conv => whnf
      cases h
      obtain rfl := hR0 _ rfl
      exact hK
theorem w_laws_toBlock (q0 : SoundC Tryz.prog 28 c_laws_toLibrary) (q1 : SoundC Tryz.prog 29 c_laws_toDesign) (q2 : SoundC Tryz.prog 30 c_laws_toWireS) : SoundC Tryz.prog 8 c_laws_toBlock := by
  refine fn_sound tabD_ok (gam_cons q0 (gam_cons q1 (gam_cons q2 gam_nil))) mixed {} (fn := Tryz.f8) Tryz.func8 (by kernel_rfl) (by kernel_rfl) ?_
  rintro ⟨a0, ⟨⟩⟩ K ⟨r, h, hK⟩
  change laws_toBlock a0 = some r at h
  unfold laws_toBlock at h
  conv => whnf
  refine vBind h (fun toLibrary0 hb0 h => ?_)
  conv => whnf
  intro fp1
  conv => whnf
  refine vBind h (fun toDesign0 hb2 h => ?_)
  conv => whnf
  intro fp3
  conv => whnf
  refine vBind h (fun toWireS0 hb4 h => ?_)
  conv => whnf
  intro fp5
  conv => whnf
  cases h
  exact hK
theorem w_laws_toClock : SoundC Tryz.prog 70 c_laws_toClock := by
  refine fn_sound tab_ok gam_nil mixed {} (fn := Tryz.f70) Tryz.func70 (by kernel_rfl) (by kernel_rfl) ?_
  rintro ⟨a0, ⟨⟩⟩ K ⟨r, h, hK⟩
  change laws_toClock a0 = some r at h
  unfold laws_toClock at h
  conv => whnf
  cases h
  exact hK
theorem w_laws_toExternal (q0 : SoundC Tryz.prog 121 c_laws_toSpan) : SoundC Tryz.prog 71 c_laws_toExternal := by
  refine fn_sound tab_ok (gam_cons q0 gam_nil) mixed {} (fn := Tryz.f71) Tryz.func71 (by kernel_rfl) (by kernel_rfl) ?_
  rintro ⟨a0, ⟨⟩⟩ K ⟨r, h, hK⟩
  change laws_toExternal a0 = some r at h
  unfold laws_toExternal at h
  conv => whnf
  refine vBind h (fun toSpan0 hb0 h => ?_)
  conv => whnf
  refine vBind h (fun toSpan1 hb1 h => ?_)
  conv => whnf
  cases h
  exact hK
theorem w_laws_toPortS (q0 : SoundC Tryz.prog 119 c_laws_toPort) : SoundC Tryz.prog 68 c_laws_toPortS := by
  refine fn_sound tab_ok (gam_cons q0 gam_nil) mixed { loops := [(0, [.reg 4 (.dat (.int .i64)), .ent 0 (nat_lit 131) (.flat ti46.ety)])] } (fn := Tryz.f68) Tryz.func68 (by kernel_rfl) (by kernel_rfl) ?_
  rintro ⟨a0, ⟨⟩⟩ K ⟨r, h, hK⟩
  change laws_toPortS a0 = some r at h
  unfold laws_toPortS at h
  conv => whnf
  refine vPre h (fun hp0 h => ?_)
  conv => whnf
  refine vPre h (fun hp1 h => ?_)
  conv => whnf
  refine vPre h (fun hp2 h => ?_)
  conv => whnf
  refine vPre h (fun hp3 h => ?_)
  conv => whnf
  refine vLoop h ?_
  rintro I4 μ4 ⟨i0, l0, ⟨⟩⟩ zs4 h hI4 hR4
  change laws_toPortS_loop0 a0 i0 l0 = some zs4 at h
  unfold laws_toPortS_loop0 at h
  conv => whnf
  refine vIfD h (fun h => ?_) (fun h => ?_)
  · conv => whnf
    refine vAt h (fun x0 he5a he5b he5x h => ?_)
    conv => whnf
    refine vBind h (fun toPort0 hb6 h => ?_)
    conv => whnf
    refine vAt h (fun x1 he7a he7b he7x h => ?_)
    conv => whnf
    refine ⟨by kernel_rfl, ?_⟩
    conv => whnf
    refine ⟨by decide, ?_⟩
    conv => whnf
    refine ⟨he7a, he7b, vAgain he7x ?_⟩
    conv => whnf
    cases h
    exact ⟨⟨rfl, rfl⟩, hI4 _ rfl⟩
  · conv => whnf
    cases h
    obtain rfl := hR4 _ rfl
    exact hK
theorem w_laws_toSetup (q3 : SoundC Tryz.prog 31 c_laws_toClockS) (q1 : SoundC Tryz.prog 32 c_laws_toExternalS) (q0 : SoundC Tryz.prog 33 c_laws_toExceptionS) (q2 : SoundC Tryz.prog 34 c_laws_toCornerS) : SoundC Tryz.prog 9 c_laws_toSetup := by
  refine fn_sound tabD_ok (gam_cons q3 (gam_cons q1 (gam_cons q0 (gam_cons q2 gam_nil)))) mixed {} (fn := Tryz.f9) Tryz.func9 (by kernel_rfl) (by kernel_rfl) ?_
  rintro ⟨a0, ⟨⟩⟩ K ⟨r, h, hK⟩
  change laws_toSetup a0 = some r at h
  unfold laws_toSetup at h
  conv => whnf
  refine vBind h (fun toClockS0 hb0 h => ?_)
  conv => whnf
  refine vBind h (fun toExternalS0 hb1 h => ?_)
  conv => whnf
  refine vBind h (fun toExternalS1 hb2 h => ?_)
  conv => whnf
  refine vBind h (fun toExceptionS0 hb3 h => ?_)
  conv => whnf
  intro fp4
  conv => whnf
  refine vBind h (fun toCornerS0 hb5 h => ?_)
  conv => whnf
  cases h
  exact hK
theorem w_laws_toWireS (q0 : SoundC Tryz.prog 69 c_laws_toWire) : SoundC Tryz.prog 30 c_laws_toWireS := by
  refine fn_sound tabD_ok (gam_cons q0 gam_nil) mixed { loops := [(0, [.reg 4 (.dat (.int .i64)), .ent 0 (nat_lit 117) dWire])] } (fn := Tryz.f30) Tryz.func30 (by kernel_rfl) (by kernel_rfl) ?_
  rintro ⟨a0, ⟨⟩⟩ K ⟨r, h, hK⟩
  change laws_toWireS a0 = some r at h
  unfold laws_toWireS at h
  conv => whnf
  refine vPre h (fun hp0 h => ?_)
  conv => whnf
  refine vPre h (fun hp1 h => ?_)
  conv => whnf
  refine vPre h (fun hp2 h => ?_)
  conv => whnf
  refine vPre h (fun hp3 h => ?_)
  conv => whnf
  intro fp4
  conv => whnf
  refine vLoop h ?_
  rintro I5 μ5 ⟨i0, l0, ⟨⟩⟩ zs5 h hI5 hR5
  change laws_toWireS_loop0 a0 i0 l0 = some zs5 at h
  unfold laws_toWireS_loop0 at h
  conv => whnf
  intro fp6
  conv => whnf
  refine vIfD h (fun h => ?_) (fun h => ?_)
  · conv => whnf
    refine vAt h (fun x0 he7a he7b he7x h => ?_)
    conv => whnf
    refine vBind h (fun toWire0 hb8 h => ?_)
    conv => whnf
    refine vAt h (fun x1 he9a he9b he9x h => ?_)
    conv => whnf
    refine ⟨he9a, he9b, vAgain he9x ?_⟩
    conv => whnf
    intro fp10
    conv => whnf
    cases h
    exact ⟨⟨rfl, rfl⟩, hI5 _ rfl⟩
  · conv => whnf
    cases h
    obtain rfl := hR5 _ rfl
    exact hK
theorem w_slices_Clone_Sint64_int64 : SoundC Tryz.prog 132 c_slices_Clone_Sint64_int64 := by
  refine fn_sound tab_ok gam_nil mixed {} (fn := Tryz.f132) Tryz.func132 (by kernel_rfl) (by kernel_rfl) ?_
  rintro ⟨s0, ⟨⟩⟩ K ⟨r, h, hK⟩
  change slices_Clone_Sint64_int64 s0 = some r at h
  unfold slices_Clone_Sint64_int64 at h
  conv => whnf
  refine ⟨fun hd => ?_, ?_⟩
  · have h := vSame (T := (some ([] : List Int))) h (by simp [hd, guardO])
    conv => whnf
    cases h
    exact hK
  · conv => whnf
    refine vPre h (fun hp0 h => ?_)
    conv => whnf
    cases h
    exact hK
theorem w_slices_ContainsFunc_Simpl_Clock_impl_Clock_at_impl_view_isSetup_c1 (q0 : SoundC Tryz.prog 138 c_slices_IndexFunc_Simpl_Clock_impl_Clock_at_impl_view_isSetup_c1) : SoundC Tryz.prog 83 c_slices_ContainsFunc_Simpl_Clock_impl_Clock_at_impl_view_isSetup_c1 := by
  refine fn_sound tab_ok (gam_cons q0 gam_nil) mixed {} (fn := Tryz.f83) Tryz.func83 (by kernel_rfl) (by kernel_rfl) ?_
  rintro ⟨s0, f0, ⟨⟩⟩ K ⟨r, h, hK⟩
  change slices_ContainsFunc_Simpl_Clock_impl_Clock_at_impl_view_isSetup_c1 s0 f0 = some r at h
  unfold slices_ContainsFunc_Simpl_Clock_impl_Clock_at_impl_view_isSetup_c1 at h
  conv => whnf
  refine vBind h (fun c1_0 hb0 h => ?_)
  conv => whnf
  cases h
  exact hK
theorem w_slices_ContainsFunc_Sint64_int64_at_impl_areWithin_c1 (q0 : SoundC Tryz.prog 195 c_slices_IndexFunc_Sint64_int64_at_impl_areWithin_c1) : SoundC Tryz.prog 166 c_slices_ContainsFunc_Sint64_int64_at_impl_areWithin_c1 := by
  refine fn_sound tab_ok (gam_cons q0 gam_nil) mixed {} (fn := Tryz.f166) Tryz.func166 (by kernel_rfl) (by kernel_rfl) ?_
  rintro ⟨s0, f0, ⟨⟩⟩ K ⟨r, h, hK⟩
  change slices_ContainsFunc_Sint64_int64_at_impl_areWithin_c1 s0 f0 = some r at h
  unfold slices_ContainsFunc_Sint64_int64_at_impl_areWithin_c1 at h
  conv => whnf
  refine vBind h (fun c1_0 hb0 h => ?_)
  conv => whnf
  cases h
  exact hK
theorem w_slices_IndexFunc_Simpl_Exception_impl_Exception_at_impl_view_isSetup_c2 (q0 : SoundC Tryz.prog 88 c_impl_view_isSetup_c2) : SoundC Tryz.prog 142 c_slices_IndexFunc_Simpl_Exception_impl_Exception_at_impl_view_isSetup_c2 := by
  refine fn_sound tab_ok (gam_cons q0 gam_nil) mixed { loops := [(0, [.reg 8 (.dat (.int .i64))])] } (fn := Tryz.f142) Tryz.func142 (by kernel_rfl) (by kernel_rfl) ?_
  rintro ⟨s0, f0, ⟨⟩⟩ K ⟨r, h, hK⟩
  change slices_IndexFunc_Simpl_Exception_impl_Exception_at_impl_view_isSetup_c2 s0 f0 = some r at h
  unfold slices_IndexFunc_Simpl_Exception_impl_Exception_at_impl_view_isSetup_c2 at h
  conv => whnf
  refine vLoop h ?_
  rintro I0 μ0 ⟨v0, ⟨⟩⟩ zs0 h hI0 hR0
  change slices_IndexFunc_Simpl_Exception_impl_Exception_at_impl_view_isSetup_c2_loop0 s0 f0 v0 = some zs0 at h
  unfold slices_IndexFunc_Simpl_Exception_impl_Exception_at_impl_view_isSetup_c2_loop0 at h
  conv => whnf
  refine vIfD h (fun h => ?_) (fun h => ?_)
  · conv => whnf
    refine vAt h (fun x0 he1a he1b he1x h => ?_)
    conv => whnf
    refine vBind h (fun c2_0 hb2 h => ?_)
    conv => whnf
    refine vIfB h (fun h => ?_) (fun h => ?_)
    · conv => whnf
      cases h
      obtain rfl := hR0 _ rfl
      exact hK
    · conv => whnf
      cases h
      exact ⟨⟨rfl, rfl⟩, hI0 _ rfl⟩
  · conv => whnf
    cases h
    obtain rfl := hR0 _ rfl
    exact hK
theorem w_slices_IndexFunc_Sint64_int64_at_impl_Design_isInstance_c1 (q0 : SoundC Tryz.prog 167 c_impl_Design_isInstance_c1) : SoundC Tryz.prog 195 c_slices_IndexFunc_Sint64_int64_at_impl_Design_isInstance_c1 := by
  refine fn_sound tab_ok (gam_cons q0 gam_nil) mixed { loops := [(0, [.reg 8 (.dat (.int .i64))])] } (fn := Tryz.f195) Tryz.func195 (by kernel_rfl) (by kernel_rfl) ?_
  rintro ⟨s0, f0, ⟨⟩⟩ K ⟨r, h, hK⟩
  change slices_IndexFunc_Sint64_int64_at_impl_Design_isInstance_c1 s0 f0 = some r at h
  unfold slices_IndexFunc_Sint64_int64_at_impl_Design_isInstance_c1 at h
  conv => whnf
  refine vLoop h ?_
  rintro I0 μ0 ⟨v0, ⟨⟩⟩ zs0 h hI0 hR0
  change slices_IndexFunc_Sint64_int64_at_impl_Design_isInstance_c1_loop0 s0 f0 v0 = some zs0 at h
  unfold slices_IndexFunc_Sint64_int64_at_impl_Design_isInstance_c1_loop0 at h
  conv => whnf
  refine vIfD h (fun h => ?_) (fun h => ?_)
  · conv => whnf
    refine vAt h (fun x0 he1a he1b he1x h => ?_)
    conv => whnf
    refine vBind h (fun c1_0 hb2 h => ?_)
    conv => whnf
    refine vIfB h (fun h => ?_) (fun h => ?_)
    · conv => whnf
      cases h
      obtain rfl := hR0 _ rfl
      exact hK
    · conv => whnf
      cases h
      exact ⟨⟨rfl, rfl⟩, hI0 _ rfl⟩
  · conv => whnf
    cases h
    obtain rfl := hR0 _ rfl
    exact hK
theorem w_slices_IndexFunc_Sint_int_at_impl_IsDesign_c1 (q0 : SoundC Tryz.prog 127 c_impl_IsDesign_c1) : SoundC Tryz.prog 169 c_slices_IndexFunc_Sint_int_at_impl_IsDesign_c1 := by
  refine fn_sound tab_ok (gam_cons q0 gam_nil) mixed { loops := [(0, [.reg 8 (.dat (.int .i64))])] } (fn := Tryz.f169) Tryz.func169 (by kernel_rfl) (by kernel_rfl) ?_
  rintro ⟨s0, f0, ⟨⟩⟩ K ⟨r, h, hK⟩
  change slices_IndexFunc_Sint_int_at_impl_IsDesign_c1 s0 f0 = some r at h
  unfold slices_IndexFunc_Sint_int_at_impl_IsDesign_c1 at h
  conv => whnf
  refine vLoop h ?_
  rintro I0 μ0 ⟨v0, ⟨⟩⟩ zs0 h hI0 hR0
  change slices_IndexFunc_Sint_int_at_impl_IsDesign_c1_loop0 s0 v0 = some zs0 at h
  unfold slices_IndexFunc_Sint_int_at_impl_IsDesign_c1_loop0 at h
  conv => whnf
  refine vIfD h (fun h => ?_) (fun h => ?_)
  · conv => whnf
    refine vAt h (fun x0 he1a he1b he1x h => ?_)
    conv => whnf
    refine vBind h (fun c1_0 hb2 h => ?_)
    conv => whnf
    refine vIfB h (fun h => ?_) (fun h => ?_)
    · conv => whnf
      cases h
      obtain rfl := hR0 _ rfl
      exact hK
    · conv => whnf
      cases h
      exact ⟨⟨rfl, rfl⟩, hI0 _ rfl⟩
  · conv => whnf
    cases h
    obtain rfl := hR0 _ rfl
    exact hK
theorem w_slices_Index_Sstring_string : SoundC Tryz.prog 198 c_slices_Index_Sstring_string := by
  refine fn_sound tab_ok gam_nil mixed { loops := [(0, [.reg 8 (.dat (.int .i64))])] } (fn := Tryz.f198) Tryz.func198 (by kernel_rfl) (by kernel_rfl) ?_
  rintro ⟨s0, v0, ⟨⟩⟩ K ⟨r, h, hK⟩
  change slices_Index_Sstring_string s0 v0 = some r at h
  unfold slices_Index_Sstring_string at h
  conv => whnf
  refine vLoop h ?_
  rintro I0 μ0 ⟨v1, ⟨⟩⟩ zs0 h hI0 hR0
  change slices_Index_Sstring_string_loop0 s0 v0 v1 = some zs0 at h
  unfold slices_Index_Sstring_string_loop0 at h
  conv => whnf
  refine vIfD h (fun h => ?_) (fun h => ?_)
  · conv => whnf
    refine vAt h (fun x0 he1a he1b he1x h => ?_)
    conv => whnf
    refine vIfD h (fun h => ?_) (fun h => ?_)
    · conv => whnf
      cases h
      obtain rfl := hR0 _ rfl
      exact hK
    · conv => whnf
      cases h
      exact ⟨⟨rfl, rfl⟩, hI0 _ rfl⟩
  · conv => whnf
    cases h
    obtain rfl := hR0 _ rfl
    exact hK
theorem w_spec_IsDesign (q0 : SoundC Tryz.prog 112 c_spec_IsLibrary) (q1 : SoundC Tryz.prog 113 c_spec_l05Parts) (q2 : SoundC Tryz.prog 114 c_spec_l05Names) : SoundC Tryz.prog 55 c_spec_IsDesign := by
  refine fn_sound tab_ok (gam_cons q0 (gam_cons q1 (gam_cons q2 gam_nil))) mixed { loops := [(0, [.reg 5 (.own (.ol 9 (.flat (.str)))), .reg 6 (.dat (.int .i64))]), (2, [.reg 7 (.own (.ol 9 (.flat (.str)))), .reg 8 (.dat (.int .i64))]), (4, [.reg 10 (.dat (.int .i64)), .ent 6 (nat_lit 2) (.flat ti79.ety)]), (6, [.reg 12 (.dat (.int .i64)), .ent 6 (nat_lit 2) (.flat ti79.ety)]), (8, [.reg 13 (.dat (.int .i64))])] } (fn := Tryz.f55) Tryz.func55 (by kernel_rfl) (by kernel_rfl) ?_
  rintro ⟨a0, a1, ⟨⟩⟩ K ⟨r, h, hK⟩
  change spec_IsDesign a0 a1 = some r at h
  unfold spec_IsDesign at h
  conv => whnf
  refine vBind h (fun IsLibrary0 hb0 h => ?_)
  conv => whnf
  refine vNot ?_
  refine vIfB h (fun h => ?_) (fun h => ?_)
  · conv => whnf
    refine vIfDs h (fun h => ?_) (fun h => ?_)
    · conv => whnf
      cases h
      exact hK
    · conv => whnf
      refine vIfDs h (fun h => ?_) (fun h => ?_)
      · conv => whnf
        cases h
        exact hK
      · conv => whnf
        refine vIfDs h (fun h => ?_) (fun h => ?_)
        · conv => whnf
          cases h
          exact hK
        · conv => whnf
          refine vBind h (fun l05Parts0 hb1 h => ?_)
          conv => whnf
          refine vNots ?_
          refine vIfB h (fun h => ?_) (fun h => ?_)
          · conv => whnf
            refine vLoop h ?_
            rintro I2 μ2 ⟨v0, v1, ⟨⟩⟩ zs2 h hI2 hR2
            change spec_IsDesign_loop4 a1 v0 v1 = some zs2 at h
            unfold spec_IsDesign_loop4 at h
            conv => whnf
            refine vIfD h (fun h => ?_) (fun h => ?_)
            · conv => whnf
              refine vAt h (fun x0 he3a he3b he3x h => ?_)
              conv => whnf
              refine vPre h (fun hp4 h => ?_)
              conv => whnf
              cases h
              exact ⟨⟨rfl, rfl⟩, hI2 _ rfl⟩
            · conv => whnf
              refine vLoop h ?_
              rintro I5 μ5 ⟨v2, v3, ⟨⟩⟩ zs5 h hI5 hR5
              change spec_IsDesign_loop3 a1 v0 v2 v3 = some zs5 at h
              unfold spec_IsDesign_loop3 at h
              conv => whnf
              refine vIfD h (fun h => ?_) (fun h => ?_)
              · conv => whnf
                refine vAt h (fun x0 he6a he6b he6x h => ?_)
                conv => whnf
                refine vPre h (fun hp7 h => ?_)
                conv => whnf
                cases h
                exact ⟨⟨rfl, rfl⟩, hI5 _ rfl⟩
              · conv => whnf
                refine vBind h (fun l05Names0 hb8 h => ?_)
                conv => whnf
                refine vNot ?_
                refine vIfB h (fun h => ?_) (fun h => ?_)
                · conv => whnf
                  refine vBind h (fun l05Names1 hb9 h => ?_)
                  conv => whnf
                  refine vNot ?_
                  refine vIfB h (fun h => ?_) (fun h => ?_)
                  · conv => whnf
                    refine vBind h (fun l05Names2 hb10 h => ?_)
                    conv => whnf
                    refine vNots ?_
                    refine vIfB h (fun h => ?_) (fun h => ?_)
                    · conv => whnf
                      refine vPre h (fun hp11 h => ?_)
                      conv => whnf
                      refine vPre h (fun hp12 h => ?_)
                      conv => whnf
                      refine vPre h (fun hp13 h => ?_)
                      conv => whnf
                      refine vPre h (fun hp14 h => ?_)
                      conv => whnf
                      refine vLoop h ?_
                      rintro I15 μ15 ⟨v4, l0, ⟨⟩⟩ zs15 h hI15 hR15
                      change spec_IsDesign_loop2 a1 v4 l0 = some zs15 at h
                      unfold spec_IsDesign_loop2 at h
                      conv => whnf
                      refine vIfD h (fun h => ?_) (fun h => ?_)
                      · conv => whnf
                        refine vAt h (fun x0 he16a he16b he16x h => ?_)
                        conv => whnf
                        refine vAt h (fun x1 he17a he17b he17x h => ?_)
                        conv => whnf
                        refine vAt h (fun x2 he18a he18b he18x h => ?_)
                        conv => whnf
                        refine ⟨by kernel_rfl, ?_⟩
                        conv => whnf
                        refine ⟨he18a, he18b, vAgain he18x ?_⟩
                        conv => whnf
                        refine ⟨he18a, he18b, vAgain he18x ?_⟩
                        conv => whnf
                        refine ⟨by kernel_rfl, ?_⟩
                        conv => whnf
                        refine ⟨by decide, ?_⟩
                        conv => whnf
                        refine ⟨he18a, he18b, vAgain he18x ?_⟩
                        conv => whnf
                        cases h
                        exact ⟨⟨rfl, rfl⟩, hI15 _ rfl⟩
                      · conv => whnf
                        refine vLoop h ?_
                        rintro I19 μ19 ⟨v5, l1, ⟨⟩⟩ zs19 h hI19 hR19
                        change spec_IsDesign_loop1 a1 v5 l1 = some zs19 at h
                        unfold spec_IsDesign_loop1 at h
                        conv => whnf
                        refine vIfD h (fun h => ?_) (fun h => ?_)
                        · conv => whnf
                          refine vAt h (fun x0 he20a he20b he20x h => ?_)
                          conv => whnf
                          refine vIfD h (fun h => ?_) (fun h => ?_)
                          · conv => whnf
                            refine ⟨he20a, he20b, vAgain he20x ?_⟩
                            conv => whnf
                            refine vAt h (fun x1 he21a he21b he21x h => ?_)
                            conv => whnf
                            refine ⟨by kernel_rfl, ?_⟩
                            conv => whnf
                            refine ⟨he21a, he21b, vAgain he21x ?_⟩
                            conv => whnf
                            refine ⟨he21a, he21b, vAgain he21x ?_⟩
                            conv => whnf
                            refine ⟨by kernel_rfl, ?_⟩
                            conv => whnf
                            refine ⟨by decide, ?_⟩
                            conv => whnf
                            refine ⟨he21a, he21b, vAgain he21x ?_⟩
                            conv => whnf
                            cases h
                            exact ⟨⟨rfl, rfl⟩, hI19 _ rfl⟩
                          · conv => whnf
                            cases h
                            exact ⟨⟨rfl, rfl⟩, hI19 _ rfl⟩
                        · conv => whnf
                          refine vLoop h ?_
                          rintro I22 μ22 ⟨v6, ⟨⟩⟩ zs22 h hI22 hR22
                          change spec_IsDesign_loop0 l1 v6 = some zs22 at h
                          unfold spec_IsDesign_loop0 at h
                          conv => whnf
                          refine vIfD h (fun h => ?_) (fun h => ?_)
                          · conv => whnf
                            refine vAt h (fun x0 he23a he23b he23x h => ?_)
                            conv => whnf
                            refine ⟨by kernel_rfl, ?_⟩
                            conv => whnf
                            refine ⟨he23a, he23b, vAgain he23x ?_⟩
                            conv => whnf
                            refine vNots ?_
                            refine vIfD h (fun h => ?_) (fun h => ?_)
                            · conv => whnf
                              cases h
                              exact ⟨⟨rfl, rfl⟩, hI22 _ rfl⟩
                            · conv => whnf
                              cases h
                              obtain rfl := hR22 _ rfl
                              obtain rfl := hR19 _ rfl
                              obtain rfl := hR15 _ rfl
                              obtain rfl := hR5 _ rfl
                              obtain rfl := hR2 _ rfl
                              exact hK
                          · conv => whnf
                            cases h
                            obtain rfl := hR22 _ rfl
                            obtain rfl := hR19 _ rfl
                            obtain rfl := hR15 _ rfl
                            obtain rfl := hR5 _ rfl
                            obtain rfl := hR2 _ rfl
                            exact hK
                    · conv => whnf
                      cases h
                      obtain rfl := hR5 _ rfl
                      obtain rfl := hR2 _ rfl
                      exact hK
                  · conv => whnf
                    cases h
                    obtain rfl := hR5 _ rfl
                    obtain rfl := hR2 _ rfl
                    exact hK
                · conv => whnf
                  cases h
                  obtain rfl := hR5 _ rfl
                  obtain rfl := hR2 _ rfl
                  exact hK
          · conv => whnf
            cases h
            exact hK
  · conv => whnf
    cases h
    exact hK
theorem w_spec_IsLibrary (q0 : SoundC Tryz.prog 161 c_spec_IsCell) : SoundC Tryz.prog 112 c_spec_IsLibrary := by
  refine fn_sound tab_ok (gam_cons q0 gam_nil) mixed { loops := [(0, [.reg 3 (.dat (.int .i64))]), (2, [.reg 4 (.dat (.int .i64))])], draws := [(9, [0, 1, 0, 7, 15, 31, 0, 64, 0, 448, 960, 1984, 4095], .op 0 (.op 1 (.op 2 (.op 3 (.op 4 (.op 5 (.op 6 (.op 7 (.op 8 (.op 9 (.op 10 (.op 11 (.op 12 (.done))))))))))))))] } (fn := Tryz.f112) Tryz.func112 (by kernel_rfl) (by kernel_rfl) ?_
  rintro ⟨l0, ⟨⟩⟩ K ⟨r, h, hK⟩
  change spec_IsLibrary l0 = some r at h
  unfold spec_IsLibrary at h
  conv => whnf
  refine vLoop h ?_
  rintro I0 μ0 ⟨i0, ⟨⟩⟩ zs0 h hI0 hR0
  change spec_IsLibrary_loop1 l0 i0 = some zs0 at h
  unfold spec_IsLibrary_loop1 at h
  conv => whnf
  refine vIfD h (fun h => ?_) (fun h => ?_)
  · conv => whnf
    refine vAt h (fun x0 he1a he1b he1x h => ?_)
    conv => whnf
    refine vBind h (fun IsCell0 hb2 h => ?_)
    conv => whnf
    refine vNots ?_
    refine vIfB h (fun h => ?_) (fun h => ?_)
    · conv => whnf
      refine vLoop h ?_
      rintro I3 μ3 ⟨k0, ⟨⟩⟩ zs3 h hI3 hR3
      change spec_IsLibrary_loop0 l0 i0 x0 k0 = some zs3 at h
      unfold spec_IsLibrary_loop0 at h
      conv => whnf
      refine vIfD h (fun h => ?_) (fun h => ?_)
      · conv => whnf
        refine ⟨by kernel_rfl, ?_⟩
        conv => whnf
        refine vAt h (fun x1 he4a he4b he4x h => ?_)
        conv => whnf
        refine ⟨he1a, he1b, vAgain he1x ?_⟩
        conv => whnf
        refine vIfD h (fun h => ?_) (fun h => ?_)
        · conv => whnf
          cases h
          obtain rfl := hR3 _ rfl
          obtain rfl := hR0 _ rfl
          exact hK
        · conv => whnf
          cases h
          exact ⟨⟨rfl, rfl⟩, hI3 _ rfl⟩
      · conv => whnf
        cases h
        obtain rfl := hR3 _ rfl
        exact ⟨⟨rfl, rfl⟩, hI0 _ rfl⟩
    · conv => whnf
      cases h
      obtain rfl := hR0 _ rfl
      exact hK
  · conv => whnf
    cases h
    obtain rfl := hR0 _ rfl
    exact hK
theorem w_spec_IsWire (q0 : SoundC Tryz.prog 60 c_spec_l01In) : SoundC Tryz.prog 56 c_spec_IsWire := by
  refine fn_sound tab_ok (gam_cons q0 gam_nil) mixed { loops := [(0, [.reg 6 (.dat (.int .i64))]), (2, [.reg 7 (.dat (.int .i64))])] } (fn := Tryz.f56) Tryz.func56 (by kernel_rfl) (by kernel_rfl) ?_
  rintro ⟨a0, a1, ⟨⟩⟩ K ⟨r, h, hK⟩
  change spec_IsWire a0 a1 = some r at h
  unfold spec_IsWire at h
  conv => whnf
  refine vIfDs h (fun h => ?_) (fun h => ?_)
  · conv => whnf
    cases h
    exact hK
  · conv => whnf
    refine vIfDs h (fun h => ?_) (fun h => ?_)
    · conv => whnf
      cases h
      exact hK
    · conv => whnf
      refine vNot ?_
      refine vIfD h (fun h => ?_) (fun h => ?_)
      · conv => whnf
        refine vNot ?_
        refine vIfD h (fun h => ?_) (fun h => ?_)
        · conv => whnf
          refine vNots ?_
          refine vIfD h (fun h => ?_) (fun h => ?_)
          · conv => whnf
            refine vLoop h ?_
            rintro I0 μ0 ⟨v0, ⟨⟩⟩ zs0 h hI0 hR0
            change spec_IsWire_loop1 a0 v0 = some zs0 at h
            unfold spec_IsWire_loop1 at h
            conv => whnf
            refine vIfD h (fun h => ?_) (fun h => ?_)
            · conv => whnf
              refine vAt h (fun x0 he1a he1b he1x h => ?_)
              conv => whnf
              refine vBind h (fun l01In0 hb2 h => ?_)
              conv => whnf
              refine vNot ?_
              refine vIfB h (fun h => ?_) (fun h => ?_)
              · conv => whnf
                refine vAt h (fun x1 he3a he3b he3x h => ?_)
                conv => whnf
                refine vBind h (fun l01In1 hb4 h => ?_)
                conv => whnf
                refine vNots ?_
                refine vIfB h (fun h => ?_) (fun h => ?_)
                · conv => whnf
                  refine vIfD h (fun h => ?_) (fun h => ?_)
                  · conv => whnf
                    refine vAt h (fun x2 he5a he5b he5x h => ?_)
                    conv => whnf
                    refine vNot ?_
                    refine vIfD h (fun h => ?_) (fun h => ?_)
                    · conv => whnf
                      refine ⟨he3a, he3b, vAgain he3x ?_⟩
                      conv => whnf
                      refine vNot ?_
                      refine vIfD h (fun h => ?_) (fun h => ?_)
                      · conv => whnf
                        refine vIfD h (fun h => ?_) (fun h => ?_)
                        · conv => whnf
                          refine ⟨he5a, he5b, vAgain he5x ?_⟩
                          conv => whnf
                          refine vBind h (fun l01In2 hb6 h => ?_)
                          conv => whnf
                          refine vNots ?_
                          refine vIfB h (fun h => ?_) (fun h => ?_)
                          · conv => whnf
                            cases h
                            exact ⟨⟨rfl, rfl⟩, hI0 _ rfl⟩
                          · conv => whnf
                            cases h
                            obtain rfl := hR0 _ rfl
                            exact hK
                        · conv => whnf
                          cases h
                          exact ⟨⟨rfl, rfl⟩, hI0 _ rfl⟩
                      · conv => whnf
                        cases h
                        obtain rfl := hR0 _ rfl
                        exact hK
                    · conv => whnf
                      cases h
                      obtain rfl := hR0 _ rfl
                      exact hK
                  · conv => whnf
                    refine vIfD h (fun h => ?_) (fun h => ?_)
                    · conv => whnf
                      refine vAt h (fun x2 he7a he7b he7x h => ?_)
                      conv => whnf
                      refine vBind h (fun l01In2 hb8 h => ?_)
                      conv => whnf
                      refine vNots ?_
                      refine vIfB h (fun h => ?_) (fun h => ?_)
                      · conv => whnf
                        cases h
                        exact ⟨⟨rfl, rfl⟩, hI0 _ rfl⟩
                      · conv => whnf
                        cases h
                        obtain rfl := hR0 _ rfl
                        exact hK
                    · conv => whnf
                      cases h
                      exact ⟨⟨rfl, rfl⟩, hI0 _ rfl⟩
                · conv => whnf
                  cases h
                  obtain rfl := hR0 _ rfl
                  exact hK
              · conv => whnf
                cases h
                obtain rfl := hR0 _ rfl
                exact hK
            · conv => whnf
              refine vLoop h ?_
              rintro I9 μ9 ⟨v1, ⟨⟩⟩ zs9 h hI9 hR9
              change spec_IsWire_loop0 a0 v1 = some zs9 at h
              unfold spec_IsWire_loop0 at h
              conv => whnf
              refine vIfD h (fun h => ?_) (fun h => ?_)
              · conv => whnf
                refine vAt h (fun x0 he10a he10b he10x h => ?_)
                conv => whnf
                refine vBind h (fun l01In0 hb11 h => ?_)
                conv => whnf
                refine vNots ?_
                refine vIfB h (fun h => ?_) (fun h => ?_)
                · conv => whnf
                  cases h
                  exact ⟨⟨rfl, rfl⟩, hI9 _ rfl⟩
                · conv => whnf
                  cases h
                  obtain rfl := hR9 _ rfl
                  obtain rfl := hR0 _ rfl
                  exact hK
              · conv => whnf
                cases h
                obtain rfl := hR9 _ rfl
                obtain rfl := hR0 _ rfl
                exact hK
          · conv => whnf
            cases h
            exact hK
        · conv => whnf
          cases h
          exact hK
      · conv => whnf
        cases h
        exact hK
theorem w_spec_l22Count (q0 : SoundC Tryz.prog 25 c_spec_l05Places) : SoundC Tryz.prog 116 c_spec_l22Count := by
  refine fn_sound tab_ok (gam_cons q0 gam_nil) mixed {} (fn := Tryz.f116) Tryz.func116 (by kernel_rfl) (by kernel_rfl) ?_
  rintro ⟨b0, ⟨⟩⟩ K ⟨r, h, hK⟩
  change spec_l22Count b0 = some r at h
  unfold spec_l22Count at h
  conv => whnf
  refine vBind h (fun l05Places0 hb0 h => ?_)
  conv => whnf
  cases h
  exact hK
end Go.Proofs.YtmlloomodhhefaaGreatDoor
