/-
  The functions keep their contracts, if what they call does. Printed by program.
-/
import Derived.Test.YtmaogoofmebdbaaGreatDoorM
import Derived.KernelRfl
namespace Go.Proofs.YtmaogoofmebdbaaGreatDoor
open Go Go.Sx
set_option maxRecDepth 100000
set_option linter.unusedVariables false
set_option linter.unusedSimpArgs false
set_option maxRecDepth 100000 in
theorem w_impl_Clock_isPrimary (k_impl_within' : SoundC Tryz.prog 74 c_impl_within) : SoundC Tryz.prog 90 c_impl_Clock_isPrimary := by
  refine fn_sound tab_ok (gam_cons k_impl_within' gam_nil) mixed {} (fn := Tryz.f90) Tryz.func90 (by kernel_rfl) (by kernel_rfl) ?_
  rintro ⟨c0, ⟨⟩⟩ K ⟨r, h, hK⟩
  change impl_Clock_isPrimary c0 = some r at h
  unfold impl_Clock_isPrimary at h
  conv => whnf
  refine vBind h (fun within0 hb0 h => ?_)
  conv => whnf
  refine vIfB h (fun h => ?_) (fun h => ?_)
  · conv => whnf
    refine vBind h (fun within1 hb1 h => ?_)
    conv => whnf
    refine vIfB h (fun h => ?_) (fun h => ?_)
    · conv => whnf
      refine vBind h (fun within2 hb2 h => ?_)
      conv => whnf
      refine vIfB h (fun h => ?_) (fun h => ?_)
      · conv => whnf
        refine vNots ?_
        refine vIfD h (fun h => ?_) (fun h => ?_)
        · conv => whnf
          cases h
          exact hK
        · conv => whnf
          refine vIfD h (fun h => ?_) (fun h => ?_)
          · conv => whnf
            cases h
            exact hK
          · conv => whnf
            cases h
            exact hK
      · conv => whnf
        cases h
        exact hK
    · conv => whnf
      cases h
      exact hK
  · conv => whnf
    cases h
    exact hK
set_option maxRecDepth 100000 in
theorem w_impl_IsClocks (k_impl_isClock' : SoundC Tryz.prog 70 c_impl_isClock) (k_impl_areNames' : SoundC Tryz.prog 71 c_impl_areNames) : SoundC Tryz.prog 46 c_impl_IsClocks := by
  refine fn_sound tab_ok (gam_cons k_impl_isClock' (gam_cons k_impl_areNames' gam_nil)) mixed { loops := [(0, [.reg 3 (.own 9 (.str)), .reg 11 (.dat (.int .i64))])] } (fn := Tryz.f46) Tryz.func46 (by kernel_rfl) (by kernel_rfl) ?_
  rintro ⟨list0, ⟨⟩⟩ K ⟨r, h, hK⟩
  change impl_IsClocks list0 = some r at h
  unfold impl_IsClocks at h
  conv => whnf
  refine vIfD h (fun h => ?_) (fun h => ?_)
  · conv => whnf
    cases h
    exact hK
  · conv => whnf
    refine vLoop h ?_
    rintro I0 μ0 ⟨names0, v0, ⟨⟩⟩ zs0 h hI0 hR0
    change impl_IsClocks_loop0 list0 names0 v0 = some zs0 at h
    unfold impl_IsClocks_loop0 at h
    conv => whnf
    refine vIfD h (fun h => ?_) (fun h => ?_)
    · conv => whnf
      refine vAt h (fun x0 he1a he1b he1x h => ?_)
      conv => whnf
      refine vBind h (fun isClock0 hb2 h => ?_)
      conv => whnf
      refine vNots ?_
      refine vIfB h (fun h => ?_) (fun h => ?_)
      · conv => whnf
        refine vPre h (fun hp3 h => ?_)
        conv => whnf
        cases h
        exact ⟨⟨rfl, rfl⟩, hI0 _ rfl⟩
      · conv => whnf
        cases h
        obtain rfl := hR0 _ rfl
        exact hK
    · conv => whnf
      refine vBind h (fun areNames0 hb4 h => ?_)
      conv => whnf
      cases h
      obtain rfl := hR0 _ rfl
      exact hK
set_option maxRecDepth 100000 in
theorem w_impl_areWithin (k_slices_ContainsFunc_Sint64_int64_at_impl_areWithin_c1' : SoundC Tryz.prog 72 c_slices_ContainsFunc_Sint64_int64_at_impl_areWithin_c1) : SoundC Tryz.prog 47 c_impl_areWithin := by
  refine fn_sound tab_ok (gam_cons k_slices_ContainsFunc_Sint64_int64_at_impl_areWithin_c1' gam_nil) mixed {} (fn := Tryz.f47) Tryz.func47 (by kernel_rfl) (by kernel_rfl) ?_
  rintro ⟨list0, low0, high0, ⟨⟩⟩ K ⟨r, h, hK⟩
  change impl_areWithin list0 low0 high0 = some r at h
  unfold impl_areWithin at h
  conv => whnf
  refine vBind h (fun c1_0 hb0 h => ?_)
  conv => whnf
  cases h
  exact hK
set_option maxRecDepth 100000 in
theorem w_impl_edgesOf (k_impl_clockCode' : SoundC Tryz.prog 23 c_impl_clockCode) (k_impl_isTransition' : SoundC Tryz.prog 38 c_impl_isTransition) (k_impl_rootOf' : SoundC Tryz.prog 39 c_impl_rootOf) (k_impl_waveOf' : SoundC Tryz.prog 24 c_impl_waveOf) (k_impl_hyperPeriod' : SoundC Tryz.prog 40 c_impl_hyperPeriod) : SoundC Tryz.prog 17 c_impl_edgesOf := by
  refine fn_sound tab_ok (gam_cons k_impl_clockCode' (gam_cons k_impl_isTransition' (gam_cons k_impl_rootOf' (gam_cons k_impl_waveOf' (gam_cons k_impl_hyperPeriod' gam_nil))))) mixed {} (fn := Tryz.f17) Tryz.func17 (by kernel_rfl) (by kernel_rfl) ?_
  rintro ⟨a0, a1, a2, a3, a4, ⟨⟩⟩ K ⟨r, h, hK⟩
  change impl_edgesOf a0 a1 a2 a3 a4 = some r at h
  unfold impl_edgesOf at h
  conv => whnf
  refine vBind h (fun clockCode0 hb0 h => ?_)
  conv => whnf
  refine vNots ?_
  refine vIfD h (fun h => ?_) (fun h => ?_)
  · conv => whnf
    refine vBind h (fun isTransition0 hb1 h => ?_)
    conv => whnf
    refine vNot ?_
    refine vIfB h (fun h => ?_) (fun h => ?_)
    · conv => whnf
      refine vBind h (fun isTransition1 hb2 h => ?_)
      conv => whnf
      refine vNots ?_
      refine vIfB h (fun h => ?_) (fun h => ?_)
      · conv => whnf
        refine vBind h (fun rootOf0 hb3 h => ?_)
        conv => whnf
        refine vBind h (fun rootOf1 hb4 h => ?_)
        conv => whnf
        refine vNots ?_
        refine vIfD h (fun h => ?_) (fun h => ?_)
        · conv => whnf
          refine vBind h (fun waveOf0 hb5 h => ?_)
          conv => whnf
          refine vBind h (fun waveOf1 hb6 h => ?_)
          conv => whnf
          refine vBind h (fun hyperPeriod0 hb7 h => ?_)
          conv => whnf
          refine vIfDs h (fun h => ?_) (fun h => ?_)
          · conv => whnf
            cases h
            exact hK
          · conv => whnf
            refine vPre h (fun hp8 h => ?_)
            conv => whnf
            refine vIfD h (fun h => ?_) (fun h => ?_)
            · conv => whnf
              cases h
              exact hK
            · conv => whnf
              cases h
              exact hK
        · conv => whnf
          cases h
          exact hK
      · conv => whnf
        cases h
        exact hK
    · conv => whnf
      cases h
      exact hK
  · conv => whnf
    cases h
    exact hK
set_option maxRecDepth 100000 in
theorem w_impl_isTransition : SoundC Tryz.prog 38 c_impl_isTransition := by
  refine fn_sound tab_ok gam_nil mixed {} (fn := Tryz.f38) Tryz.func38 (by kernel_rfl) (by kernel_rfl) ?_
  rintro ⟨n0, ⟨⟩⟩ K ⟨r, h, hK⟩
  change impl_isTransition n0 = some r at h
  unfold impl_isTransition at h
  conv => whnf
  refine vIfDs h (fun h => ?_) (fun h => ?_)
  · conv => whnf
    cases h
    exact hK
  · conv => whnf
    cases h
    exact hK
set_option maxRecDepth 100000 in
theorem w_laws_eqCorner : SoundC Tryz.prog 59 c_laws_eqCorner := by
  refine fn_sound tab_ok gam_nil mixed {} (fn := Tryz.f59) Tryz.func59 (by kernel_rfl) (by kernel_rfl) ?_
  rintro ⟨a0, b0, ⟨⟩⟩ K ⟨r, h, hK⟩
  change laws_eqCorner a0 b0 = some r at h
  unfold laws_eqCorner at h
  conv => whnf
  refine vNots ?_
  refine vIfD h (fun h => ?_) (fun h => ?_)
  · conv => whnf
    refine vNots ?_
    refine vIfD h (fun h => ?_) (fun h => ?_)
    · conv => whnf
      refine vNots ?_
      refine vIfD h (fun h => ?_) (fun h => ?_)
      · conv => whnf
        refine vNots ?_
        refine vIfD h (fun h => ?_) (fun h => ?_)
        · conv => whnf
          refine vNots ?_
          refine vIfD h (fun h => ?_) (fun h => ?_)
          · conv => whnf
            cases h
            exact hK
          · conv => whnf
            cases h
            exact hK
        · conv => whnf
          cases h
          exact hK
      · conv => whnf
        cases h
        exact hK
    · conv => whnf
      cases h
      exact hK
  · conv => whnf
    cases h
    exact hK
set_option maxRecDepth 100000 in
theorem w_laws_eqCornerS (k_laws_eqCorner' : SoundC Tryz.prog 59 c_laws_eqCorner) : SoundC Tryz.prog 36 c_laws_eqCornerS := by
  refine fn_sound tab_ok (gam_cons k_laws_eqCorner' gam_nil) mixed { loops := [(0, [.reg 5 (.dat (.int .i64))])], draws := [(6, [0, 0, 3, 7, 0, 0, 48, 112, 255, 511], .op 0 (.op 1 (.op 2 (.op 3 (.op 4 (.op 5 (.op 6 (.op 7 (.alt 8 (.op 9 (.done)) (.done))))))))))] } (fn := Tryz.f36) Tryz.func36 (by kernel_rfl) (by kernel_rfl) ?_
  rintro ⟨a0, b0, ⟨⟩⟩ K ⟨r, h, hK⟩
  change laws_eqCornerS a0 b0 = some r at h
  unfold laws_eqCornerS at h
  conv => whnf
  refine vNots ?_
  refine vIfD h (fun h => ?_) (fun h => ?_)
  · conv => whnf
    refine vLoop h ?_
    rintro I0 μ0 ⟨i0, ⟨⟩⟩ zs0 h hI0 hR0
    change laws_eqCornerS_loop0 a0 b0 i0 = some zs0 at h
    unfold laws_eqCornerS_loop0 at h
    conv => whnf
    refine vIfD h (fun h => ?_) (fun h => ?_)
    · conv => whnf
      refine ⟨by kernel_rfl, ?_⟩
      conv => whnf
      refine vAt h (fun x0 he1a he1b he1x h => ?_)
      conv => whnf
      refine vAt h (fun x1 he2a he2b he2x h => ?_)
      conv => whnf
      refine vBind h (fun eqCorner0 hb3 h => ?_)
      conv => whnf
      refine vNots ?_
      refine vIfB h (fun h => ?_) (fun h => ?_)
      · conv => whnf
        cases h
        exact ⟨⟨rfl, rfl⟩, hI0 _ rfl⟩
      · conv => whnf
        cases h
        obtain rfl := hR0 _ rfl
        exact hK
    · conv => whnf
      cases h
      obtain rfl := hR0 _ rfl
      exact hK
  · conv => whnf
    cases h
    exact hK
set_option maxRecDepth 100000 in
theorem w_laws_eqException (k_laws_eqInt64S' : SoundC Tryz.prog 79 c_laws_eqInt64S) : SoundC Tryz.prog 58 c_laws_eqException := by
  refine fn_sound tab_ok (gam_cons k_laws_eqInt64S' gam_nil) mixed {} (fn := Tryz.f58) Tryz.func58 (by kernel_rfl) (by kernel_rfl) ?_
  rintro ⟨a0, b0, ⟨⟩⟩ K ⟨r, h, hK⟩
  change laws_eqException a0 b0 = some r at h
  unfold laws_eqException at h
  conv => whnf
  refine vNots ?_
  refine vIfD h (fun h => ?_) (fun h => ?_)
  · conv => whnf
    refine vNots ?_
    refine vIfD h (fun h => ?_) (fun h => ?_)
    · conv => whnf
      refine vBind h (fun eqInt64S0 hb0 h => ?_)
      conv => whnf
      refine vNots ?_
      refine vIfB h (fun h => ?_) (fun h => ?_)
      · conv => whnf
        refine vBind h (fun eqInt64S1 hb1 h => ?_)
        conv => whnf
        refine vNots ?_
        refine vIfB h (fun h => ?_) (fun h => ?_)
        · conv => whnf
          refine vBind h (fun eqInt64S2 hb2 h => ?_)
          conv => whnf
          refine vNots ?_
          refine vIfB h (fun h => ?_) (fun h => ?_)
          · conv => whnf
            cases h
            exact hK
          · conv => whnf
            cases h
            exact hK
        · conv => whnf
          cases h
          exact hK
      · conv => whnf
        cases h
        exact hK
    · conv => whnf
      cases h
      exact hK
  · conv => whnf
    cases h
    exact hK
set_option maxRecDepth 100000 in
theorem w_laws_eqRelation : SoundC Tryz.prog 12 c_laws_eqRelation := by
  refine fn_sound tab_ok gam_nil mixed {} (fn := Tryz.f12) Tryz.func12 (by kernel_rfl) (by kernel_rfl) ?_
  rintro ⟨a0, b0, ⟨⟩⟩ K ⟨r, h, hK⟩
  change laws_eqRelation a0 b0 = some r at h
  unfold laws_eqRelation at h
  conv => whnf
  refine vNots ?_
  refine vIfD h (fun h => ?_) (fun h => ?_)
  · conv => whnf
    refine vNots ?_
    refine vIfD h (fun h => ?_) (fun h => ?_)
    · conv => whnf
      refine vNots ?_
      refine vIfD h (fun h => ?_) (fun h => ?_)
      · conv => whnf
        cases h
        exact hK
      · conv => whnf
        cases h
        exact hK
    · conv => whnf
      cases h
      exact hK
  · conv => whnf
    cases h
    exact hK
set_option maxRecDepth 100000 in
theorem w_laws_eqSetup (k_laws_eqClockS' : SoundC Tryz.prog 33 c_laws_eqClockS) (k_laws_eqExternalS' : SoundC Tryz.prog 34 c_laws_eqExternalS) (k_laws_eqExceptionS' : SoundC Tryz.prog 35 c_laws_eqExceptionS) (k_laws_eqCornerS' : SoundC Tryz.prog 36 c_laws_eqCornerS) : SoundC Tryz.prog 13 c_laws_eqSetup := by
  refine fn_sound tab_ok (gam_cons k_laws_eqClockS' (gam_cons k_laws_eqExternalS' (gam_cons k_laws_eqExceptionS' (gam_cons k_laws_eqCornerS' gam_nil)))) mixed {} (fn := Tryz.f13) Tryz.func13 (by kernel_rfl) (by kernel_rfl) ?_
  rintro ⟨a0, b0, ⟨⟩⟩ K ⟨r, h, hK⟩
  change laws_eqSetup a0 b0 = some r at h
  unfold laws_eqSetup at h
  conv => whnf
  refine vBind h (fun eqClockS0 hb0 h => ?_)
  conv => whnf
  refine vNots ?_
  refine vIfB h (fun h => ?_) (fun h => ?_)
  · conv => whnf
    refine vBind h (fun eqExternalS0 hb1 h => ?_)
    conv => whnf
    refine vNots ?_
    refine vIfB h (fun h => ?_) (fun h => ?_)
    · conv => whnf
      refine vBind h (fun eqExternalS1 hb2 h => ?_)
      conv => whnf
      refine vNots ?_
      refine vIfB h (fun h => ?_) (fun h => ?_)
      · conv => whnf
        refine vBind h (fun eqExceptionS0 hb3 h => ?_)
        conv => whnf
        refine vNots ?_
        refine vIfB h (fun h => ?_) (fun h => ?_)
        · conv => whnf
          refine vBind h (fun eqCornerS0 hb4 h => ?_)
          conv => whnf
          refine vNots ?_
          refine vIfB h (fun h => ?_) (fun h => ?_)
          · conv => whnf
            cases h
            exact hK
          · conv => whnf
            cases h
            exact hK
        · conv => whnf
          cases h
          exact hK
      · conv => whnf
        cases h
        exact hK
    · conv => whnf
      cases h
      exact hK
  · conv => whnf
    cases h
    exact hK
set_option maxRecDepth 100000 in
theorem w_laws_toClockS (k_laws_toClock' : SoundC Tryz.prog 52 c_laws_toClock) : SoundC Tryz.prog 29 c_laws_toClockS := by
  refine fn_sound tab_ok (gam_cons k_laws_toClock' gam_nil) mixed { loops := [(0, [.reg 4 (.dat (.int .i64)), .reg 3 (.own 74 (tClock))])] } (fn := Tryz.f29) Tryz.func29 (by kernel_rfl) (by kernel_rfl) ?_
  rintro ⟨a0, ⟨⟩⟩ K ⟨r, h, hK⟩
  change laws_toClockS a0 = some r at h
  unfold laws_toClockS at h
  conv => whnf
  refine vPre h (fun hp0 h => ?_)
  conv => whnf
  refine vPre h (fun hp1 h => ?_)
  conv => whnf
  refine vPre h (fun hp2 h => ?_)
  conv => whnf
  refine vPre h (fun hp3 h => ?_)
  conv => whnf
  refine vLoop h ?_
  rintro I4 μ4 ⟨i0, out0, ⟨⟩⟩ zs4 h hI4 hR4
  change laws_toClockS_loop0 a0 i0 out0 = some zs4 at h
  unfold laws_toClockS_loop0 at h
  conv => whnf
  refine vIfD h (fun h => ?_) (fun h => ?_)
  · conv => whnf
    refine vAt h (fun x0 he5a he5b he5x h => ?_)
    conv => whnf
    refine vBind h (fun toClock0 hb6 h => ?_)
    conv => whnf
    refine vAt h (fun x1 he7a he7b he7x h => ?_)
    conv => whnf
    refine ⟨by kernel_rfl, ?_⟩
    conv => whnf
    refine ⟨by decide, ?_⟩
    conv => whnf
    refine ⟨he7a, he7b, vAgain he7x ?_⟩
    conv => whnf
    cases h
    exact ⟨⟨rfl, rfl⟩, hI4 _ rfl⟩
  · conv => whnf
    cases h
    obtain rfl := hR4 _ rfl
    exact hK
set_option maxRecDepth 100000 in
theorem w_laws_toSpan : SoundC Tryz.prog 76 c_laws_toSpan := by
  refine fn_sound tab_ok gam_nil mixed {} (fn := Tryz.f76) Tryz.func76 (by kernel_rfl) (by kernel_rfl) ?_
  rintro ⟨a0, ⟨⟩⟩ K ⟨r, h, hK⟩
  change laws_toSpan a0 = some r at h
  unfold laws_toSpan at h
  conv => whnf
  cases h
  exact hK
set_option maxRecDepth 100000 in
theorem w_slices_Index_Sstring_string : SoundC Tryz.prog 101 c_slices_Index_Sstring_string := by
  refine fn_sound tab_ok gam_nil mixed { loops := [(0, [.reg 8 (.dat (.int .i64))])] } (fn := Tryz.f101) Tryz.func101 (by kernel_rfl) (by kernel_rfl) ?_
  rintro ⟨s0, v0, ⟨⟩⟩ K ⟨r, h, hK⟩
  change slices_Index_Sstring_string s0 v0 = some r at h
  unfold slices_Index_Sstring_string at h
  conv => whnf
  refine vLoop h ?_
  rintro I0 μ0 ⟨v1, ⟨⟩⟩ zs0 h hI0 hR0
  change slices_Index_Sstring_string_loop0 s0 v0 v1 = some zs0 at h
  unfold slices_Index_Sstring_string_loop0 at h
  conv => whnf
  refine vIfD h (fun h => ?_) (fun h => ?_)
  · conv => whnf
    refine vAt h (fun x0 he1a he1b he1x h => ?_)
    conv => whnf
    refine vIfD h (fun h => ?_) (fun h => ?_)
    · conv => whnf
      cases h
      obtain rfl := hR0 _ rfl
      exact hK
    · conv => whnf
      cases h
      exact ⟨⟨rfl, rfl⟩, hI0 _ rfl⟩
  · conv => whnf
    cases h
    obtain rfl := hR0 _ rfl
    exact hK
set_option maxRecDepth 100000 in
theorem w_spec_IsClocks (k_spec_l14Plain' : SoundC Tryz.prog 85 c_spec_l14Plain) (k_spec_l14Primary' : SoundC Tryz.prog 86 c_spec_l14Primary) (k_spec_l01In' : SoundC Tryz.prog 66 c_spec_l01In) (k_spec_l14Of' : SoundC Tryz.prog 44 c_spec_l14Of) : SoundC Tryz.prog 63 c_spec_IsClocks := by
  refine fn_sound tab_ok (gam_cons k_spec_l14Plain' (gam_cons k_spec_l14Primary' (gam_cons k_spec_l01In' (gam_cons k_spec_l14Of' gam_nil)))) mixed { loops := [(0, [.reg 3 (.dat (.int .i64))]), (2, [.reg 5 (.dat (.int .i64))])], draws := [(10, [0, 0, 3, 7, 15, 0, 32, 127], .op 0 (.op 1 (.op 2 (.op 3 (.op 4 (.op 5 (.op 6 (.op 7 (.done)))))))))] } (fn := Tryz.f63) Tryz.func63 (by kernel_rfl) (by kernel_rfl) ?_
  rintro ⟨a0, ⟨⟩⟩ K ⟨r, h, hK⟩
  change spec_IsClocks a0 = some r at h
  unfold spec_IsClocks at h
  conv => whnf
  refine vLoop h ?_
  rintro I0 μ0 ⟨v0, ⟨⟩⟩ zs0 h hI0 hR0
  change spec_IsClocks_loop1 a0 v0 = some zs0 at h
  unfold spec_IsClocks_loop1 at h
  conv => whnf
  refine vIfD h (fun h => ?_) (fun h => ?_)
  · conv => whnf
    refine vIfD h (fun h => ?_) (fun h => ?_)
    · conv => whnf
      refine vAt h (fun x0 he1a he1b he1x h => ?_)
      conv => whnf
      refine vBind h (fun l14Plain0 hb2 h => ?_)
      conv => whnf
      refine vNots ?_
      refine vIfB h (fun h => ?_) (fun h => ?_)
      · conv => whnf
        refine vLoop h ?_
        rintro I3 μ3 ⟨v1, ⟨⟩⟩ zs3 h hI3 hR3
        change spec_IsClocks_loop0 a0 v0 x0 v1 = some zs3 at h
        unfold spec_IsClocks_loop0 at h
        conv => whnf
        refine vIfD h (fun h => ?_) (fun h => ?_)
        · conv => whnf
          refine ⟨by kernel_rfl, ?_⟩
          conv => whnf
          refine vAt h (fun x1 he4a he4b he4x h => ?_)
          conv => whnf
          refine vIfD h (fun h => ?_) (fun h => ?_)
          · conv => whnf
            cases h
            obtain rfl := hR3 _ rfl
            obtain rfl := hR0 _ rfl
            exact hK
          · conv => whnf
            cases h
            exact ⟨⟨rfl, rfl⟩, hI3 _ rfl⟩
        · conv => whnf
          refine vIfD h (fun h => ?_) (fun h => ?_)
          · conv => whnf
            refine vBind h (fun l14Primary0 hb5 h => ?_)
            conv => whnf
            refine vNots ?_
            refine vIfB h (fun h => ?_) (fun h => ?_)
            · conv => whnf
              cases h
              obtain rfl := hR3 _ rfl
              exact ⟨⟨rfl, rfl⟩, hI0 _ rfl⟩
            · conv => whnf
              cases h
              obtain rfl := hR3 _ rfl
              obtain rfl := hR0 _ rfl
              exact hK
          · conv => whnf
            refine vBind h (fun l01In0 hb6 h => ?_)
            conv => whnf
            refine vNot ?_
            refine vIfB h (fun h => ?_) (fun h => ?_)
            · conv => whnf
              refine vBind h (fun l01In1 hb7 h => ?_)
              conv => whnf
              refine vNot ?_
              refine vIfB h (fun h => ?_) (fun h => ?_)
              · conv => whnf
                refine vNot ?_
                refine vIfD h (fun h => ?_) (fun h => ?_)
                · conv => whnf
                  refine vNot ?_
                  refine vIfD h (fun h => ?_) (fun h => ?_)
                  · conv => whnf
                    refine vNot ?_
                    refine vIfD h (fun h => ?_) (fun h => ?_)
                    · conv => whnf
                      refine vBind h (fun l14Of0 hb8 h => ?_)
                      conv => whnf
                      refine vIfD h (fun h => ?_) (fun h => ?_)
                      · conv => whnf
                        cases h
                        obtain rfl := hR3 _ rfl
                        obtain rfl := hR0 _ rfl
                        exact hK
                      · conv => whnf
                        cases h
                        obtain rfl := hR3 _ rfl
                        exact ⟨⟨rfl, rfl⟩, hI0 _ rfl⟩
                    · conv => whnf
                      cases h
                      obtain rfl := hR3 _ rfl
                      obtain rfl := hR0 _ rfl
                      exact hK
                  · conv => whnf
                    cases h
                    obtain rfl := hR3 _ rfl
                    obtain rfl := hR0 _ rfl
                    exact hK
                · conv => whnf
                  cases h
                  obtain rfl := hR3 _ rfl
                  obtain rfl := hR0 _ rfl
                  exact hK
              · conv => whnf
                cases h
                obtain rfl := hR3 _ rfl
                obtain rfl := hR0 _ rfl
                exact hK
            · conv => whnf
              cases h
              obtain rfl := hR3 _ rfl
              obtain rfl := hR0 _ rfl
              exact hK
      · conv => whnf
        cases h
        obtain rfl := hR0 _ rfl
        exact hK
    · conv => whnf
      cases h
      obtain rfl := hR0 _ rfl
      exact hK
  · conv => whnf
    cases h
    obtain rfl := hR0 _ rfl
    exact hK
set_option maxRecDepth 100000 in
theorem w_spec_l01In : SoundC Tryz.prog 66 c_spec_l01In := by
  refine fn_sound tab_ok gam_nil mixed {} (fn := Tryz.f66) Tryz.func66 (by kernel_rfl) (by kernel_rfl) ?_
  rintro ⟨n0, low0, high0, ⟨⟩⟩ K ⟨r, h, hK⟩
  change spec_l01In n0 low0 high0 = some r at h
  unfold spec_l01In at h
  conv => whnf
  refine vIfD h (fun h => ?_) (fun h => ?_)
  · conv => whnf
    cases h
    exact hK
  · conv => whnf
    cases h
    exact hK
set_option maxRecDepth 100000 in
theorem w_spec_l02Ints : SoundC Tryz.prog 97 c_spec_l02Ints := by
  refine fn_sound tab_ok gam_nil mixed {} (fn := Tryz.f97) Tryz.func97 (by kernel_rfl) (by kernel_rfl) ?_
  rintro ⟨list0, ⟨⟩⟩ K ⟨r, h, hK⟩
  change spec_l02Ints list0 = some r at h
  unfold spec_l02Ints at h
  conv => whnf
  refine vPre h (fun hp0 h => ?_)
  conv => whnf
  cases h
  exact hK
set_option maxRecDepth 100000 in
theorem w_spec_l03DrawFlop (k_spec_l01Next' : SoundC Tryz.prog 16 c_spec_l01Next) (k_spec_l03DrawArc' : SoundC Tryz.prog 103 c_spec_l03DrawArc) : SoundC Tryz.prog 95 c_spec_l03DrawFlop := by
  refine fn_sound tab_ok (gam_cons k_spec_l01Next' (gam_cons k_spec_l03DrawArc' gam_nil)) mixed {} (fn := Tryz.f95) Tryz.func95 (by kernel_rfl) (by kernel_rfl) ?_
  rintro ⟨s0, name0, kind0, edge0, ⟨⟩⟩ K ⟨r, h, hK⟩
  change spec_l03DrawFlop s0 name0 kind0 edge0 = some r at h
  unfold spec_l03DrawFlop at h
  conv => whnf
  refine vBind h (fun l01Next0 hb0 h => ?_)
  conv => whnf
  refine vBind h (fun l01Next1 hb1 h => ?_)
  conv => whnf
  refine vBind h (fun l01Next2 hb2 h => ?_)
  conv => whnf
  refine vBind h (fun l01Next3 hb3 h => ?_)
  conv => whnf
  refine vBind h (fun l03DrawArc0 hb4 h => ?_)
  conv => whnf
  refine vBind h (fun l03DrawArc1 hb5 h => ?_)
  conv => whnf
  refine vBind h (fun l03DrawArc2 hb6 h => ?_)
  conv => whnf
  refine vIfD h (fun h => ?_) (fun h => ?_)
  · conv => whnf
    refine vBind h (fun l03DrawArc3 hb7 h => ?_)
    conv => whnf
    refine vPre h (fun hp8 h => ?_)
    conv => whnf
    cases h
    exact hK
  · conv => whnf
    cases h
    exact hK
set_option maxRecDepth 100000 in
theorem w_spec_l03DrawTables (k_spec_l02Draw' : SoundC Tryz.prog 118 c_spec_l02Draw) : SoundC Tryz.prog 112 c_spec_l03DrawTables := by
  refine fn_sound tab_ok (gam_cons k_spec_l02Draw' gam_nil) mixed { draws := [(2, [0, 0, 0, 6, 15, 31], .op 1 (.op 2 (.alt 0 (.alt 3 (.alt 4 (.op 5 (.done)) (.done)) (.done)) (.alt 3 (.alt 0 (.alt 4 (.op 5 (.done)) (.done)) (.done)) (.done)))))] } (fn := Tryz.f112) Tryz.func112 (by kernel_rfl) (by kernel_rfl) ?_
  rintro ⟨s0, base0, ⟨⟩⟩ K ⟨r, h, hK⟩
  change spec_l03DrawTables s0 base0 = some r at h
  unfold spec_l03DrawTables at h
  conv => whnf
  refine vBind h (fun l02Draw0 hb0 h => ?_)
  conv => whnf
  refine ⟨by kernel_rfl, ?_⟩
  conv => whnf
  refine ⟨?_, ?_⟩
  · conv => whnf
    refine vBind h (fun l02Draw1 hb1 h => ?_)
    conv => whnf
    cases h
    exact hK
  · obtain ⟨l02Draw1, hb1, h⟩ := Option.bind_eq_some_iff.1 h
    conv => whnf
    refine ⟨_, hb1, ?_⟩
    conv => whnf
    cases h
    exact hK
set_option maxRecDepth 100000 in
theorem w_spec_l03Name : SoundC Tryz.prog 98 c_spec_l03Name := by
  refine fn_sound tab_ok gam_nil mixed { loops := [(0, [.reg 3 (.dat (.int .i64))])] } (fn := Tryz.f98) Tryz.func98 (by kernel_rfl) (by kernel_rfl) ?_
  rintro ⟨s0, ⟨⟩⟩ K ⟨r, h, hK⟩
  change spec_l03Name s0 = some r at h
  unfold spec_l03Name at h
  conv => whnf
  refine vLoop h ?_
  rintro I0 μ0 ⟨i0, ⟨⟩⟩ zs0 h hI0 hR0
  change spec_l03Name_loop0 s0 i0 = some zs0 at h
  unfold spec_l03Name_loop0 at h
  conv => whnf
  refine vIfD h (fun h => ?_) (fun h => ?_)
  · conv => whnf
    refine vAt h (fun x0 he1a he1b he1x h => ?_)
    conv => whnf
    refine vIfD h (fun h => ?_) (fun h => ?_)
    · conv => whnf
      refine ⟨he1a, he1b, vAgain he1x ?_⟩
      conv => whnf
      refine ⟨he1a, he1b, vAgain he1x ?_⟩
      conv => whnf
      refine vIfD h (fun h => ?_) (fun h => ?_)
      · conv => whnf
        refine ⟨he1a, he1b, vAgain he1x ?_⟩
        conv => whnf
        refine vNots ?_
        refine vIfD h (fun h => ?_) (fun h => ?_)
        · conv => whnf
          cases h
          exact ⟨⟨rfl, rfl⟩, hI0 _ rfl⟩
        · conv => whnf
          refine vIfD h (fun h => ?_) (fun h => ?_)
          · conv => whnf
            refine vNots ?_
            refine vIfD h (fun h => ?_) (fun h => ?_)
            · conv => whnf
              cases h
              exact ⟨⟨rfl, rfl⟩, hI0 _ rfl⟩
            · conv => whnf
              cases h
              obtain rfl := hR0 _ rfl
              exact hK
          · conv => whnf
            cases h
            obtain rfl := hR0 _ rfl
            exact hK
      · conv => whnf
        refine vNots ?_
        refine vIfD h (fun h => ?_) (fun h => ?_)
        · conv => whnf
          cases h
          exact ⟨⟨rfl, rfl⟩, hI0 _ rfl⟩
        · conv => whnf
          cases h
          obtain rfl := hR0 _ rfl
          exact hK
    · conv => whnf
      refine ⟨he1a, he1b, vAgain he1x ?_⟩
      conv => whnf
      refine vIfD h (fun h => ?_) (fun h => ?_)
      · conv => whnf
        refine ⟨he1a, he1b, vAgain he1x ?_⟩
        conv => whnf
        refine vIfD h (fun h => ?_) (fun h => ?_)
        · conv => whnf
          refine vNots ?_
          refine vIfD h (fun h => ?_) (fun h => ?_)
          · conv => whnf
            cases h
            exact ⟨⟨rfl, rfl⟩, hI0 _ rfl⟩
          · conv => whnf
            cases h
            obtain rfl := hR0 _ rfl
            exact hK
        · conv => whnf
          cases h
          obtain rfl := hR0 _ rfl
          exact hK
      · conv => whnf
        cases h
        obtain rfl := hR0 _ rfl
        exact hK
  · conv => whnf
    refine vIfD h (fun h => ?_) (fun h => ?_)
    · conv => whnf
      cases h
      obtain rfl := hR0 _ rfl
      exact hK
    · conv => whnf
      cases h
      obtain rfl := hR0 _ rfl
      exact hK
set_option maxRecDepth 100000 in
theorem w_spec_l05Sinks (k_spec_l05Places' : SoundC Tryz.prog 61 c_spec_l05Places) : SoundC Tryz.prog 83 c_spec_l05Sinks := by
  refine fn_sound tab_ok (gam_cons k_spec_l05Places' gam_nil) mixed { loops := [(0, [.reg 5 (.own 2 (.int .i64)), .reg 7 (.dat (.int .i64))])] } (fn := Tryz.f83) Tryz.func83 (by kernel_rfl) (by kernel_rfl) ?_
  rintro ⟨d0, net0, ⟨⟩⟩ K ⟨r, h, hK⟩
  change spec_l05Sinks d0 net0 = some r at h
  unfold spec_l05Sinks at h
  conv => whnf
  refine vBind h (fun l05Places0 hb0 h => ?_)
  conv => whnf
  refine vLoop h ?_
  rintro I1 μ1 ⟨out0, i0, ⟨⟩⟩ zs1 h hI1 hR1
  change spec_l05Sinks_loop0 net0 l05Places0 out0 i0 = some zs1 at h
  unfold spec_l05Sinks_loop0 at h
  conv => whnf
  refine vIfD h (fun h => ?_) (fun h => ?_)
  · conv => whnf
    refine vAt h (fun x0 he2a he2b he2x h => ?_)
    conv => whnf
    refine ⟨by kernel_rfl, ?_⟩
    conv => whnf
    refine ⟨he2a, he2b, vAgain he2x ?_⟩
    conv => whnf
    refine vIfD h (fun h => ?_) (fun h => ?_)
    · conv => whnf
      refine ⟨he2a, he2b, vAgain he2x ?_⟩
      conv => whnf
      refine ⟨by kernel_rfl, ?_⟩
      conv => whnf
      refine ⟨he2a, he2b, vAgain he2x ?_⟩
      conv => whnf
      refine vNots ?_
      refine vIfB h (fun h => ?_) (fun h => ?_)
      · conv => whnf
        cases h
        exact ⟨⟨rfl, rfl⟩, hI1 _ rfl⟩
      · conv => whnf
        refine vPre h (fun hp3 h => ?_)
        conv => whnf
        cases h
        exact ⟨⟨rfl, rfl⟩, hI1 _ rfl⟩
    · conv => whnf
      cases h
      exact ⟨⟨rfl, rfl⟩, hI1 _ rfl⟩
  · conv => whnf
    cases h
    obtain rfl := hR1 _ rfl
    exact hK
set_option maxRecDepth 100000 in
theorem w_spec_l07Lumped : SoundC Tryz.prog 96 c_spec_l07Lumped := by
  refine fn_sound tab_ok gam_nil mixed {} (fn := Tryz.f96) Tryz.func96 (by kernel_rfl) (by kernel_rfl) ?_
  rintro ⟨sinks0, load0, ⟨⟩⟩ K ⟨r, h, hK⟩
  change spec_l07Lumped sinks0 load0 = some r at h
  unfold spec_l07Lumped at h
  conv => whnf
  refine vPre h (fun hp0 h => ?_)
  conv => whnf
  refine vPre h (fun hp1 h => ?_)
  conv => whnf
  refine vPre h (fun hp2 h => ?_)
  conv => whnf
  refine vPre h (fun hp3 h => ?_)
  conv => whnf
  cases h
  exact hK
set_option maxRecDepth 100000 in
theorem w_spec_l14After (k_spec_l14Edge' : SoundC Tryz.prog 89 c_spec_l14Edge) : SoundC Tryz.prog 69 c_spec_l14After := by
  refine fn_sound tab_ok (gam_cons k_spec_l14Edge' gam_nil) mixed { draws := [(1, [0, 0, 0, 6, 0, 30, 0, 64, 254, 0, 512, 2046, 0, 4096, 16382, 32767, 65535], .op 0 (.op 1 (.op 2 (.op 4 (.op 6 (.op 7 (.op 9 (.op 10 (.op 12 (.op 13 (.alt 3 (.op 5 (.op 8 (.op 11 (.op 14 (.op 15 (.op 16 (.done))))))) (.done))))))))))))] } (fn := Tryz.f69) Tryz.func69 (by kernel_rfl) (by kernel_rfl) ?_
  rintro ⟨w0, edge0, time0, ⟨⟩⟩ K ⟨r, h, hK⟩
  change spec_l14After w0 edge0 time0 = some r at h
  unfold spec_l14After at h
  conv => whnf
  refine ⟨by kernel_rfl, ?_⟩
  conv => whnf
  refine vBind h (fun l14Edge0 hb0 h => ?_)
  conv => whnf
  refine vPre h (fun hp1 h => ?_)
  conv => whnf
  refine ⟨hp1, ?_⟩
  conv => whnf
  cases h
  exact hK
set_option maxRecDepth 100000 in
theorem w_spec_l14Plain (k_spec_l03Name' : SoundC Tryz.prog 98 c_spec_l03Name) (k_spec_l01In' : SoundC Tryz.prog 66 c_spec_l01In) : SoundC Tryz.prog 85 c_spec_l14Plain := by
  refine fn_sound tab_ok (gam_cons k_spec_l03Name' (gam_cons k_spec_l01In' gam_nil)) mixed {} (fn := Tryz.f85) Tryz.func85 (by kernel_rfl) (by kernel_rfl) ?_
  rintro ⟨c0, ⟨⟩⟩ K ⟨r, h, hK⟩
  change spec_l14Plain c0 = some r at h
  unfold spec_l14Plain at h
  conv => whnf
  refine vBind h (fun l03Name0 hb0 h => ?_)
  conv => whnf
  refine vIfB h (fun h => ?_) (fun h => ?_)
  · conv => whnf
    refine vIfD h (fun h => ?_) (fun h => ?_)
    · conv => whnf
      refine vBind h (fun l01In0 hb1 h => ?_)
      conv => whnf
      refine vIfB h (fun h => ?_) (fun h => ?_)
      · conv => whnf
        refine vBind h (fun l01In1 hb2 h => ?_)
        conv => whnf
        refine vIfB h (fun h => ?_) (fun h => ?_)
        · conv => whnf
          refine vBind h (fun l01In2 hb3 h => ?_)
          conv => whnf
          cases h
          exact hK
        · conv => whnf
          cases h
          exact hK
      · conv => whnf
        cases h
        exact hK
    · conv => whnf
      cases h
      exact hK
  · conv => whnf
    cases h
    exact hK
end Go.Proofs.YtmaogoofmebdbaaGreatDoor
