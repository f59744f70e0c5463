/-
  The functions keep their contracts, if what they call does. Printed by program.
-/
import Derived.Test.YtmaogoofmebdbaaGreatDoorM
import Derived.KernelRfl
namespace Go.Proofs.YtmaogoofmebdbaaGreatDoor
open Go Go.Sx
set_option maxRecDepth 100000
set_option linter.unusedVariables false
set_option linter.unusedSimpArgs false
set_option maxRecDepth 100000 in
theorem w_impl_areWithin_c1 (k_impl_within' : SoundC Tryz.prog 74 c_impl_within) : SoundC Tryz.prog 73 c_impl_areWithin_c1 := by
  refine fn_sound tab_ok (gam_cons k_impl_within' gam_nil) mixed {} (fn := Tryz.f73) Tryz.func73 (by kernel_rfl) (by kernel_rfl) ?_
  rintro ⟨n0, a0, a1, ⟨⟩⟩ K ⟨r, h, hK⟩
  change impl_areWithin_c1 n0 a0 a1 = some r at h
  unfold impl_areWithin_c1 at h
  conv => whnf
  refine vBind h (fun within0 hb0 h => ?_)
  conv => whnf
  cases h
  exact hK
set_option maxRecDepth 100000 in
theorem w_impl_clockCode (k_impl_IsClocks' : SoundC Tryz.prog 46 c_impl_IsClocks) (k_impl_length_impl_Clock' : SoundC Tryz.prog 48 c_impl_length_impl_Clock) (k_impl_areWithin' : SoundC Tryz.prog 47 c_impl_areWithin) : SoundC Tryz.prog 23 c_impl_clockCode := by
  refine fn_sound tab_ok (gam_cons k_impl_IsClocks' (gam_cons k_impl_length_impl_Clock' (gam_cons k_impl_areWithin' gam_nil))) mixed {} (fn := Tryz.f23) Tryz.func23 (by kernel_rfl) (by kernel_rfl) ?_
  rintro ⟨list0, clocks0, ⟨⟩⟩ K ⟨r, h, hK⟩
  change impl_clockCode list0 clocks0 = some r at h
  unfold impl_clockCode at h
  conv => whnf
  refine vBind h (fun IsClocks0 hb0 h => ?_)
  conv => whnf
  refine vNots ?_
  refine vIfB h (fun h => ?_) (fun h => ?_)
  · conv => whnf
    refine vBind h (fun Clock0 hb1 h => ?_)
    conv => whnf
    refine vBind h (fun areWithin0 hb2 h => ?_)
    conv => whnf
    refine vNots ?_
    refine vIfB h (fun h => ?_) (fun h => ?_)
    · conv => whnf
      cases h
      exact hK
    · conv => whnf
      cases h
      exact hK
  · conv => whnf
    cases h
    exact hK
set_option maxRecDepth 100000 in
theorem w_impl_edges_setup (k_impl_edges_pairs' : SoundC Tryz.prog 41 c_impl_edges_pairs) : SoundC Tryz.prog 18 c_impl_edges_setup := by
  refine fn_sound tab_ok (gam_cons k_impl_edges_pairs' gam_nil) mixed { loops := [(0, [.reg 3 (.dat (.int .i64)), .reg 12 (.dat (.int .i64))])], draws := [(5, [0, 0, 2, 6, 0, 16, 48, 126, 255, 511], .op 0 (.op 1 (.op 2 (.op 3 (.op 4 (.op 5 (.op 6 (.op 7 (.op 8 (.op 9 (.done)))))))))))] } (fn := Tryz.f18) Tryz.func18 (by kernel_rfl) (by kernel_rfl) ?_
  rintro ⟨x0, ⟨⟩⟩ K ⟨r, h, hK⟩
  change impl_edges_setup x0 = some r at h
  unfold impl_edges_setup at h
  conv => whnf
  refine vBind h (fun pairs0 hb0 h => ?_)
  conv => whnf
  refine vLoop h ?_
  rintro I1 μ1 ⟨least0, v0, ⟨⟩⟩ zs1 h hI1 hR1
  change impl_edges_setup_loop0 pairs0 least0 v0 = some zs1 at h
  unfold impl_edges_setup_loop0 at h
  conv => whnf
  refine vIfD h (fun h => ?_) (fun h => ?_)
  · conv => whnf
    refine vAt h (fun x1 he2a he2b he2x h => ?_)
    conv => whnf
    refine ⟨by kernel_rfl, ?_⟩
    conv => whnf
    refine ⟨he2a, he2b, vAgain he2x ?_⟩
    conv => whnf
    refine ⟨by kernel_rfl, ?_⟩
    conv => whnf
    refine vAt h (fun x2 he3a he3b he3x h => ?_)
    conv => whnf
    refine vAt h (fun x3 he4a he4b he4x h => ?_)
    conv => whnf
    cases h
    exact ⟨⟨rfl, rfl⟩, hI1 _ rfl⟩
  · conv => whnf
    cases h
    obtain rfl := hR1 _ rfl
    exact hK
set_option maxRecDepth 100000 in
theorem w_impl_isName (k_impl_within' : SoundC Tryz.prog 74 c_impl_within) (k_strings_Trim' : SoundC Tryz.prog 99 c_strings_Trim) (k_strings_IndexByte' : SoundC Tryz.prog 100 c_strings_IndexByte) : SoundC Tryz.prog 91 c_impl_isName := by
  refine fn_sound tab_ok (gam_cons k_impl_within' (gam_cons k_strings_Trim' (gam_cons k_strings_IndexByte' gam_nil))) mixed {} (fn := Tryz.f91) Tryz.func91 (by kernel_rfl) (by kernel_rfl) ?_
  rintro ⟨s0, ⟨⟩⟩ K ⟨r, h, hK⟩
  change impl_isName s0 = some r at h
  unfold impl_isName at h
  conv => whnf
  refine vBind h (fun within0 hb0 h => ?_)
  conv => whnf
  refine vIfB h (fun h => ?_) (fun h => ?_)
  · conv => whnf
    refine vPre h (fun hp1 h => ?_)
    conv => whnf
    refine ⟨by decide, ?_⟩
    conv => whnf
    refine ⟨by kernel_rfl, ?_⟩
    conv => whnf
    refine vIfD h (fun h => ?_) (fun h => ?_)
    · conv => whnf
      refine vAt h (fun x0 he2a he2b he2x h => ?_)
      conv => whnf
      cases h
      exact hK
    · conv => whnf
      cases h
      exact hK
  · conv => whnf
    cases h
    exact hK
set_option maxRecDepth 100000 in
theorem w_laws_eqExternalS (k_laws_eqExternal' : SoundC Tryz.prog 57 c_laws_eqExternal) : SoundC Tryz.prog 34 c_laws_eqExternalS := by
  refine fn_sound tab_ok (gam_cons k_laws_eqExternal' gam_nil) mixed { loops := [(0, [.reg 5 (.dat (.int .i64))])], draws := [(6, [0, 0, 3, 7, 0, 0, 48, 112, 255, 511], .op 0 (.op 1 (.op 2 (.op 3 (.op 4 (.op 5 (.op 6 (.op 7 (.alt 8 (.op 9 (.done)) (.done))))))))))] } (fn := Tryz.f34) Tryz.func34 (by kernel_rfl) (by kernel_rfl) ?_
  rintro ⟨a0, b0, ⟨⟩⟩ K ⟨r, h, hK⟩
  change laws_eqExternalS a0 b0 = some r at h
  unfold laws_eqExternalS at h
  conv => whnf
  refine vNots ?_
  refine vIfD h (fun h => ?_) (fun h => ?_)
  · conv => whnf
    refine vLoop h ?_
    rintro I0 μ0 ⟨i0, ⟨⟩⟩ zs0 h hI0 hR0
    change laws_eqExternalS_loop0 a0 b0 i0 = some zs0 at h
    unfold laws_eqExternalS_loop0 at h
    conv => whnf
    refine vIfD h (fun h => ?_) (fun h => ?_)
    · conv => whnf
      refine ⟨by kernel_rfl, ?_⟩
      conv => whnf
      refine vAt h (fun x0 he1a he1b he1x h => ?_)
      conv => whnf
      refine vAt h (fun x1 he2a he2b he2x h => ?_)
      conv => whnf
      refine vBind h (fun eqExternal0 hb3 h => ?_)
      conv => whnf
      refine vNots ?_
      refine vIfB h (fun h => ?_) (fun h => ?_)
      · conv => whnf
        cases h
        exact ⟨⟨rfl, rfl⟩, hI0 _ rfl⟩
      · conv => whnf
        cases h
        obtain rfl := hR0 _ rfl
        exact hK
    · conv => whnf
      cases h
      obtain rfl := hR0 _ rfl
      exact hK
  · conv => whnf
    cases h
    exact hK
set_option maxRecDepth 100000 in
theorem w_laws_eqSpan : SoundC Tryz.prog 78 c_laws_eqSpan := by
  refine fn_sound tab_ok gam_nil mixed {} (fn := Tryz.f78) Tryz.func78 (by kernel_rfl) (by kernel_rfl) ?_
  rintro ⟨a0, b0, ⟨⟩⟩ K ⟨r, h, hK⟩
  change laws_eqSpan a0 b0 = some r at h
  unfold laws_eqSpan at h
  conv => whnf
  refine vNots ?_
  refine vIfD h (fun h => ?_) (fun h => ?_)
  · conv => whnf
    refine vNots ?_
    refine vIfD h (fun h => ?_) (fun h => ?_)
    · conv => whnf
      cases h
      exact hK
    · conv => whnf
      cases h
      exact hK
  · conv => whnf
    cases h
    exact hK
set_option maxRecDepth 100000 in
theorem w_laws_szClock : SoundC Tryz.prog 49 c_laws_szClock := by
  refine fn_sound tab_ok gam_nil mixed {} (fn := Tryz.f49) Tryz.func49 (by kernel_rfl) (by kernel_rfl) ?_
  rintro ⟨a0, left0, ⟨⟩⟩ K ⟨r, h, hK⟩
  change laws_szClock a0 left0 = some r at h
  unfold laws_szClock at h
  conv => whnf
  refine vIfD h (fun h => ?_) (fun h => ?_)
  · conv => whnf
    cases h
    exact hK
  · conv => whnf
    cases h
    exact hK
set_option maxRecDepth 100000 in
theorem w_laws_szException (k_laws_szInt64S' : SoundC Tryz.prog 75 c_laws_szInt64S) : SoundC Tryz.prog 50 c_laws_szException := by
  refine fn_sound tab_ok (gam_cons k_laws_szInt64S' gam_nil) mixed {} (fn := Tryz.f50) Tryz.func50 (by kernel_rfl) (by kernel_rfl) ?_
  rintro ⟨a0, left0, ⟨⟩⟩ K ⟨r, h, hK⟩
  change laws_szException a0 left0 = some r at h
  unfold laws_szException at h
  conv => whnf
  refine vBind h (fun szInt64S0 hb0 h => ?_)
  conv => whnf
  refine vIfD h (fun h => ?_) (fun h => ?_)
  · conv => whnf
    cases h
    exact hK
  · conv => whnf
    refine vBind h (fun szInt64S1 hb1 h => ?_)
    conv => whnf
    refine vIfD h (fun h => ?_) (fun h => ?_)
    · conv => whnf
      cases h
      exact hK
    · conv => whnf
      refine vBind h (fun szInt64S2 hb2 h => ?_)
      conv => whnf
      refine vIfD h (fun h => ?_) (fun h => ?_)
      · conv => whnf
        cases h
        exact hK
      · conv => whnf
        cases h
        exact hK
set_option maxRecDepth 100000 in
theorem w_laws_szExceptionS (k_laws_szException' : SoundC Tryz.prog 50 c_laws_szException) : SoundC Tryz.prog 27 c_laws_szExceptionS := by
  refine fn_sound tab_ok (gam_cons k_laws_szException' gam_nil) mixed { loops := [(0, [.reg 1 (.dat (.int .i64)), .reg 5 (.dat (.int .i64))])] } (fn := Tryz.f27) Tryz.func27 (by kernel_rfl) (by kernel_rfl) ?_
  rintro ⟨a0, left0, ⟨⟩⟩ K ⟨r, h, hK⟩
  change laws_szExceptionS a0 left0 = some r at h
  unfold laws_szExceptionS at h
  conv => whnf
  refine vIfD h (fun h => ?_) (fun h => ?_)
  · conv => whnf
    cases h
    exact hK
  · conv => whnf
    refine vLoop h ?_
    rintro I0 μ0 ⟨left1, i0, ⟨⟩⟩ zs0 h hI0 hR0
    change laws_szExceptionS_loop0 a0 left1 i0 = some zs0 at h
    unfold laws_szExceptionS_loop0 at h
    conv => whnf
    refine vIfD h (fun h => ?_) (fun h => ?_)
    · conv => whnf
      refine vAt h (fun x0 he1a he1b he1x h => ?_)
      conv => whnf
      refine vBind h (fun szException0 hb2 h => ?_)
      conv => whnf
      refine vIfD h (fun h => ?_) (fun h => ?_)
      · conv => whnf
        cases h
        obtain rfl := hR0 _ rfl
        exact hK
      · conv => whnf
        cases h
        exact ⟨⟨rfl, rfl⟩, hI0 _ rfl⟩
    · conv => whnf
      cases h
      obtain rfl := hR0 _ rfl
      exact hK
set_option maxRecDepth 100000 in
theorem w_laws_szInt64S : SoundC Tryz.prog 75 c_laws_szInt64S := by
  refine fn_sound tab_ok gam_nil mixed {} (fn := Tryz.f75) Tryz.func75 (by kernel_rfl) (by kernel_rfl) ?_
  rintro ⟨a0, left0, ⟨⟩⟩ K ⟨r, h, hK⟩
  change laws_szInt64S a0 left0 = some r at h
  unfold laws_szInt64S at h
  conv => whnf
  refine vIfD h (fun h => ?_) (fun h => ?_)
  · conv => whnf
    cases h
    exact hK
  · conv => whnf
    cases h
    exact hK
set_option maxRecDepth 100000 in
theorem w_laws_szSetup (k_laws_szClockS' : SoundC Tryz.prog 25 c_laws_szClockS) (k_laws_szExternalS' : SoundC Tryz.prog 26 c_laws_szExternalS) (k_laws_szExceptionS' : SoundC Tryz.prog 27 c_laws_szExceptionS) (k_laws_szCornerS' : SoundC Tryz.prog 28 c_laws_szCornerS) : SoundC Tryz.prog 10 c_laws_szSetup := by
  refine fn_sound tab_ok (gam_cons k_laws_szClockS' (gam_cons k_laws_szExternalS' (gam_cons k_laws_szExceptionS' (gam_cons k_laws_szCornerS' gam_nil)))) mixed {} (fn := Tryz.f10) Tryz.func10 (by kernel_rfl) (by kernel_rfl) ?_
  rintro ⟨a0, left0, ⟨⟩⟩ K ⟨r, h, hK⟩
  change laws_szSetup a0 left0 = some r at h
  unfold laws_szSetup at h
  conv => whnf
  refine vBind h (fun szClockS0 hb0 h => ?_)
  conv => whnf
  refine vIfD h (fun h => ?_) (fun h => ?_)
  · conv => whnf
    cases h
    exact hK
  · conv => whnf
    refine vBind h (fun szExternalS0 hb1 h => ?_)
    conv => whnf
    refine vIfD h (fun h => ?_) (fun h => ?_)
    · conv => whnf
      cases h
      exact hK
    · conv => whnf
      refine vBind h (fun szExternalS1 hb2 h => ?_)
      conv => whnf
      refine vIfD h (fun h => ?_) (fun h => ?_)
      · conv => whnf
        cases h
        exact hK
      · conv => whnf
        refine vBind h (fun szExceptionS0 hb3 h => ?_)
        conv => whnf
        refine vIfD h (fun h => ?_) (fun h => ?_)
        · conv => whnf
          cases h
          exact hK
        · conv => whnf
          refine vBind h (fun szCornerS0 hb4 h => ?_)
          conv => whnf
          refine vIfD h (fun h => ?_) (fun h => ?_)
          · conv => whnf
            cases h
            exact hK
          · conv => whnf
            cases h
            exact hK
set_option maxRecDepth 100000 in
theorem w_laws_toClock : SoundC Tryz.prog 52 c_laws_toClock := by
  refine fn_sound tab_ok gam_nil mixed {} (fn := Tryz.f52) Tryz.func52 (by kernel_rfl) (by kernel_rfl) ?_
  rintro ⟨a0, ⟨⟩⟩ K ⟨r, h, hK⟩
  change laws_toClock a0 = some r at h
  unfold laws_toClock at h
  conv => whnf
  cases h
  exact hK
set_option maxRecDepth 100000 in
theorem w_laws_toCornerS (k_laws_toCorner' : SoundC Tryz.prog 55 c_laws_toCorner) : SoundC Tryz.prog 32 c_laws_toCornerS := by
  refine fn_sound tab_ok (gam_cons k_laws_toCorner' gam_nil) mixed { loops := [(0, [.reg 4 (.dat (.int .i64)), .reg 3 (.own 100 (tCorner))])] } (fn := Tryz.f32) Tryz.func32 (by kernel_rfl) (by kernel_rfl) ?_
  rintro ⟨a0, ⟨⟩⟩ K ⟨r, h, hK⟩
  change laws_toCornerS a0 = some r at h
  unfold laws_toCornerS at h
  conv => whnf
  refine vPre h (fun hp0 h => ?_)
  conv => whnf
  refine vPre h (fun hp1 h => ?_)
  conv => whnf
  refine vPre h (fun hp2 h => ?_)
  conv => whnf
  refine vPre h (fun hp3 h => ?_)
  conv => whnf
  refine vLoop h ?_
  rintro I4 μ4 ⟨i0, out0, ⟨⟩⟩ zs4 h hI4 hR4
  change laws_toCornerS_loop0 a0 i0 out0 = some zs4 at h
  unfold laws_toCornerS_loop0 at h
  conv => whnf
  refine vIfD h (fun h => ?_) (fun h => ?_)
  · conv => whnf
    refine vAt h (fun x0 he5a he5b he5x h => ?_)
    conv => whnf
    refine vBind h (fun toCorner0 hb6 h => ?_)
    conv => whnf
    refine vAt h (fun x1 he7a he7b he7x h => ?_)
    conv => whnf
    refine ⟨by kernel_rfl, ?_⟩
    conv => whnf
    refine ⟨by decide, ?_⟩
    conv => whnf
    refine ⟨he7a, he7b, vAgain he7x ?_⟩
    conv => whnf
    cases h
    exact ⟨⟨rfl, rfl⟩, hI4 _ rfl⟩
  · conv => whnf
    cases h
    obtain rfl := hR4 _ rfl
    exact hK
set_option maxRecDepth 100000 in
theorem w_slices_ContainsFunc_Sint64_int64_at_impl_areWithin_c1 (k_slices_IndexFunc_Sint64_int64_at_impl_areWithin_c1' : SoundC Tryz.prog 93 c_slices_IndexFunc_Sint64_int64_at_impl_areWithin_c1) : SoundC Tryz.prog 72 c_slices_ContainsFunc_Sint64_int64_at_impl_areWithin_c1 := by
  refine fn_sound tab_ok (gam_cons k_slices_IndexFunc_Sint64_int64_at_impl_areWithin_c1' gam_nil) mixed {} (fn := Tryz.f72) Tryz.func72 (by kernel_rfl) (by kernel_rfl) ?_
  rintro ⟨s0, f0, ⟨⟩⟩ K ⟨r, h, hK⟩
  change slices_ContainsFunc_Sint64_int64_at_impl_areWithin_c1 s0 f0 = some r at h
  unfold slices_ContainsFunc_Sint64_int64_at_impl_areWithin_c1 at h
  conv => whnf
  refine vBind h (fun c1_0 hb0 h => ?_)
  conv => whnf
  cases h
  exact hK
set_option maxRecDepth 100000 in
theorem w_spec_l01Next : SoundC Tryz.prog 16 c_spec_l01Next := by
  refine fn_sound tab_ok gam_nil mixed { draws := [(3, [0, 1, 3, 7, 0, 16, 48, 112, 240, 511], .op 0 (.op 1 (.op 2 (.op 3 (.op 4 (.op 5 (.op 6 (.op 7 (.op 8 (.op 9 (.done))))))))))), (4, [0, 1, 3, 7, 0, 16, 48, 112, 255, 511, 1023, 2047], .op 0 (.op 1 (.op 2 (.op 3 (.op 4 (.op 5 (.op 6 (.op 7 (.op 8 (.op 9 (.alt 10 (.op 11 (.done)) (.done))))))))))))] } (fn := Tryz.f16) Tryz.func16 (by kernel_rfl) (by kernel_rfl) ?_
  rintro ⟨a0, a1, ⟨⟩⟩ K ⟨r, h, hK⟩
  change spec_l01Next a0 a1 = some r at h
  unfold spec_l01Next at h
  conv => whnf
  refine vIfD h (fun h => ?_) (fun h => ?_)
  · conv => whnf
    cases h
    exact hK
  · conv => whnf
    refine ⟨by kernel_rfl, ?_⟩
    conv => whnf
    refine vIfD h (fun h => ?_) (fun h => ?_)
    · conv => whnf
      refine ⟨by kernel_rfl, ?_⟩
      conv => whnf
      refine vAt h (fun x0 he0a he0b he0x h => ?_)
      conv => whnf
      refine vIfD h (fun h => ?_) (fun h => ?_)
      · conv => whnf
        refine vPre h (fun hp1 h => ?_)
        conv => whnf
        cases h
        exact hK
      · conv => whnf
        refine ⟨by decide, ?_⟩
        conv => whnf
        refine vPre h (fun hp2 h => ?_)
        conv => whnf
        cases h
        exact hK
    · conv => whnf
      refine ⟨by decide, ?_⟩
      conv => whnf
      refine ⟨by decide, ?_⟩
      conv => whnf
      refine vPre h (fun hp3 h => ?_)
      conv => whnf
      cases h
      exact hK
set_option maxRecDepth 100000 in
theorem w_spec_l02Draw (k_spec_l02DrawAxis' : SoundC Tryz.prog 122 c_spec_l02DrawAxis) (k_spec_l01Next' : SoundC Tryz.prog 16 c_spec_l01Next) : SoundC Tryz.prog 118 c_spec_l02Draw := by
  refine fn_sound tab_ok (gam_cons k_spec_l02DrawAxis' (gam_cons k_spec_l01Next' gam_nil)) mixed { loops := [(0, [.reg 7 (.own 2 (.int .i64)), .reg 9 (.dat (.int .i64)), .cell 0 0 (.sl (.int .u8)), .cell 0 1 (.int .i64), .cell 0 2 (.int .i64)])], draws := [(10, [0, 0, 0, 4, 14, 30, 0, 64, 254, 511, 1023], .op 0 (.op 1 (.op 2 (.op 3 (.op 4 (.op 6 (.alt 5 (.alt 7 (.op 8 (.op 9 (.op 10 (.done)))) (.done)) (.alt 7 (.alt 5 (.op 8 (.op 9 (.op 10 (.done)))) (.done)) (.done))))))))), (12, [0, 0, 0, 0, 12, 30, 62, 0, 128, 510, 1023, 2047], .op 0 (.op 1 (.op 2 (.op 3 (.op 4 (.op 5 (.op 7 (.alt 6 (.alt 8 (.op 9 (.op 10 (.op 11 (.done)))) (.done)) (.alt 8 (.alt 6 (.op 9 (.op 10 (.op 11 (.done)))) (.done)) (.done))))))))))] } (fn := Tryz.f118) Tryz.func118 (by kernel_rfl) (by kernel_rfl) ?_
  rintro ⟨a0, a1, ⟨⟩⟩ K ⟨r, h, hK⟩
  change spec_l02Draw a0 a1 = some r at h
  unfold spec_l02Draw at h
  conv => whnf
  refine vBind h (fun l02DrawAxis0 hb0 h => ?_)
  conv => whnf
  refine vBind h (fun l02DrawAxis1 hb1 h => ?_)
  conv => whnf
  refine vLoop h ?_
  rintro I2 μ2 ⟨v0, v1, c0, c1, c2, ⟨⟩⟩ zs2 h hI2 hR2
  change spec_l02Draw_loop0 a1 l02DrawAxis0 l02DrawAxis1 v0 v1 c0 c1 c2 = some zs2 at h
  unfold spec_l02Draw_loop0 at h
  conv => whnf
  refine vIfD h (fun h => ?_) (fun h => ?_)
  · conv => whnf
    refine vBind h (fun l01Next0 hb3 h => ?_)
    conv => whnf
    refine vPre h (fun hp4 h => ?_)
    conv => whnf
    refine vIfD h (fun h => ?_) (fun h => ?_)
    · conv => whnf
      refine ⟨by kernel_rfl, ?_⟩
      conv => whnf
      refine vAt h (fun x0 he5a he5b he5x h => ?_)
      conv => whnf
      refine ⟨?_, ?_⟩
      · conv => whnf
        refine ⟨by kernel_rfl, ?_⟩
        conv => whnf
        refine ⟨he5a, he5b, vAgain he5x ?_⟩
        conv => whnf
        refine vBind h (fun l01Next1 hb6 h => ?_)
        conv => whnf
        refine vIfD h (fun h => ?_) (fun h => ?_)
        · conv => whnf
          refine ⟨by kernel_rfl, ?_⟩
          conv => whnf
          refine vAt h (fun x1 he7a he7b he7x h => ?_)
          conv => whnf
          refine ⟨?_, ?_⟩
          · conv => whnf
            refine ⟨by kernel_rfl, ?_⟩
            conv => whnf
            refine ⟨he7a, he7b, vAgain he7x ?_⟩
            conv => whnf
            refine vBind h (fun l01Next2 hb8 h => ?_)
            conv => whnf
            refine vPre h (fun hp9 h => ?_)
            conv => whnf
            cases h
            exact ⟨⟨rfl, rfl⟩, hI2 _ rfl⟩
          · obtain ⟨l01Next2, hb8, h⟩ := Option.bind_eq_some_iff.1 h
            obtain ⟨hp9, h⟩ := guardE h
            conv => whnf
            refine ⟨_, hb8, ?_⟩
            conv => whnf
            refine ⟨by kernel_rfl, ?_⟩
            conv => whnf
            refine ⟨he7a, he7b, vAgain he7x ?_⟩
            conv => whnf
            refine ⟨hp9, ?_⟩
            conv => whnf
            cases h
            exact ⟨⟨rfl, rfl⟩, hI2 _ rfl⟩
        · conv => whnf
          refine vPre h (fun hp10 h => ?_)
          conv => whnf
          cases h
          exact ⟨⟨rfl, rfl⟩, hI2 _ rfl⟩
      · obtain ⟨l01Next1, hb6, h⟩ := Option.bind_eq_some_iff.1 h
        conv => whnf
        refine ⟨_, hb6, ?_⟩
        conv => whnf
        refine ⟨by kernel_rfl, ?_⟩
        conv => whnf
        refine ⟨he5a, he5b, vAgain he5x ?_⟩
        conv => whnf
        refine vIfD h (fun h => ?_) (fun h => ?_)
        · conv => whnf
          refine ⟨by kernel_rfl, ?_⟩
          conv => whnf
          refine vAt h (fun x1 he11a he11b he11x h => ?_)
          conv => whnf
          refine ⟨?_, ?_⟩
          · conv => whnf
            refine ⟨by kernel_rfl, ?_⟩
            conv => whnf
            refine ⟨he11a, he11b, vAgain he11x ?_⟩
            conv => whnf
            refine vBind h (fun l01Next2 hb12 h => ?_)
            conv => whnf
            refine vPre h (fun hp13 h => ?_)
            conv => whnf
            cases h
            exact ⟨⟨rfl, rfl⟩, hI2 _ rfl⟩
          · obtain ⟨l01Next2, hb12, h⟩ := Option.bind_eq_some_iff.1 h
            obtain ⟨hp13, h⟩ := guardE h
            conv => whnf
            refine ⟨_, hb12, ?_⟩
            conv => whnf
            refine ⟨by kernel_rfl, ?_⟩
            conv => whnf
            refine ⟨he11a, he11b, vAgain he11x ?_⟩
            conv => whnf
            refine ⟨hp13, ?_⟩
            conv => whnf
            cases h
            exact ⟨⟨rfl, rfl⟩, hI2 _ rfl⟩
        · conv => whnf
          refine vPre h (fun hp14 h => ?_)
          conv => whnf
          cases h
          exact ⟨⟨rfl, rfl⟩, hI2 _ rfl⟩
    · conv => whnf
      refine vIfD h (fun h => ?_) (fun h => ?_)
      · conv => whnf
        refine ⟨by kernel_rfl, ?_⟩
        conv => whnf
        refine vAt h (fun x0 he15a he15b he15x h => ?_)
        conv => whnf
        refine ⟨?_, ?_⟩
        · conv => whnf
          refine ⟨by kernel_rfl, ?_⟩
          conv => whnf
          refine ⟨he15a, he15b, vAgain he15x ?_⟩
          conv => whnf
          refine vBind h (fun l01Next1 hb16 h => ?_)
          conv => whnf
          refine vPre h (fun hp17 h => ?_)
          conv => whnf
          cases h
          exact ⟨⟨rfl, rfl⟩, hI2 _ rfl⟩
        · obtain ⟨l01Next1, hb16, h⟩ := Option.bind_eq_some_iff.1 h
          obtain ⟨hp17, h⟩ := guardE h
          conv => whnf
          refine ⟨_, hb16, ?_⟩
          conv => whnf
          refine ⟨by kernel_rfl, ?_⟩
          conv => whnf
          refine ⟨he15a, he15b, vAgain he15x ?_⟩
          conv => whnf
          refine ⟨hp17, ?_⟩
          conv => whnf
          cases h
          exact ⟨⟨rfl, rfl⟩, hI2 _ rfl⟩
      · conv => whnf
        refine vPre h (fun hp18 h => ?_)
        conv => whnf
        cases h
        exact ⟨⟨rfl, rfl⟩, hI2 _ rfl⟩
  · conv => whnf
    cases h
    obtain rfl := hR2 _ rfl
    exact hK
set_option maxRecDepth 100000 in
theorem w_spec_l02DrawAxis (k_spec_l01Next' : SoundC Tryz.prog 16 c_spec_l01Next) : SoundC Tryz.prog 122 c_spec_l02DrawAxis := by
  refine fn_sound tab_ok (gam_cons k_spec_l01Next' gam_nil) mixed { loops := [(0, [.reg 5 (.own 2 (.int .i64)), .reg 6 (.dat (.int .i64)), .reg 7 (.dat (.int .i64)), .cell 0 0 (.sl (.int .u8)), .cell 0 1 (.int .i64), .cell 0 2 (.int .i64)])] } (fn := Tryz.f122) Tryz.func122 (by kernel_rfl) (by kernel_rfl) ?_
  rintro ⟨s0, step0, ⟨⟩⟩ K ⟨r, h, hK⟩
  change spec_l02DrawAxis s0 step0 = some r at h
  unfold spec_l02DrawAxis at h
  conv => whnf
  refine vBind h (fun l01Next0 hb0 h => ?_)
  conv => whnf
  refine vBind h (fun l01Next1 hb1 h => ?_)
  conv => whnf
  refine vLoop h ?_
  rintro I2 μ2 ⟨out0, at0, n0, c0, c1, c2, ⟨⟩⟩ zs2 h hI2 hR2
  change spec_l02DrawAxis_loop0 step0 out0 at0 n0 c0 c1 c2 = some zs2 at h
  unfold spec_l02DrawAxis_loop0 at h
  conv => whnf
  refine vIfD h (fun h => ?_) (fun h => ?_)
  · conv => whnf
    refine vPre h (fun hp3 h => ?_)
    conv => whnf
    refine vBind h (fun l01Next2 hb4 h => ?_)
    conv => whnf
    cases h
    exact ⟨⟨rfl, rfl⟩, hI2 _ rfl⟩
  · conv => whnf
    cases h
    obtain rfl := hR2 _ rfl
    exact hK
set_option maxRecDepth 100000 in
theorem w_spec_l05Places : SoundC Tryz.prog 61 c_spec_l05Places := by
  refine fn_sound tab_ok gam_nil mixed { loops := [(0, [.reg 3 (.own 138 (tl05Place)), .reg 4 (.dat (.int .i64))]), (2, [.reg 3 (.own 138 (tl05Place)), .reg 6 (.dat (.int .i64))]), (4, [.reg 3 (.own 138 (tl05Place)), .reg 7 (.dat (.int .i64))])], draws := [(13, [0, 0, 0, 4, 0, 28, 60, 124, 0, 256, 0, 1792, 3840, 7936, 16128, 32766, 65534, 131071, 262143], .op 0 (.op 1 (.op 2 (.op 3 (.op 4 (.op 5 (.op 6 (.op 7 (.op 8 (.op 9 (.op 10 (.op 11 (.op 12 (.op 13 (.op 14 (.op 15 (.alt 16 (.alt 17 (.op 18 (.done)) (.done)) (.done))))))))))))))))))] } (fn := Tryz.f61) Tryz.func61 (by kernel_rfl) (by kernel_rfl) ?_
  rintro ⟨a0, ⟨⟩⟩ K ⟨r, h, hK⟩
  change spec_l05Places a0 = some r at h
  unfold spec_l05Places at h
  conv => whnf
  refine vLoop h ?_
  rintro I0 μ0 ⟨v0, v1, ⟨⟩⟩ zs0 h hI0 hR0
  change spec_l05Places_loop2 a0 v0 v1 = some zs0 at h
  unfold spec_l05Places_loop2 at h
  conv => whnf
  refine vIfD h (fun h => ?_) (fun h => ?_)
  · conv => whnf
    refine vAt h (fun x0 he1a he1b he1x h => ?_)
    conv => whnf
    refine vLoop h ?_
    rintro I2 μ2 ⟨v2, v3, ⟨⟩⟩ zs2 h hI2 hR2
    change spec_l05Places_loop0 v1 x0 v2 v3 = some zs2 at h
    unfold spec_l05Places_loop0 at h
    conv => whnf
    refine vIfD h (fun h => ?_) (fun h => ?_)
    · conv => whnf
      refine vAt h (fun x1 he3a he3b he3x h => ?_)
      conv => whnf
      refine vPre h (fun hp4 h => ?_)
      conv => whnf
      cases h
      exact ⟨⟨rfl, rfl⟩, hI2 _ rfl⟩
    · conv => whnf
      cases h
      obtain rfl := hR2 _ rfl
      exact ⟨⟨rfl, rfl⟩, hI0 _ rfl⟩
  · conv => whnf
    refine vLoop h ?_
    rintro I5 μ5 ⟨v2, v3, ⟨⟩⟩ zs5 h hI5 hR5
    change spec_l05Places_loop1 a0 v2 v3 = some zs5 at h
    unfold spec_l05Places_loop1 at h
    conv => whnf
    refine vIfD h (fun h => ?_) (fun h => ?_)
    · conv => whnf
      refine ⟨by kernel_rfl, ?_⟩
      conv => whnf
      refine vAt h (fun x0 he6a he6b he6x h => ?_)
      conv => whnf
      refine ⟨he6a, he6b, vAgain he6x ?_⟩
      conv => whnf
      refine vPre h (fun hp7 h => ?_)
      conv => whnf
      cases h
      exact ⟨⟨rfl, rfl⟩, hI5 _ rfl⟩
    · conv => whnf
      cases h
      obtain rfl := hR5 _ rfl
      obtain rfl := hR0 _ rfl
      exact hK
set_option maxRecDepth 100000 in
theorem w_spec_l14Code (k_spec_IsClocks' : SoundC Tryz.prog 63 c_spec_IsClocks) (k_spec_l01In' : SoundC Tryz.prog 66 c_spec_l01In) : SoundC Tryz.prog 45 c_spec_l14Code := by
  refine fn_sound tab_ok (gam_cons k_spec_IsClocks' (gam_cons k_spec_l01In' gam_nil)) mixed {} (fn := Tryz.f45) Tryz.func45 (by kernel_rfl) (by kernel_rfl) ?_
  rintro ⟨list0, k0, ⟨⟩⟩ K ⟨r, h, hK⟩
  change spec_l14Code list0 k0 = some r at h
  unfold spec_l14Code at h
  conv => whnf
  refine vBind h (fun IsClocks0 hb0 h => ?_)
  conv => whnf
  refine vNots ?_
  refine vIfB h (fun h => ?_) (fun h => ?_)
  · conv => whnf
    refine vBind h (fun l01In0 hb1 h => ?_)
    conv => whnf
    refine vNots ?_
    refine vIfB h (fun h => ?_) (fun h => ?_)
    · conv => whnf
      cases h
      exact hK
    · conv => whnf
      cases h
      exact hK
  · conv => whnf
    cases h
    exact hK
set_option maxRecDepth 100000 in
theorem w_spec_l14Primary (k_spec_l01In' : SoundC Tryz.prog 66 c_spec_l01In) : SoundC Tryz.prog 86 c_spec_l14Primary := by
  refine fn_sound tab_ok (gam_cons k_spec_l01In' gam_nil) mixed {} (fn := Tryz.f86) Tryz.func86 (by kernel_rfl) (by kernel_rfl) ?_
  rintro ⟨c0, ⟨⟩⟩ K ⟨r, h, hK⟩
  change spec_l14Primary c0 = some r at h
  unfold spec_l14Primary at h
  conv => whnf
  refine vBind h (fun l01In0 hb0 h => ?_)
  conv => whnf
  refine vIfB h (fun h => ?_) (fun h => ?_)
  · conv => whnf
    refine vBind h (fun l01In1 hb1 h => ?_)
    conv => whnf
    refine vIfB h (fun h => ?_) (fun h => ?_)
    · conv => whnf
      refine vBind h (fun l01In2 hb2 h => ?_)
      conv => whnf
      refine vIfB h (fun h => ?_) (fun h => ?_)
      · conv => whnf
        refine vNots ?_
        refine vIfD h (fun h => ?_) (fun h => ?_)
        · conv => whnf
          cases h
          exact hK
        · conv => whnf
          refine vIfD h (fun h => ?_) (fun h => ?_)
          · conv => whnf
            cases h
            exact hK
          · conv => whnf
            cases h
            exact hK
      · conv => whnf
        cases h
        exact hK
    · conv => whnf
      cases h
      exact hK
  · conv => whnf
    cases h
    exact hK
set_option maxRecDepth 100000 in
theorem w_spec_l14Root : SoundC Tryz.prog 67 c_spec_l14Root := by
  refine fn_sound tab_ok gam_nil mixed { loops := [(0, [.reg 1 (.dat (.int .i64))])] } (fn := Tryz.f67) Tryz.func67 (by kernel_rfl) (by kernel_rfl) ?_
  rintro ⟨list0, k0, ⟨⟩⟩ K ⟨r, h, hK⟩
  change spec_l14Root list0 k0 = some r at h
  unfold spec_l14Root at h
  conv => whnf
  refine vLoop h ?_
  rintro I0 μ0 ⟨k1, ⟨⟩⟩ zs0 h hI0 hR0
  change spec_l14Root_loop0 list0 k1 = some zs0 at h
  unfold spec_l14Root_loop0 at h
  conv => whnf
  refine vAt h (fun x0 he1a he1b he1x h => ?_)
  conv => whnf
  refine vIfD h (fun h => ?_) (fun h => ?_)
  · conv => whnf
    refine ⟨he1a, he1b, vAgain he1x ?_⟩
    conv => whnf
    cases h
    exact ⟨⟨rfl, rfl⟩, hI0 _ rfl⟩
  · conv => whnf
    cases h
    obtain rfl := hR0 _ rfl
    exact hK
set_option maxRecDepth 100000 in
theorem w_spec_l15Code (k_spec_IsClocks' : SoundC Tryz.prog 63 c_spec_IsClocks) (k_spec_l01In' : SoundC Tryz.prog 66 c_spec_l01In) (k_spec_l14Root' : SoundC Tryz.prog 67 c_spec_l14Root) (k_spec_l14Hyper' : SoundC Tryz.prog 68 c_spec_l14Hyper) (k_spec_l14Of' : SoundC Tryz.prog 44 c_spec_l14Of) : SoundC Tryz.prog 42 c_spec_l15Code := by
  refine fn_sound tab_ok (gam_cons k_spec_IsClocks' (gam_cons k_spec_l01In' (gam_cons k_spec_l14Root' (gam_cons k_spec_l14Hyper' (gam_cons k_spec_l14Of' gam_nil))))) mixed {} (fn := Tryz.f42) Tryz.func42 (by kernel_rfl) (by kernel_rfl) ?_
  rintro ⟨list0, a0, ea0, b0, eb0, ⟨⟩⟩ K ⟨r, h, hK⟩
  change spec_l15Code list0 a0 ea0 b0 eb0 = some r at h
  unfold spec_l15Code at h
  conv => whnf
  refine vBind h (fun IsClocks0 hb0 h => ?_)
  conv => whnf
  refine vNots ?_
  refine vIfB h (fun h => ?_) (fun h => ?_)
  · conv => whnf
    refine vBind h (fun l01In0 hb1 h => ?_)
    conv => whnf
    refine vNot ?_
    refine vIfB h (fun h => ?_) (fun h => ?_)
    · conv => whnf
      refine vBind h (fun l01In1 hb2 h => ?_)
      conv => whnf
      refine vNots ?_
      refine vIfB h (fun h => ?_) (fun h => ?_)
      · conv => whnf
        refine vBind h (fun l01In2 hb3 h => ?_)
        conv => whnf
        refine vNot ?_
        refine vIfB h (fun h => ?_) (fun h => ?_)
        · conv => whnf
          refine vBind h (fun l01In3 hb4 h => ?_)
          conv => whnf
          refine vNots ?_
          refine vIfB h (fun h => ?_) (fun h => ?_)
          · conv => whnf
            refine vBind h (fun l14Root0 hb5 h => ?_)
            conv => whnf
            refine vBind h (fun l14Root1 hb6 h => ?_)
            conv => whnf
            refine vNots ?_
            refine vIfD h (fun h => ?_) (fun h => ?_)
            · conv => whnf
              refine vBind h (fun l14Hyper0 hb7 h => ?_)
              conv => whnf
              refine vIfDs h (fun h => ?_) (fun h => ?_)
              · conv => whnf
                cases h
                exact hK
              · conv => whnf
                refine vBind h (fun l14Of0 hb8 h => ?_)
                conv => whnf
                refine vPre h (fun hp9 h => ?_)
                conv => whnf
                refine vIfD h (fun h => ?_) (fun h => ?_)
                · conv => whnf
                  cases h
                  exact hK
                · conv => whnf
                  cases h
                  exact hK
            · conv => whnf
              cases h
              exact hK
          · conv => whnf
            cases h
            exact hK
        · conv => whnf
          cases h
          exact hK
      · conv => whnf
        cases h
        exact hK
    · conv => whnf
      cases h
      exact hK
  · conv => whnf
    cases h
    exact hK
end Go.Proofs.YtmaogoofmebdbaaGreatDoor
