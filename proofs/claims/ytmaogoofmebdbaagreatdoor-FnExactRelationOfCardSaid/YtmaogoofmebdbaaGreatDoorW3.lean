/-
  The functions keep their contracts, if what they call does. Printed by program.
-/
import Derived.Test.YtmaogoofmebdbaaGreatDoorM
import Derived.KernelRfl
namespace Go.Proofs.YtmaogoofmebdbaaGreatDoor
open Go Go.Sx
set_option maxRecDepth 100000
set_option linter.unusedVariables false
set_option linter.unusedSimpArgs false
set_option maxRecDepth 100000 in
theorem w_impl_RelationOf (k_impl_edgesOf' : SoundC Tryz.prog 17 c_impl_edgesOf) (k_impl_edges_setup' : SoundC Tryz.prog 18 c_impl_edges_setup) (k_impl_edges_hold' : SoundC Tryz.prog 19 c_impl_edges_hold) : SoundC Tryz.prog 7 c_impl_RelationOf := by
  refine fn_sound tab_ok (gam_cons k_impl_edgesOf' (gam_cons k_impl_edges_setup' (gam_cons k_impl_edges_hold' gam_nil))) mixed { draws := [(4, [0, 1, 0, 7, 0, 16, 0, 112, 240, 496, 0, 1024, 0, 7168, 15360, 31744, 65520, 131071, 262143, 524287], .op 0 (.op 2 (.op 4 (.op 5 (.op 6 (.op 7 (.op 8 (.op 9 (.op 10 (.op 11 (.op 12 (.op 13 (.op 14 (.op 15 (.op 16 (.alt 1 (.alt 3 (.op 17 (.alt 18 (.op 19 (.done)) (.done))) (.done)) (.done)))))))))))))))))] } (fn := Tryz.f7) Tryz.func7 (by kernel_rfl) (by kernel_rfl) ?_
  rintro ⟨s0, from0, to0, ⟨⟩⟩ K ⟨r, h, hK⟩
  change impl_RelationOf s0 from0 to0 = some r at h
  unfold impl_RelationOf at h
  conv => whnf
  refine vBind h (fun edgesOf0 hb0 h => ?_)
  conv => whnf
  refine vNots ?_
  refine vIfD h (fun h => ?_) (fun h => ?_)
  · conv => whnf
    refine ⟨by kernel_rfl, ?_⟩
    conv => whnf
    refine vAt h (fun x0 he1a he1b he1x h => ?_)
    conv => whnf
    refine vAt h (fun x1 he2a he2b he2x h => ?_)
    conv => whnf
    refine vBind h (fun setup0 hb3 h => ?_)
    conv => whnf
    refine vBind h (fun hold0 hb4 h => ?_)
    conv => whnf
    cases h
    exact hK
  · conv => whnf
    cases h
    exact hK
set_option maxRecDepth 100000 in
theorem w_impl_WaveOf (k_impl_clockCode' : SoundC Tryz.prog 23 c_impl_clockCode) (k_impl_waveOf' : SoundC Tryz.prog 24 c_impl_waveOf) : SoundC Tryz.prog 9 c_impl_WaveOf := by
  refine fn_sound tab_ok (gam_cons k_impl_clockCode' (gam_cons k_impl_waveOf' gam_nil)) mixed { draws := [(5, [0, 1, 0, 4, 12, 0, 32, 96, 3, 287, 1023, 2047], .op 0 (.op 1 (.op 2 (.op 3 (.op 4 (.op 5 (.op 6 (.op 7 (.op 8 (.op 9 (.op 10 (.op 11 (.done)))))))))))))] } (fn := Tryz.f9) Tryz.func9 (by kernel_rfl) (by kernel_rfl) ?_
  rintro ⟨list0, k0, ⟨⟩⟩ K ⟨r, h, hK⟩
  change impl_WaveOf list0 k0 = some r at h
  unfold impl_WaveOf at h
  conv => whnf
  refine vBind h (fun clockCode0 hb0 h => ?_)
  conv => whnf
  refine vNots ?_
  refine vIfD h (fun h => ?_) (fun h => ?_)
  · conv => whnf
    refine vBind h (fun waveOf0 hb1 h => ?_)
    conv => whnf
    refine ⟨by kernel_rfl, ?_⟩
    conv => whnf
    cases h
    exact hK
  · conv => whnf
    cases h
    exact hK
set_option maxRecDepth 100000 in
theorem w_impl_areNames (k_impl_isName' : SoundC Tryz.prog 91 c_impl_isName) (k_slices_Contains_Sstring_string' : SoundC Tryz.prog 92 c_slices_Contains_Sstring_string) : SoundC Tryz.prog 71 c_impl_areNames := by
  refine fn_sound tab_ok (gam_cons k_impl_isName' (gam_cons k_slices_Contains_Sstring_string' gam_nil)) mixed { loops := [(0, [.reg 7 (.dat (.int .i64))])] } (fn := Tryz.f71) Tryz.func71 (by kernel_rfl) (by kernel_rfl) ?_
  rintro ⟨list0, ⟨⟩⟩ K ⟨r, h, hK⟩
  change impl_areNames list0 = some r at h
  unfold impl_areNames at h
  conv => whnf
  refine vLoop h ?_
  rintro I0 μ0 ⟨v0, ⟨⟩⟩ zs0 h hI0 hR0
  change impl_areNames_loop0 list0 v0 = some zs0 at h
  unfold impl_areNames_loop0 at h
  conv => whnf
  refine vIfD h (fun h => ?_) (fun h => ?_)
  · conv => whnf
    refine vAt h (fun x0 he1a he1b he1x h => ?_)
    conv => whnf
    refine vBind h (fun isName0 hb2 h => ?_)
    conv => whnf
    refine vNot ?_
    refine vIfB h (fun h => ?_) (fun h => ?_)
    · conv => whnf
      refine ⟨by decide, ?_⟩
      conv => whnf
      refine vPre h (fun hp3 h => ?_)
      conv => whnf
      refine vPre h (fun hp4 h => ?_)
      conv => whnf
      refine vBind h (fun string0 hb5 h => ?_)
      conv => whnf
      refine vIfB h (fun h => ?_) (fun h => ?_)
      · conv => whnf
        cases h
        obtain rfl := hR0 _ rfl
        exact hK
      · conv => whnf
        cases h
        exact ⟨⟨rfl, rfl⟩, hI0 _ rfl⟩
    · conv => whnf
      cases h
      obtain rfl := hR0 _ rfl
      exact hK
  · conv => whnf
    cases h
    obtain rfl := hR0 _ rfl
    exact hK
set_option maxRecDepth 100000 in
theorem w_impl_edges_pairs (k_impl_wave_next' : SoundC Tryz.prog 65 c_impl_wave_next) : SoundC Tryz.prog 41 c_impl_edges_pairs := by
  refine fn_sound tab_ok (gam_cons k_impl_wave_next' gam_nil) mixed { loops := [(0, [.reg 3 (.own 94 (.sl (.int .i64))), .reg 4 (.dat (.int .i64))])] } (fn := Tryz.f41) Tryz.func41 (by kernel_rfl) (by kernel_rfl) ?_
  rintro ⟨x0, ⟨⟩⟩ K ⟨r, h, hK⟩
  change impl_edges_pairs x0 = some r at h
  unfold impl_edges_pairs at h
  conv => whnf
  refine vPre h (fun hp0 h => ?_)
  conv => whnf
  refine vPre h (fun hp1 h => ?_)
  conv => whnf
  refine ⟨fun hi => ?_, fun hi => ?_, trivial⟩
  · have hi : Tedges.ea x0 = (0 : Int) := hi
    simp only [hi, if_true, Int.reduceEq, if_false] at h
    conv => whnf
    refine vLoop h ?_
    rintro I2 μ2 ⟨list0, l0, ⟨⟩⟩ zs2 h hI2 hR2
    change impl_edges_pairs_loop0 x0 list0 l0 = some zs2 at h
    unfold impl_edges_pairs_loop0 at h
    conv => whnf
    refine vIfD h (fun h => ?_) (fun h => ?_)
    · conv => whnf
      refine vBind h (fun next0 hb3 h => ?_)
      conv => whnf
      refine vPre h (fun hp4 h => ?_)
      conv => whnf
      cases h
      exact ⟨⟨rfl, rfl⟩, hI2 _ rfl⟩
    · conv => whnf
      cases h
      obtain rfl := hR2 _ rfl
      exact hK
  · have hi : Tedges.ea x0 = (1 : Int) := hi
    simp only [hi, if_true, Int.reduceEq, if_false] at h
    conv => whnf
    refine vLoop h ?_
    rintro I5 μ5 ⟨list0, l0, ⟨⟩⟩ zs5 h hI5 hR5
    change impl_edges_pairs_loop0 x0 list0 l0 = some zs5 at h
    unfold impl_edges_pairs_loop0 at h
    conv => whnf
    refine vIfD h (fun h => ?_) (fun h => ?_)
    · conv => whnf
      refine vBind h (fun next0 hb6 h => ?_)
      conv => whnf
      refine vPre h (fun hp7 h => ?_)
      conv => whnf
      cases h
      exact ⟨⟨rfl, rfl⟩, hI5 _ rfl⟩
    · conv => whnf
      cases h
      obtain rfl := hR5 _ rfl
      exact hK
set_option maxRecDepth 100000 in
theorem w_impl_modulo : SoundC Tryz.prog 87 c_impl_modulo := by
  refine fn_sound tab_ok gam_nil mixed {} (fn := Tryz.f87) Tryz.func87 (by kernel_rfl) (by kernel_rfl) ?_
  rintro ⟨a0, b0, ⟨⟩⟩ K ⟨r, h, hK⟩
  change impl_modulo a0 b0 = some r at h
  unfold impl_modulo at h
  conv => whnf
  refine vPre h (fun hp0 h => ?_)
  conv => whnf
  refine ⟨hp0, ?_⟩
  conv => whnf
  cases h
  exact hK
set_option maxRecDepth 100000 in
theorem wb_impl_waveOf (rec0 : (List TClock) → Int → Option Twave) (hrec : SoundC Tryz.prog 24 (cb_impl_waveOf rec0)) : SoundC Tryz.prog 24 (cb_impl_waveOf (impl_waveOf_body rec0)) := by
  refine fn_sound tab_ok (gam_cons hrec gam_nil) mixed {} (fn := Tryz.f24) Tryz.func24 (by kernel_rfl) (by kernel_rfl) ?_
  rintro ⟨list0, k0, ⟨⟩⟩ K ⟨r, h, hK⟩
  change impl_waveOf_body rec0 list0 k0 = some r at h
  unfold impl_waveOf_body at h
  conv => whnf
  refine vAt h (fun x0 he0a he0b he0x h => ?_)
  conv => whnf
  refine vIfD h (fun h => ?_) (fun h => ?_)
  · conv => whnf
    cases h
    exact hK
  · conv => whnf
    refine vBind h (fun r0 hb1 h => ?_)
    conv => whnf
    refine vIfD h (fun h => ?_) (fun h => ?_)
    · conv => whnf
      refine ⟨by decide, ?_⟩
      conv => whnf
      refine vIfB h (fun h => ?_) (fun h => ?_)
      · conv => whnf
        cases h
        exact hK
      · conv => whnf
        cases h
        exact hK
    · conv => whnf
      refine vIfB h (fun h => ?_) (fun h => ?_)
      · conv => whnf
        cases h
        exact hK
      · conv => whnf
        cases h
        exact hK
set_option maxRecDepth 100000 in
theorem w_impl_waveOf : SoundC Tryz.prog 24 c_impl_waveOf := by
  have hn : ∀ n, SoundC Tryz.prog 24 (cb_impl_waveOf (impl_waveOf_n n)) := by
    intro n
    induction n with
    | zero =>
      refine fn_sound tab_ok gam_nil mixed {} (fn := Tryz.f24) Tryz.func24 (by kernel_rfl) (by kernel_rfl) ?_
      rintro ⟨list0, k0, ⟨⟩⟩ K ⟨r, h, hK⟩
      cases h
    | succ n ih => exact wb_impl_waveOf _ ih
  refine ⟨(hn 0).1, ?_⟩
  rintro w S vs ⟨list0, k0, ⟨⟩⟩ K h1 h2 h3 h4 ⟨r, h, hK⟩
  obtain ⟨n, hr⟩ := recM_some h
  exact (hn n).2 w S vs _ K h1 h2 h3 h4 ⟨r, hr, hK⟩
set_option maxRecDepth 100000 in
theorem w_impl_wave_next (k_impl_modulo' : SoundC Tryz.prog 87 c_impl_modulo) : SoundC Tryz.prog 65 c_impl_wave_next := by
  refine fn_sound tab_ok (gam_cons k_impl_modulo' gam_nil) mixed { draws := [(1, [0, 0, 0, 6, 14, 0, 62, 0, 128, 510, 1023, 2047], .op 0 (.op 1 (.op 2 (.op 3 (.op 4 (.op 5 (.op 6 (.op 7 (.op 8 (.alt 9 (.op 10 (.op 11 (.done))) (.done)))))))))))] } (fn := Tryz.f65) Tryz.func65 (by kernel_rfl) (by kernel_rfl) ?_
  rintro ⟨w0, edge0, time0, ⟨⟩⟩ K ⟨r, h, hK⟩
  change impl_wave_next w0 edge0 time0 = some r at h
  unfold impl_wave_next at h
  conv => whnf
  refine ⟨by kernel_rfl, ?_⟩
  conv => whnf
  refine vPre h (fun hp0 h => ?_)
  conv => whnf
  refine vPre h (fun hp1 h => ?_)
  conv => whnf
  refine ⟨fun hi => ?_, fun hi => ?_, trivial⟩
  · have hi : edge0 = (0 : Int) := hi
    simp only [hi, if_true, Int.reduceEq, if_false] at h
    conv => whnf
    refine vBind h (fun modulo0 hb2 h => ?_)
    conv => whnf
    cases h
    exact hK
  · have hi : edge0 = (1 : Int) := hi
    simp only [hi, if_true, Int.reduceEq, if_false] at h
    conv => whnf
    refine vBind h (fun modulo0 hb3 h => ?_)
    conv => whnf
    cases h
    exact hK
set_option maxRecDepth 100000 in
theorem w_laws_big : SoundC Tryz.prog 5 c_laws_big := by
  refine fn_sound tab_ok gam_nil mixed {} (fn := Tryz.f5) Tryz.func5 (by kernel_rfl) (by kernel_rfl) ?_
  rintro ⟨code0, ⟨⟩⟩ K ⟨r, h, hK⟩
  change laws_big code0 = some r at h
  unfold laws_big at h
  conv => whnf
  cases h
  exact hK
set_option maxRecDepth 100000 in
theorem w_laws_eqClockS (k_laws_eqClock' : SoundC Tryz.prog 56 c_laws_eqClock) : SoundC Tryz.prog 33 c_laws_eqClockS := by
  refine fn_sound tab_ok (gam_cons k_laws_eqClock' gam_nil) mixed { loops := [(0, [.reg 5 (.dat (.int .i64))])], draws := [(6, [0, 0, 3, 7, 0, 0, 48, 112, 255, 511], .op 0 (.op 1 (.op 2 (.op 3 (.op 4 (.op 5 (.op 6 (.op 7 (.alt 8 (.op 9 (.done)) (.done))))))))))] } (fn := Tryz.f33) Tryz.func33 (by kernel_rfl) (by kernel_rfl) ?_
  rintro ⟨a0, b0, ⟨⟩⟩ K ⟨r, h, hK⟩
  change laws_eqClockS a0 b0 = some r at h
  unfold laws_eqClockS at h
  conv => whnf
  refine vNots ?_
  refine vIfD h (fun h => ?_) (fun h => ?_)
  · conv => whnf
    refine vLoop h ?_
    rintro I0 μ0 ⟨i0, ⟨⟩⟩ zs0 h hI0 hR0
    change laws_eqClockS_loop0 a0 b0 i0 = some zs0 at h
    unfold laws_eqClockS_loop0 at h
    conv => whnf
    refine vIfD h (fun h => ?_) (fun h => ?_)
    · conv => whnf
      refine ⟨by kernel_rfl, ?_⟩
      conv => whnf
      refine vAt h (fun x0 he1a he1b he1x h => ?_)
      conv => whnf
      refine vAt h (fun x1 he2a he2b he2x h => ?_)
      conv => whnf
      refine vBind h (fun eqClock0 hb3 h => ?_)
      conv => whnf
      refine vNots ?_
      refine vIfB h (fun h => ?_) (fun h => ?_)
      · conv => whnf
        cases h
        exact ⟨⟨rfl, rfl⟩, hI0 _ rfl⟩
      · conv => whnf
        cases h
        obtain rfl := hR0 _ rfl
        exact hK
    · conv => whnf
      cases h
      obtain rfl := hR0 _ rfl
      exact hK
  · conv => whnf
    cases h
    exact hK
set_option maxRecDepth 100000 in
theorem w_laws_szCorner : SoundC Tryz.prog 51 c_laws_szCorner := by
  refine fn_sound tab_ok gam_nil mixed {} (fn := Tryz.f51) Tryz.func51 (by kernel_rfl) (by kernel_rfl) ?_
  rintro ⟨a0, left0, ⟨⟩⟩ K ⟨r, h, hK⟩
  change laws_szCorner a0 left0 = some r at h
  unfold laws_szCorner at h
  conv => whnf
  refine vIfD h (fun h => ?_) (fun h => ?_)
  · conv => whnf
    cases h
    exact hK
  · conv => whnf
    cases h
    exact hK
set_option maxRecDepth 100000 in
theorem w_laws_szCornerS (k_laws_szCorner' : SoundC Tryz.prog 51 c_laws_szCorner) : SoundC Tryz.prog 28 c_laws_szCornerS := by
  refine fn_sound tab_ok (gam_cons k_laws_szCorner' gam_nil) mixed { loops := [(0, [.reg 1 (.dat (.int .i64)), .reg 5 (.dat (.int .i64))])] } (fn := Tryz.f28) Tryz.func28 (by kernel_rfl) (by kernel_rfl) ?_
  rintro ⟨a0, left0, ⟨⟩⟩ K ⟨r, h, hK⟩
  change laws_szCornerS a0 left0 = some r at h
  unfold laws_szCornerS at h
  conv => whnf
  refine vIfD h (fun h => ?_) (fun h => ?_)
  · conv => whnf
    cases h
    exact hK
  · conv => whnf
    refine vLoop h ?_
    rintro I0 μ0 ⟨left1, i0, ⟨⟩⟩ zs0 h hI0 hR0
    change laws_szCornerS_loop0 a0 left1 i0 = some zs0 at h
    unfold laws_szCornerS_loop0 at h
    conv => whnf
    refine vIfD h (fun h => ?_) (fun h => ?_)
    · conv => whnf
      refine vAt h (fun x0 he1a he1b he1x h => ?_)
      conv => whnf
      refine vBind h (fun szCorner0 hb2 h => ?_)
      conv => whnf
      refine vIfD h (fun h => ?_) (fun h => ?_)
      · conv => whnf
        cases h
        obtain rfl := hR0 _ rfl
        exact hK
      · conv => whnf
        cases h
        exact ⟨⟨rfl, rfl⟩, hI0 _ rfl⟩
    · conv => whnf
      cases h
      obtain rfl := hR0 _ rfl
      exact hK
set_option maxRecDepth 100000 in
theorem w_laws_toCorner : SoundC Tryz.prog 55 c_laws_toCorner := by
  refine fn_sound tab_ok gam_nil mixed {} (fn := Tryz.f55) Tryz.func55 (by kernel_rfl) (by kernel_rfl) ?_
  rintro ⟨a0, ⟨⟩⟩ K ⟨r, h, hK⟩
  change laws_toCorner a0 = some r at h
  unfold laws_toCorner at h
  conv => whnf
  cases h
  exact hK
set_option maxRecDepth 100000 in
theorem w_laws_toExternal (k_laws_toSpan' : SoundC Tryz.prog 76 c_laws_toSpan) : SoundC Tryz.prog 53 c_laws_toExternal := by
  refine fn_sound tab_ok (gam_cons k_laws_toSpan' gam_nil) mixed {} (fn := Tryz.f53) Tryz.func53 (by kernel_rfl) (by kernel_rfl) ?_
  rintro ⟨a0, ⟨⟩⟩ K ⟨r, h, hK⟩
  change laws_toExternal a0 = some r at h
  unfold laws_toExternal at h
  conv => whnf
  refine vBind h (fun toSpan0 hb0 h => ?_)
  conv => whnf
  refine vBind h (fun toSpan1 hb1 h => ?_)
  conv => whnf
  cases h
  exact hK
set_option maxRecDepth 100000 in
theorem w_laws_toExternalS (k_laws_toExternal' : SoundC Tryz.prog 53 c_laws_toExternal) : SoundC Tryz.prog 30 c_laws_toExternalS := by
  refine fn_sound tab_ok (gam_cons k_laws_toExternal' gam_nil) mixed { loops := [(0, [.reg 4 (.dat (.int .i64)), .reg 3 (.own 98 (tExternal))])] } (fn := Tryz.f30) Tryz.func30 (by kernel_rfl) (by kernel_rfl) ?_
  rintro ⟨a0, ⟨⟩⟩ K ⟨r, h, hK⟩
  change laws_toExternalS a0 = some r at h
  unfold laws_toExternalS at h
  conv => whnf
  refine vPre h (fun hp0 h => ?_)
  conv => whnf
  refine vPre h (fun hp1 h => ?_)
  conv => whnf
  refine vPre h (fun hp2 h => ?_)
  conv => whnf
  refine vPre h (fun hp3 h => ?_)
  conv => whnf
  refine vLoop h ?_
  rintro I4 μ4 ⟨i0, out0, ⟨⟩⟩ zs4 h hI4 hR4
  change laws_toExternalS_loop0 a0 i0 out0 = some zs4 at h
  unfold laws_toExternalS_loop0 at h
  conv => whnf
  refine vIfD h (fun h => ?_) (fun h => ?_)
  · conv => whnf
    refine vAt h (fun x0 he5a he5b he5x h => ?_)
    conv => whnf
    refine vBind h (fun toExternal0 hb6 h => ?_)
    conv => whnf
    refine vAt h (fun x1 he7a he7b he7x h => ?_)
    conv => whnf
    refine ⟨by kernel_rfl, ?_⟩
    conv => whnf
    refine ⟨by decide, ?_⟩
    conv => whnf
    refine ⟨he7a, he7b, vAgain he7x ?_⟩
    conv => whnf
    cases h
    exact ⟨⟨rfl, rfl⟩, hI4 _ rfl⟩
  · conv => whnf
    cases h
    obtain rfl := hR4 _ rfl
    exact hK
set_option maxRecDepth 100000 in
theorem w_laws_toSetup (k_laws_toClockS' : SoundC Tryz.prog 29 c_laws_toClockS) (k_laws_toExternalS' : SoundC Tryz.prog 30 c_laws_toExternalS) (k_laws_toExceptionS' : SoundC Tryz.prog 31 c_laws_toExceptionS) (k_laws_toCornerS' : SoundC Tryz.prog 32 c_laws_toCornerS) : SoundC Tryz.prog 11 c_laws_toSetup := by
  refine fn_sound tab_ok (gam_cons k_laws_toClockS' (gam_cons k_laws_toExternalS' (gam_cons k_laws_toExceptionS' (gam_cons k_laws_toCornerS' gam_nil)))) mixed {} (fn := Tryz.f11) Tryz.func11 (by kernel_rfl) (by kernel_rfl) ?_
  rintro ⟨a0, ⟨⟩⟩ K ⟨r, h, hK⟩
  change laws_toSetup a0 = some r at h
  unfold laws_toSetup at h
  conv => whnf
  refine vBind h (fun toClockS0 hb0 h => ?_)
  conv => whnf
  refine vBind h (fun toExternalS0 hb1 h => ?_)
  conv => whnf
  refine vBind h (fun toExternalS1 hb2 h => ?_)
  conv => whnf
  refine vBind h (fun toExceptionS0 hb3 h => ?_)
  conv => whnf
  refine vBind h (fun toCornerS0 hb4 h => ?_)
  conv => whnf
  cases h
  exact hK
set_option maxRecDepth 100000 in
theorem w_slices_Contains_Sstring_string (k_slices_Index_Sstring_string' : SoundC Tryz.prog 101 c_slices_Index_Sstring_string) : SoundC Tryz.prog 92 c_slices_Contains_Sstring_string := by
  refine fn_sound tab_ok (gam_cons k_slices_Index_Sstring_string' gam_nil) mixed {} (fn := Tryz.f92) Tryz.func92 (by kernel_rfl) (by kernel_rfl) ?_
  rintro ⟨s0, v0, ⟨⟩⟩ K ⟨r, h, hK⟩
  change slices_Contains_Sstring_string s0 v0 = some r at h
  unfold slices_Contains_Sstring_string at h
  conv => whnf
  refine vBind h (fun string0 hb0 h => ?_)
  conv => whnf
  cases h
  exact hK
set_option maxRecDepth 100000 in
theorem w_slices_IndexFunc_Sint64_int64_at_impl_areWithin_c1 (k_impl_areWithin_c1' : SoundC Tryz.prog 73 c_impl_areWithin_c1) : SoundC Tryz.prog 93 c_slices_IndexFunc_Sint64_int64_at_impl_areWithin_c1 := by
  refine fn_sound tab_ok (gam_cons k_impl_areWithin_c1' gam_nil) mixed { loops := [(0, [.reg 8 (.dat (.int .i64))])] } (fn := Tryz.f93) Tryz.func93 (by kernel_rfl) (by kernel_rfl) ?_
  rintro ⟨s0, f0, ⟨⟩⟩ K ⟨r, h, hK⟩
  change slices_IndexFunc_Sint64_int64_at_impl_areWithin_c1 s0 f0 = some r at h
  unfold slices_IndexFunc_Sint64_int64_at_impl_areWithin_c1 at h
  conv => whnf
  refine vLoop h ?_
  rintro I0 μ0 ⟨v0, ⟨⟩⟩ zs0 h hI0 hR0
  change slices_IndexFunc_Sint64_int64_at_impl_areWithin_c1_loop0 s0 f0 v0 = some zs0 at h
  unfold slices_IndexFunc_Sint64_int64_at_impl_areWithin_c1_loop0 at h
  conv => whnf
  refine vIfD h (fun h => ?_) (fun h => ?_)
  · conv => whnf
    refine vAt h (fun x0 he1a he1b he1x h => ?_)
    conv => whnf
    refine vBind h (fun c1_0 hb2 h => ?_)
    conv => whnf
    refine vIfB h (fun h => ?_) (fun h => ?_)
    · conv => whnf
      cases h
      obtain rfl := hR0 _ rfl
      exact hK
    · conv => whnf
      cases h
      exact ⟨⟨rfl, rfl⟩, hI0 _ rfl⟩
  · conv => whnf
    cases h
    obtain rfl := hR0 _ rfl
    exact hK
set_option maxRecDepth 100000 in
theorem w_spec_HoldSeparation (k_spec_l15Code' : SoundC Tryz.prog 42 c_spec_l15Code) (k_spec_l15Pairs' : SoundC Tryz.prog 43 c_spec_l15Pairs) (k_spec_l14Of' : SoundC Tryz.prog 44 c_spec_l14Of) : SoundC Tryz.prog 21 c_spec_HoldSeparation := by
  refine fn_sound tab_ok (gam_cons k_spec_l15Code' (gam_cons k_spec_l15Pairs' (gam_cons k_spec_l14Of' gam_nil))) mixed { loops := [(0, [.reg 15 (.dat (.int .i64)), .reg 16 (.dat (.int .i64))])], draws := [(6, [0, 1, 3, 7, 15, 0, 32, 96, 224, 480, 1023, 0, 4095, 8191], .op 0 (.op 1 (.op 2 (.op 3 (.op 4 (.op 5 (.op 6 (.op 7 (.op 8 (.op 9 (.op 10 (.op 11 (.op 12 (.op 13 (.done))))))))))))))), (10, [0, 0, 0, 6, 14, 30, 62, 0, 0, 384, 896, 1920, 3968, 8190, 0, 32766, 65535, 131071], .op 0 (.op 1 (.op 2 (.op 3 (.op 4 (.op 5 (.op 6 (.op 7 (.op 8 (.op 9 (.op 10 (.op 11 (.op 12 (.op 13 (.op 14 (.op 15 (.op 16 (.op 17 (.done)))))))))))))))))))] } (fn := Tryz.f21) Tryz.func21 (by kernel_rfl) (by kernel_rfl) ?_
  rintro ⟨a0, a1, a2, a3, a4, ⟨⟩⟩ K ⟨r, h, hK⟩
  change spec_HoldSeparation a0 a1 a2 a3 a4 = some r at h
  unfold spec_HoldSeparation at h
  conv => whnf
  refine vBind h (fun l15Code0 hb0 h => ?_)
  conv => whnf
  refine vNots ?_
  refine vIfD h (fun h => ?_) (fun h => ?_)
  · conv => whnf
    refine vBind h (fun l15Pairs0 hb1 h => ?_)
    conv => whnf
    refine vBind h (fun l14Of0 hb2 h => ?_)
    conv => whnf
    refine vBind h (fun l14Of1 hb3 h => ?_)
    conv => whnf
    refine ⟨by kernel_rfl, ?_⟩
    conv => whnf
    refine vAt h (fun x0 he4a he4b he4x h => ?_)
    conv => whnf
    refine ⟨by kernel_rfl, ?_⟩
    conv => whnf
    refine ⟨he4a, he4b, vAgain he4x ?_⟩
    conv => whnf
    refine vAt h (fun x1 he5a he5b he5x h => ?_)
    conv => whnf
    refine ⟨he4a, he4b, vAgain he4x ?_⟩
    conv => whnf
    refine ⟨by kernel_rfl, ?_⟩
    conv => whnf
    refine ⟨he4a, he4b, vAgain he4x ?_⟩
    conv => whnf
    refine vAt h (fun x2 he6a he6b he6x h => ?_)
    conv => whnf
    refine vLoop h ?_
    rintro I7 μ7 ⟨v0, v1, ⟨⟩⟩ zs7 h hI7 hR7
    change spec_HoldSeparation_loop0 l15Pairs0 l14Of0 l14Of1 v0 v1 = some zs7 at h
    unfold spec_HoldSeparation_loop0 at h
    conv => whnf
    refine vIfD h (fun h => ?_) (fun h => ?_)
    · conv => whnf
      refine ⟨by kernel_rfl, ?_⟩
      conv => whnf
      refine vAt h (fun x3 he8a he8b he8x h => ?_)
      conv => whnf
      refine ⟨by kernel_rfl, ?_⟩
      conv => whnf
      refine ⟨he8a, he8b, vAgain he8x ?_⟩
      conv => whnf
      refine vAt h (fun x4 he9a he9b he9x h => ?_)
      conv => whnf
      refine ⟨he8a, he8b, vAgain he8x ?_⟩
      conv => whnf
      refine ⟨by kernel_rfl, ?_⟩
      conv => whnf
      refine ⟨he8a, he8b, vAgain he8x ?_⟩
      conv => whnf
      refine vAt h (fun x5 he10a he10b he10x h => ?_)
      conv => whnf
      cases h
      exact ⟨⟨rfl, rfl⟩, hI7 _ rfl⟩
    · conv => whnf
      cases h
      obtain rfl := hR7 _ rfl
      exact hK
  · conv => whnf
    cases h
    exact hK
set_option maxRecDepth 100000 in
theorem w_spec_SetupSeparation (k_spec_l15Code' : SoundC Tryz.prog 42 c_spec_l15Code) (k_spec_l15Pairs' : SoundC Tryz.prog 43 c_spec_l15Pairs) : SoundC Tryz.prog 20 c_spec_SetupSeparation := by
  refine fn_sound tab_ok (gam_cons k_spec_l15Code' (gam_cons k_spec_l15Pairs' gam_nil)) mixed { loops := [(0, [.reg 14 (.dat (.int .i64)), .reg 15 (.dat (.int .i64))])], draws := [(5, [0, 1, 3, 7, 15, 0, 32, 96, 224, 480, 1023, 2047], .op 0 (.op 1 (.op 2 (.op 3 (.op 4 (.op 5 (.op 6 (.op 7 (.op 8 (.op 9 (.op 10 (.op 11 (.done))))))))))))), (9, [0, 0, 0, 6, 14, 30, 62, 0, 0, 384, 896, 1920, 3968, 8190, 16383, 32767], .op 0 (.op 1 (.op 2 (.op 3 (.op 4 (.op 5 (.op 6 (.op 7 (.op 8 (.op 9 (.op 10 (.op 11 (.op 12 (.op 13 (.op 14 (.op 15 (.done)))))))))))))))))] } (fn := Tryz.f20) Tryz.func20 (by kernel_rfl) (by kernel_rfl) ?_
  rintro ⟨list0, a0, ea0, b0, eb0, ⟨⟩⟩ K ⟨r, h, hK⟩
  change spec_SetupSeparation list0 a0 ea0 b0 eb0 = some r at h
  unfold spec_SetupSeparation at h
  conv => whnf
  refine vBind h (fun l15Code0 hb0 h => ?_)
  conv => whnf
  refine vNots ?_
  refine vIfD h (fun h => ?_) (fun h => ?_)
  · conv => whnf
    refine vBind h (fun l15Pairs0 hb1 h => ?_)
    conv => whnf
    refine ⟨by kernel_rfl, ?_⟩
    conv => whnf
    refine vAt h (fun x0 he2a he2b he2x h => ?_)
    conv => whnf
    refine ⟨by kernel_rfl, ?_⟩
    conv => whnf
    refine ⟨he2a, he2b, vAgain he2x ?_⟩
    conv => whnf
    refine vAt h (fun x1 he3a he3b he3x h => ?_)
    conv => whnf
    refine ⟨he2a, he2b, vAgain he2x ?_⟩
    conv => whnf
    refine ⟨by kernel_rfl, ?_⟩
    conv => whnf
    refine ⟨he2a, he2b, vAgain he2x ?_⟩
    conv => whnf
    refine vAt h (fun x2 he4a he4b he4x h => ?_)
    conv => whnf
    refine vLoop h ?_
    rintro I5 μ5 ⟨best0, i0, ⟨⟩⟩ zs5 h hI5 hR5
    change spec_SetupSeparation_loop0 l15Pairs0 best0 i0 = some zs5 at h
    unfold spec_SetupSeparation_loop0 at h
    conv => whnf
    refine vIfD h (fun h => ?_) (fun h => ?_)
    · conv => whnf
      refine ⟨by kernel_rfl, ?_⟩
      conv => whnf
      refine vAt h (fun x3 he6a he6b he6x h => ?_)
      conv => whnf
      refine ⟨by kernel_rfl, ?_⟩
      conv => whnf
      refine ⟨he6a, he6b, vAgain he6x ?_⟩
      conv => whnf
      refine vAt h (fun x4 he7a he7b he7x h => ?_)
      conv => whnf
      refine ⟨he6a, he6b, vAgain he6x ?_⟩
      conv => whnf
      refine ⟨by kernel_rfl, ?_⟩
      conv => whnf
      refine ⟨he6a, he6b, vAgain he6x ?_⟩
      conv => whnf
      refine vAt h (fun x5 he8a he8b he8x h => ?_)
      conv => whnf
      cases h
      exact ⟨⟨rfl, rfl⟩, hI5 _ rfl⟩
    · conv => whnf
      cases h
      obtain rfl := hR5 _ rfl
      exact hK
  · conv => whnf
    cases h
    exact hK
set_option maxRecDepth 100000 in
theorem w_spec_UncertaintyOf (k_spec_l14Code' : SoundC Tryz.prog 45 c_spec_l14Code) : SoundC Tryz.prog 22 c_spec_UncertaintyOf := by
  refine fn_sound tab_ok (gam_cons k_spec_l14Code' gam_nil) mixed { draws := [(7, [0, 0, 3, 7, 15, 0, 0, 96, 224, 480, 1023, 2047, 4095], .op 0 (.op 1 (.op 2 (.op 3 (.op 4 (.op 5 (.op 6 (.op 7 (.op 8 (.op 9 (.op 10 (.op 11 (.op 12 (.done))))))))))))))] } (fn := Tryz.f22) Tryz.func22 (by kernel_rfl) (by kernel_rfl) ?_
  rintro ⟨list0, a0, b0, ⟨⟩⟩ K ⟨r, h, hK⟩
  change spec_UncertaintyOf list0 a0 b0 = some r at h
  unfold spec_UncertaintyOf at h
  conv => whnf
  refine vBind h (fun l14Code0 hb0 h => ?_)
  conv => whnf
  refine vNots ?_
  refine vIfD h (fun h => ?_) (fun h => ?_)
  · conv => whnf
    refine vBind h (fun l14Code1 hb1 h => ?_)
    conv => whnf
    refine vNots ?_
    refine vIfD h (fun h => ?_) (fun h => ?_)
    · conv => whnf
      refine ⟨by kernel_rfl, ?_⟩
      conv => whnf
      refine vAt h (fun x0 he2a he2b he2x h => ?_)
      conv => whnf
      refine vAt h (fun x1 he3a he3b he3x h => ?_)
      conv => whnf
      cases h
      exact hK
    · conv => whnf
      cases h
      exact hK
  · conv => whnf
    cases h
    exact hK
set_option maxRecDepth 100000 in
theorem w_spec_l03Draw (k_spec_l03Gate' : SoundC Tryz.prog 94 c_spec_l03Gate) (k_spec_l03DrawFlop' : SoundC Tryz.prog 95 c_spec_l03DrawFlop) : SoundC Tryz.prog 80 c_spec_l03Draw := by
  refine fn_sound tab_ok (gam_cons k_spec_l03Gate' (gam_cons k_spec_l03DrawFlop' gam_nil)) mixed {} (fn := Tryz.f80) Tryz.func80 (by kernel_rfl) (by kernel_rfl) ?_
  rintro ⟨s0, ⟨⟩⟩ K ⟨r, h, hK⟩
  change spec_l03Draw s0 = some r at h
  unfold spec_l03Draw at h
  conv => whnf
  refine vBind h (fun l03Gate0 hb0 h => ?_)
  conv => whnf
  refine vBind h (fun l03Gate1 hb1 h => ?_)
  conv => whnf
  refine vBind h (fun l03Gate2 hb2 h => ?_)
  conv => whnf
  refine vBind h (fun l03Gate3 hb3 h => ?_)
  conv => whnf
  refine vBind h (fun l03Gate4 hb4 h => ?_)
  conv => whnf
  refine vBind h (fun l03DrawFlop0 hb5 h => ?_)
  conv => whnf
  refine vBind h (fun l03DrawFlop1 hb6 h => ?_)
  conv => whnf
  refine vBind h (fun l03DrawFlop2 hb7 h => ?_)
  conv => whnf
  cases h
  exact hK
set_option maxRecDepth 100000 in
theorem w_spec_l03Gate (k_spec_l01Next' : SoundC Tryz.prog 16 c_spec_l01Next) (k_spec_l03Sense' : SoundC Tryz.prog 102 c_spec_l03Sense) (k_spec_l03DrawArc' : SoundC Tryz.prog 103 c_spec_l03DrawArc) : SoundC Tryz.prog 94 c_spec_l03Gate := by
  refine fn_sound tab_ok (gam_cons k_spec_l01Next' (gam_cons k_spec_l03Sense' (gam_cons k_spec_l03DrawArc' gam_nil))) mixed { loops := [(0, [.reg 9 (.own 178 (tPin)), .reg 10 (.dat (.int .i64)), .cell 0 0 (.sl (.int .u8)), .cell 0 1 (.int .i64), .cell 0 2 (.int .i64)]), (2, [.reg 12 (.own 182 (tArc)), .reg 13 (.dat (.int .i64)), .cell 0 0 (.sl (.int .u8)), .cell 0 1 (.int .i64), .cell 0 2 (.int .i64)])], draws := [(7, [0, 0, 0, 4, 14, 30, 0, 64, 192, 510, 1022, 2047, 4095], .op 0 (.op 1 (.op 2 (.op 3 (.op 4 (.op 6 (.alt 5 (.alt 7 (.op 8 (.op 9 (.alt 10 (.alt 11 (.op 12 (.done)) (.done)) (.done)))) (.done)) (.alt 7 (.op 8 (.alt 5 (.op 9 (.alt 10 (.alt 11 (.op 12 (.done)) (.done)) (.done))) (.done))) (.done)))))))))] } (fn := Tryz.f94) Tryz.func94 (by kernel_rfl) (by kernel_rfl) ?_
  rintro ⟨a0, a1, a2, ⟨⟩⟩ K ⟨r, h, hK⟩
  change spec_l03Gate a0 a1 a2 = some r at h
  unfold spec_l03Gate at h
  conv => whnf
  refine vBind h (fun l01Next0 hb0 h => ?_)
  conv => whnf
  refine vBind h (fun l01Next1 hb1 h => ?_)
  conv => whnf
  refine vLoop h ?_
  rintro I2 μ2 ⟨v0, v1, c0, c1, c2, ⟨⟩⟩ zs2 h hI2 hR2
  change spec_l03Gate_loop1 a1 a2 l01Next0 l01Next1 v0 v1 c0 c1 c2 = some zs2 at h
  unfold spec_l03Gate_loop1 at h
  conv => whnf
  refine vIfD h (fun h => ?_) (fun h => ?_)
  · conv => whnf
    refine ⟨by kernel_rfl, ?_⟩
    conv => whnf
    refine vAt h (fun x0 he3a he3b he3x h => ?_)
    conv => whnf
    refine ⟨?_, ?_⟩
    · conv => whnf
      refine ⟨by kernel_rfl, ?_⟩
      conv => whnf
      refine ⟨he3a, he3b, vAgain he3x ?_⟩
      conv => whnf
      refine vBind h (fun l01Next2 hb4 h => ?_)
      conv => whnf
      refine vPre h (fun hp5 h => ?_)
      conv => whnf
      cases h
      exact ⟨⟨rfl, rfl⟩, hI2 _ rfl⟩
    · obtain ⟨l01Next2, hb4, h⟩ := Option.bind_eq_some_iff.1 h
      obtain ⟨hp5, h⟩ := guardE h
      conv => whnf
      refine ⟨_, hb4, ?_⟩
      conv => whnf
      refine ⟨by kernel_rfl, ?_⟩
      conv => whnf
      refine ⟨he3a, he3b, vAgain he3x ?_⟩
      conv => whnf
      refine ⟨hp5, ?_⟩
      conv => whnf
      cases h
      exact ⟨⟨rfl, rfl⟩, hI2 _ rfl⟩
  · conv => whnf
    refine vPre h (fun hp6 h => ?_)
    conv => whnf
    refine vLoop h ?_
    rintro I7 μ7 ⟨v2, v3, c3, c4, c5, ⟨⟩⟩ zs7 h hI7 hR7
    change spec_l03Gate_loop0 a1 a2 l01Next0 l01Next1 v0 v2 v3 c3 c4 c5 = some zs7 at h
    unfold spec_l03Gate_loop0 at h
    conv => whnf
    refine vIfD h (fun h => ?_) (fun h => ?_)
    · conv => whnf
      refine vBind h (fun l03Sense0 hb8 h => ?_)
      conv => whnf
      refine vNots ?_
      refine vIfD h (fun h => ?_) (fun h => ?_)
      · conv => whnf
        cases h
        exact ⟨⟨rfl, rfl⟩, hI7 _ rfl⟩
      · conv => whnf
        refine vBind h (fun l03DrawArc0 hb9 h => ?_)
        conv => whnf
        refine vPre h (fun hp10 h => ?_)
        conv => whnf
        cases h
        exact ⟨⟨rfl, rfl⟩, hI7 _ rfl⟩
    · conv => whnf
      cases h
      obtain rfl := hR7 _ rfl
      obtain rfl := hR2 _ rfl
      exact hK
set_option maxRecDepth 100000 in
theorem w_spec_l14Gcd : SoundC Tryz.prog 88 c_spec_l14Gcd := by
  refine fn_sound tab_ok gam_nil mixed { loops := [(0, [.reg 0 (.dat (.int .i64)), .reg 1 (.dat (.int .i64))])] } (fn := Tryz.f88) Tryz.func88 (by kernel_rfl) (by kernel_rfl) ?_
  rintro ⟨a0, b0, ⟨⟩⟩ K ⟨r, h, hK⟩
  change spec_l14Gcd a0 b0 = some r at h
  unfold spec_l14Gcd at h
  conv => whnf
  refine vLoop h ?_
  rintro I0 μ0 ⟨a1, b1, ⟨⟩⟩ zs0 h hI0 hR0
  change spec_l14Gcd_loop0 a1 b1 = some zs0 at h
  unfold spec_l14Gcd_loop0 at h
  conv => whnf
  refine vIfD h (fun h => ?_) (fun h => ?_)
  · conv => whnf
    refine vPre h (fun hp1 h => ?_)
    conv => whnf
    cases h
    exact ⟨⟨rfl, rfl⟩, hI0 _ rfl⟩
  · conv => whnf
    cases h
    obtain rfl := hR0 _ rfl
    exact hK
set_option maxRecDepth 100000 in
theorem w_spec_l14Hyper (k_spec_l14Of' : SoundC Tryz.prog 44 c_spec_l14Of) (k_spec_l14Gcd' : SoundC Tryz.prog 88 c_spec_l14Gcd) : SoundC Tryz.prog 68 c_spec_l14Hyper := by
  refine fn_sound tab_ok (gam_cons k_spec_l14Of' (gam_cons k_spec_l14Gcd' gam_nil)) mixed {} (fn := Tryz.f68) Tryz.func68 (by kernel_rfl) (by kernel_rfl) ?_
  rintro ⟨list0, a0, b0, ⟨⟩⟩ K ⟨r, h, hK⟩
  change spec_l14Hyper list0 a0 b0 = some r at h
  unfold spec_l14Hyper at h
  conv => whnf
  refine vBind h (fun l14Of0 hb0 h => ?_)
  conv => whnf
  refine vBind h (fun l14Of1 hb1 h => ?_)
  conv => whnf
  refine vBind h (fun l14Gcd0 hb2 h => ?_)
  conv => whnf
  refine vPre h (fun hp3 h => ?_)
  conv => whnf
  cases h
  exact hK
end Go.Proofs.YtmaogoofmebdbaaGreatDoor
