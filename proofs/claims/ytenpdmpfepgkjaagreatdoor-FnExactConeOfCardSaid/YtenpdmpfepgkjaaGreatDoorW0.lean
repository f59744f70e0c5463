/-
  The functions keep their contracts, if what they call does. Printed by program.
-/
import Derived.Test.YtenpdmpfepgkjaaGreatDoorM
import Derived.KernelRfl
namespace Go.Proofs.YtenpdmpfepgkjaaGreatDoor
open Go Go.Sx
set_option maxRecDepth 100000
set_option linter.unusedVariables false
set_option linter.unusedSimpArgs false
set_option maxRecDepth 100000 in
theorem w_impl_Cell_clock_c1 : SoundC Tryz.prog 222 c_impl_Cell_clock_c1 := by
  refine fn_sound tab_ok gam_nil mixed {} (fn := Tryz.f222) Tryz.func222 (by kernel_rfl) (by kernel_rfl) ?_
  rintro ⟨p0, ⟨⟩⟩ K ⟨r, h, hK⟩
  change impl_Cell_clock_c1 p0 = some r at h
  unfold impl_Cell_clock_c1 at h
  conv => whnf
  cases h
  exact hK
set_option maxRecDepth 100000 in
theorem w_impl_Cell_has (k_slices_ContainsFunc_Simpl_Arc_impl_Arc_at_impl_Cell_has_c1' : SoundC Tryz.prog 187 c_slices_ContainsFunc_Simpl_Arc_impl_Arc_at_impl_Cell_has_c1) : SoundC Tryz.prog 190 c_impl_Cell_has := by
  refine fn_sound tab_ok (gam_cons k_slices_ContainsFunc_Simpl_Arc_impl_Arc_at_impl_Cell_has_c1' gam_nil) mixed {} (fn := Tryz.f190) Tryz.func190 (by kernel_rfl) (by kernel_rfl) ?_
  rintro ⟨c0, kind0, ⟨⟩⟩ K ⟨r, h, hK⟩
  change impl_Cell_has c0 kind0 = some r at h
  unfold impl_Cell_has at h
  conv => whnf
  refine vBind h (fun c1_0 hb0 h => ?_)
  conv => whnf
  cases h
  exact hK
set_option maxRecDepth 100000 in
theorem w_impl_Cell_output (k_impl_length_impl_Pin' : SoundC Tryz.prog 185 c_impl_length_impl_Pin) : SoundC Tryz.prog 189 c_impl_Cell_output := by
  refine fn_sound tab_ok (gam_cons k_impl_length_impl_Pin' gam_nil) mixed {} (fn := Tryz.f189) Tryz.func189 (by kernel_rfl) (by kernel_rfl) ?_
  rintro ⟨c0, ⟨⟩⟩ K ⟨r, h, hK⟩
  change impl_Cell_output c0 = some r at h
  unfold impl_Cell_output at h
  conv => whnf
  refine vBind h (fun Pin0 hb0 h => ?_)
  conv => whnf
  cases h
  exact hK
set_option maxRecDepth 100000 in
theorem w_impl_Design_capOf : SoundC Tryz.prog 143 c_impl_Design_capOf := by
  refine fn_sound tab_ok gam_nil mixed { draws := [(3, [0, 1, 0, 4, 0, 16, 60, 124, 252, 511, 1023, 2047, 0, 4096, 16383, 32767, 65535, 131071], .op 0 (.op 1 (.op 2 (.op 3 (.op 4 (.op 5 (.op 6 (.op 7 (.op 8 (.op 9 (.op 10 (.op 11 (.op 12 (.op 13 (.op 14 (.op 15 (.op 16 (.op 17 (.done)))))))))))))))))))] } (fn := Tryz.f143) Tryz.func143 (by kernel_rfl) (by kernel_rfl) ?_
  rintro ⟨d0, l0, p0, ⟨⟩⟩ K ⟨r, h, hK⟩
  change impl_Design_capOf d0 l0 p0 = some r at h
  unfold impl_Design_capOf at h
  conv => whnf
  refine vIfD h (fun h => ?_) (fun h => ?_)
  · conv => whnf
    cases h
    exact hK
  · conv => whnf
    refine ⟨by kernel_rfl, ?_⟩
    conv => whnf
    refine vAt h (fun x0 he0a he0b he0x h => ?_)
    conv => whnf
    refine vAt h (fun x1 he1a he1b he1x h => ?_)
    conv => whnf
    refine vAt h (fun x2 he2a he2b he2x h => ?_)
    conv => whnf
    cases h
    exact hK
set_option maxRecDepth 100000 in
theorem w_impl_Design_isInstance (k_impl_length_impl_Cell' : SoundC Tryz.prog 159 c_impl_length_impl_Cell) (k_impl_within' : SoundC Tryz.prog 109 c_impl_within) (k_slices_ContainsFunc_Sint64_int64_at_impl_Design_isInstance_c1' : SoundC Tryz.prog 107 c_slices_ContainsFunc_Sint64_int64_at_impl_Design_isInstance_c1) : SoundC Tryz.prog 136 c_impl_Design_isInstance := by
  refine fn_sound tab_ok (gam_cons k_impl_length_impl_Cell' (gam_cons k_impl_within' (gam_cons k_slices_ContainsFunc_Sint64_int64_at_impl_Design_isInstance_c1' gam_nil))) mixed { draws := [(1, [0, 1, 0, 4, 12, 28, 63, 127, 255, 511, 1023, 255, 2303, 255, 8447, 30975, 63743, 129279, 260351, 524287, 1048575, 2097151, 4194303, 8388607, 4194303, 33554431, 67108863, 134217727, 268435455], .op 0 (.op 1 (.op 2 (.op 3 (.alt 4 (.op 5 (.alt 6 (.op 7 (.op 8 (.op 9 (.op 10 (.op 11 (.op 12 (.op 13 (.op 14 (.op 15 (.op 16 (.op 17 (.op 18 (.op 19 (.op 20 (.op 21 (.op 22 (.op 23 (.op 24 (.alt 25 (.op 26 (.op 27 (.op 28 (.done)))) (.done)))))))))))))))))))) (.done))) (.done))))))] } (fn := Tryz.f136) Tryz.func136 (by kernel_rfl) (by kernel_rfl) ?_
  rintro ⟨d0, l0, x0, ⟨⟩⟩ K ⟨r, h, hK⟩
  change impl_Design_isInstance d0 l0 x0 = some r at h
  unfold impl_Design_isInstance at h
  conv => whnf
  refine ⟨by kernel_rfl, ?_⟩
  conv => whnf
  refine vBind h (fun Cell0 hb0 h => ?_)
  conv => whnf
  refine vBind h (fun within0 hb1 h => ?_)
  conv => whnf
  refine vIfB h (fun h => ?_) (fun h => ?_)
  · conv => whnf
    refine vAt h (fun x1 he2a he2b he2x h => ?_)
    conv => whnf
    refine vIfD h (fun h => ?_) (fun h => ?_)
    · conv => whnf
      refine vBind h (fun c1_0 hb3 h => ?_)
      conv => whnf
      cases h
      exact hK
    · conv => whnf
      cases h
      exact hK
  · conv => whnf
    cases h
    exact hK
set_option maxRecDepth 100000 in
theorem w_impl_forward : SoundC Tryz.prog 27 c_impl_forward := by
  refine fn_sound tab_ok gam_nil mixed { draws := [(1, [0, 1, 0, 4, 3, 31], .op 0 (.op 1 (.op 2 (.op 3 (.op 4 (.op 5 (.done)))))))] } (fn := Tryz.f27) Tryz.func27 (by kernel_rfl) (by kernel_rfl) ?_
  rintro ⟨l0, ⟨⟩⟩ K ⟨r, h, hK⟩
  change impl_forward l0 = some r at h
  unfold impl_forward at h
  conv => whnf
  refine ⟨by kernel_rfl, ?_⟩
  conv => whnf
  cases h
  exact hK
set_option maxRecDepth 100000 in
theorem w_impl_indicesOf : SoundC Tryz.prog 25 c_impl_indicesOf := by
  refine fn_sound tab_ok gam_nil mixed { loops := [(0, [.reg 3 (.own (.ol 2 (.flat (.int .i64)))), .reg 8 (.dat (.int .i64))])] } (fn := Tryz.f25) Tryz.func25 (by kernel_rfl) (by kernel_rfl) ?_
  rintro ⟨list0, ⟨⟩⟩ K ⟨r, h, hK⟩
  change impl_indicesOf list0 = some r at h
  unfold impl_indicesOf at h
  conv => whnf
  refine vLoop h ?_
  rintro I0 μ0 ⟨out0, v0, ⟨⟩⟩ zs0 h hI0 hR0
  change impl_indicesOf_loop0 list0 out0 v0 = some zs0 at h
  unfold impl_indicesOf_loop0 at h
  conv => whnf
  refine vIfD h (fun h => ?_) (fun h => ?_)
  · conv => whnf
    refine vAt h (fun x0 he1a he1b he1x h => ?_)
    conv => whnf
    refine vIfB h (fun h => ?_) (fun h => ?_)
    · conv => whnf
      refine vPre h (fun hp2 h => ?_)
      conv => whnf
      cases h
      exact ⟨⟨rfl, rfl⟩, hI0 _ rfl⟩
    · conv => whnf
      cases h
      exact ⟨⟨rfl, rfl⟩, hI0 _ rfl⟩
  · conv => whnf
    cases h
    obtain rfl := hR0 _ rfl
    exact hK
set_option maxRecDepth 100000 in
theorem w_impl_isCheck : SoundC Tryz.prog 205 c_impl_isCheck := by
  refine fn_sound tab_ok gam_nil mixed {} (fn := Tryz.f205) Tryz.func205 (by kernel_rfl) (by kernel_rfl) ?_
  rintro ⟨kind0, ⟨⟩⟩ K ⟨r, h, hK⟩
  change impl_isCheck kind0 = some r at h
  unfold impl_isCheck at h
  conv => whnf
  refine vIfDs h (fun h => ?_) (fun h => ?_)
  · conv => whnf
    cases h
    exact hK
  · conv => whnf
    cases h
    exact hK
set_option maxRecDepth 100000 in
theorem w_impl_isIncreasing : SoundC Tryz.prog 62 c_impl_isIncreasing := by
  refine fn_sound tab_ok gam_nil mixed { loops := [(0, [.reg 3 (.dat (.int .i64))])], draws := [(4, [0, 0, 2, 7, 15, 0, 0, 96, 224, 511], .op 0 (.op 1 (.op 2 (.op 3 (.op 4 (.op 5 (.op 6 (.op 7 (.op 8 (.op 9 (.done)))))))))))] } (fn := Tryz.f62) Tryz.func62 (by kernel_rfl) (by kernel_rfl) ?_
  rintro ⟨list0, ⟨⟩⟩ K ⟨r, h, hK⟩
  change impl_isIncreasing list0 = some r at h
  unfold impl_isIncreasing at h
  conv => whnf
  refine vLoop h ?_
  rintro I0 μ0 ⟨i0, ⟨⟩⟩ zs0 h hI0 hR0
  change impl_isIncreasing_loop0 list0 i0 = some zs0 at h
  unfold impl_isIncreasing_loop0 at h
  conv => whnf
  refine vIfD h (fun h => ?_) (fun h => ?_)
  · conv => whnf
    refine ⟨by kernel_rfl, ?_⟩
    conv => whnf
    refine vAt h (fun x0 he1a he1b he1x h => ?_)
    conv => whnf
    refine vAt h (fun x1 he2a he2b he2x h => ?_)
    conv => whnf
    refine vIfD h (fun h => ?_) (fun h => ?_)
    · conv => whnf
      cases h
      obtain rfl := hR0 _ rfl
      exact hK
    · conv => whnf
      cases h
      exact ⟨⟨rfl, rfl⟩, hI0 _ rfl⟩
  · conv => whnf
    cases h
    obtain rfl := hR0 _ rfl
    exact hK
set_option maxRecDepth 100000 in
theorem w_laws_eqArc (k_laws_eqTableS' : SoundC Tryz.prog 180 c_laws_eqTableS) : SoundC Tryz.prog 168 c_laws_eqArc := by
  refine fn_sound tab_ok (gam_cons k_laws_eqTableS' gam_nil) mixed {} (fn := Tryz.f168) Tryz.func168 (by kernel_rfl) (by kernel_rfl) ?_
  rintro ⟨a0, b0, ⟨⟩⟩ K ⟨r, h, hK⟩
  change laws_eqArc a0 b0 = some r at h
  unfold laws_eqArc at h
  conv => whnf
  refine vNots ?_
  refine vIfD h (fun h => ?_) (fun h => ?_)
  · conv => whnf
    refine vNots ?_
    refine vIfD h (fun h => ?_) (fun h => ?_)
    · conv => whnf
      refine vNots ?_
      refine vIfD h (fun h => ?_) (fun h => ?_)
      · conv => whnf
        refine vNots ?_
        refine vIfD h (fun h => ?_) (fun h => ?_)
        · conv => whnf
          refine vBind h (fun eqTableS0 hb0 h => ?_)
          conv => whnf
          refine vNots ?_
          refine vIfB h (fun h => ?_) (fun h => ?_)
          · conv => whnf
            refine vBind h (fun eqTableS1 hb1 h => ?_)
            conv => whnf
            refine vNots ?_
            refine vIfB h (fun h => ?_) (fun h => ?_)
            · conv => whnf
              cases h
              exact hK
            · conv => whnf
              cases h
              exact hK
          · conv => whnf
            cases h
            exact hK
        · conv => whnf
          cases h
          exact hK
      · conv => whnf
        cases h
        exact hK
    · conv => whnf
      cases h
      exact hK
  · conv => whnf
    cases h
    exact hK
set_option maxRecDepth 100000 in
theorem w_laws_markBlock (k_laws_markLibrary' : SoundC Tryz.prog 45 c_laws_markLibrary) (k_laws_markDesign' : SoundC Tryz.prog 46 c_laws_markDesign) (k_laws_markWireS' : SoundC Tryz.prog 47 c_laws_markWireS) : SoundC Tryz.prog 17 c_laws_markBlock := by
  refine fn_sound tabD_ok (gam_cons k_laws_markLibrary' (gam_cons k_laws_markDesign' (gam_cons k_laws_markWireS' gam_nil))) mixed {} (fn := Tryz.f17) Tryz.func17 (by kernel_rfl) (by kernel_rfl) ?_
  rintro ⟨a0, k0, ⟨⟩⟩ K ⟨r, h, hK⟩
  change laws_markBlock a0 k0 = some r at h
  unfold laws_markBlock at h
  conv => whnf
  intro fp0
  conv => whnf
  intro fp1
  conv => whnf
  intro fp2
  conv => whnf
  refine vBind h (fun markLibrary0 hb3 h => ?_)
  conv => whnf
  intro fp4
  conv => whnf
  refine vBind h (fun markDesign0 hb5 h => ?_)
  conv => whnf
  intro fp6
  conv => whnf
  refine vBind h (fun markWireS0 hb7 h => ?_)
  conv => whnf
  intro fp8
  conv => whnf
  cases h
  exact hK
set_option maxRecDepth 100000 in
theorem w_laws_markStringS (k_laws_markText' : SoundC Tryz.prog 122 c_laws_markText) : SoundC Tryz.prog 90 c_laws_markStringS := by
  refine fn_sound tabD_ok (gam_cons k_laws_markText' gam_nil) mixed { loops := [(0, [.reg 1 (.dat (.int .i64)), .reg 5 (.dat (.int .i64)), .ent 0 (nat_lit 9) (.flat Ty.str)])] } (fn := Tryz.f90) Tryz.func90 (by kernel_rfl) (by kernel_rfl) ?_
  rintro ⟨a0, k0, ⟨⟩⟩ K ⟨r, h, hK⟩
  change laws_markStringS a0 k0 = some r at h
  unfold laws_markStringS at h
  conv => whnf
  refine vLoop h ?_
  rintro I0 μ0 ⟨k1, i0, l0, ⟨⟩⟩ zs0 h hI0 hR0
  change laws_markStringS_loop0 k1 i0 l0 = some zs0 at h
  unfold laws_markStringS_loop0 at h
  conv => whnf
  refine vIfD h (fun h => ?_) (fun h => ?_)
  · conv => whnf
    refine vBind h (fun markText0 hb1 h => ?_)
    conv => whnf
    refine vAt h (fun x0 he2a he2b he2x h => ?_)
    conv => whnf
    refine ⟨by kernel_rfl, ?_⟩
    conv => whnf
    refine ⟨by decide, ?_⟩
    conv => whnf
    refine ⟨he2a, he2b, vAgain he2x ?_⟩
    conv => whnf
    cases h
    exact ⟨⟨rfl, rfl⟩, hI0 _ rfl⟩
  · conv => whnf
    cases h
    obtain rfl := hR0 _ rfl
    exact hK
set_option maxRecDepth 100000 in
theorem w_laws_szCellS (k_laws_szCell' : SoundC Tryz.prog 112 c_laws_szCell) : SoundC Tryz.prog 73 c_laws_szCellS := by
  refine fn_sound tab_ok (gam_cons k_laws_szCell' gam_nil) mixed { loops := [(0, [.reg 1 (.dat (.int .i64)), .reg 5 (.dat (.int .i64))])] } (fn := Tryz.f73) Tryz.func73 (by kernel_rfl) (by kernel_rfl) ?_
  rintro ⟨a0, left0, ⟨⟩⟩ K ⟨r, h, hK⟩
  change laws_szCellS a0 left0 = some r at h
  unfold laws_szCellS at h
  conv => whnf
  refine vIfD h (fun h => ?_) (fun h => ?_)
  · conv => whnf
    cases h
    exact hK
  · conv => whnf
    refine vLoop h ?_
    rintro I0 μ0 ⟨left1, i0, ⟨⟩⟩ zs0 h hI0 hR0
    change laws_szCellS_loop0 a0 left1 i0 = some zs0 at h
    unfold laws_szCellS_loop0 at h
    conv => whnf
    refine vIfD h (fun h => ?_) (fun h => ?_)
    · conv => whnf
      refine vAt h (fun x0 he1a he1b he1x h => ?_)
      conv => whnf
      refine vBind h (fun szCell0 hb2 h => ?_)
      conv => whnf
      refine vIfD h (fun h => ?_) (fun h => ?_)
      · conv => whnf
        cases h
        obtain rfl := hR0 _ rfl
        exact hK
      · conv => whnf
        cases h
        exact ⟨⟨rfl, rfl⟩, hI0 _ rfl⟩
    · conv => whnf
      cases h
      obtain rfl := hR0 _ rfl
      exact hK
set_option maxRecDepth 100000 in
theorem w_laws_szTableS (k_laws_szTable' : SoundC Tryz.prog 192 c_laws_szTable) : SoundC Tryz.prog 178 c_laws_szTableS := by
  refine fn_sound tab_ok (gam_cons k_laws_szTable' gam_nil) mixed { loops := [(0, [.reg 1 (.dat (.int .i64)), .reg 5 (.dat (.int .i64))])] } (fn := Tryz.f178) Tryz.func178 (by kernel_rfl) (by kernel_rfl) ?_
  rintro ⟨a0, left0, ⟨⟩⟩ K ⟨r, h, hK⟩
  change laws_szTableS a0 left0 = some r at h
  unfold laws_szTableS at h
  conv => whnf
  refine vIfD h (fun h => ?_) (fun h => ?_)
  · conv => whnf
    cases h
    exact hK
  · conv => whnf
    refine vLoop h ?_
    rintro I0 μ0 ⟨left1, i0, ⟨⟩⟩ zs0 h hI0 hR0
    change laws_szTableS_loop0 a0 left1 i0 = some zs0 at h
    unfold laws_szTableS_loop0 at h
    conv => whnf
    refine vIfD h (fun h => ?_) (fun h => ?_)
    · conv => whnf
      refine vAt h (fun x0 he1a he1b he1x h => ?_)
      conv => whnf
      refine vBind h (fun szTable0 hb2 h => ?_)
      conv => whnf
      refine vIfD h (fun h => ?_) (fun h => ?_)
      · conv => whnf
        cases h
        obtain rfl := hR0 _ rfl
        exact hK
      · conv => whnf
        cases h
        exact ⟨⟨rfl, rfl⟩, hI0 _ rfl⟩
    · conv => whnf
      cases h
      obtain rfl := hR0 _ rfl
      exact hK
set_option maxRecDepth 100000 in
theorem w_laws_toInstanceS (k_laws_toInstance' : SoundC Tryz.prog 117 c_laws_toInstance) : SoundC Tryz.prog 79 c_laws_toInstanceS := by
  refine fn_sound tabD_ok (gam_cons k_laws_toInstance' gam_nil) mixed { loops := [(0, [.reg 4 (.dat (.int .i64)), .ent 0 (nat_lit 124) dInstance])] } (fn := Tryz.f79) Tryz.func79 (by kernel_rfl) (by kernel_rfl) ?_
  rintro ⟨a0, ⟨⟩⟩ K ⟨r, h, hK⟩
  change laws_toInstanceS a0 = some r at h
  unfold laws_toInstanceS at h
  conv => whnf
  refine vPre h (fun hp0 h => ?_)
  conv => whnf
  refine vPre h (fun hp1 h => ?_)
  conv => whnf
  refine vPre h (fun hp2 h => ?_)
  conv => whnf
  refine vPre h (fun hp3 h => ?_)
  conv => whnf
  intro fp4
  conv => whnf
  refine vLoop h ?_
  rintro I5 μ5 ⟨i0, l0, ⟨⟩⟩ zs5 h hI5 hR5
  change laws_toInstanceS_loop0 a0 i0 l0 = some zs5 at h
  unfold laws_toInstanceS_loop0 at h
  conv => whnf
  intro fp6
  conv => whnf
  refine vIfD h (fun h => ?_) (fun h => ?_)
  · conv => whnf
    refine vAt h (fun x0 he7a he7b he7x h => ?_)
    conv => whnf
    refine vBind h (fun toInstance0 hb8 h => ?_)
    conv => whnf
    refine vAt h (fun x1 he9a he9b he9x h => ?_)
    conv => whnf
    refine ⟨he9a, he9b, vAgain he9x ?_⟩
    conv => whnf
    intro fp10
    conv => whnf
    cases h
    exact ⟨⟨rfl, rfl⟩, hI5 _ rfl⟩
  · conv => whnf
    cases h
    obtain rfl := hR5 _ rfl
    exact hK
set_option maxRecDepth 100000 in
theorem w_laws_toPortS (k_laws_toPort' : SoundC Tryz.prog 118 c_laws_toPort) : SoundC Tryz.prog 81 c_laws_toPortS := by
  refine fn_sound tab_ok (gam_cons k_laws_toPort' gam_nil) mixed { loops := [(0, [.reg 4 (.dat (.int .i64)), .ent 0 (nat_lit 180) (.flat ti29.ety)])] } (fn := Tryz.f81) Tryz.func81 (by kernel_rfl) (by kernel_rfl) ?_
  rintro ⟨a0, ⟨⟩⟩ K ⟨r, h, hK⟩
  change laws_toPortS a0 = some r at h
  unfold laws_toPortS at h
  conv => whnf
  refine vPre h (fun hp0 h => ?_)
  conv => whnf
  refine vPre h (fun hp1 h => ?_)
  conv => whnf
  refine vPre h (fun hp2 h => ?_)
  conv => whnf
  refine vPre h (fun hp3 h => ?_)
  conv => whnf
  refine vLoop h ?_
  rintro I4 μ4 ⟨i0, l0, ⟨⟩⟩ zs4 h hI4 hR4
  change laws_toPortS_loop0 a0 i0 l0 = some zs4 at h
  unfold laws_toPortS_loop0 at h
  conv => whnf
  refine vIfD h (fun h => ?_) (fun h => ?_)
  · conv => whnf
    refine vAt h (fun x0 he5a he5b he5x h => ?_)
    conv => whnf
    refine vBind h (fun toPort0 hb6 h => ?_)
    conv => whnf
    refine vAt h (fun x1 he7a he7b he7x h => ?_)
    conv => whnf
    refine ⟨by kernel_rfl, ?_⟩
    conv => whnf
    refine ⟨by decide, ?_⟩
    conv => whnf
    refine ⟨he7a, he7b, vAgain he7x ?_⟩
    conv => whnf
    cases h
    exact ⟨⟨rfl, rfl⟩, hI4 _ rfl⟩
  · conv => whnf
    cases h
    obtain rfl := hR4 _ rfl
    exact hK
set_option maxRecDepth 100000 in
theorem w_slices_ContainsFunc_Simpl_Table_impl_Table_at_impl_areTables_c1 (k_slices_IndexFunc_Simpl_Table_impl_Table_at_impl_areTables_c1' : SoundC Tryz.prog 227 c_slices_IndexFunc_Simpl_Table_impl_Table_at_impl_areTables_c1) : SoundC Tryz.prog 217 c_slices_ContainsFunc_Simpl_Table_impl_Table_at_impl_areTables_c1 := by
  refine fn_sound tab_ok (gam_cons k_slices_IndexFunc_Simpl_Table_impl_Table_at_impl_areTables_c1' gam_nil) mixed {} (fn := Tryz.f217) Tryz.func217 (by kernel_rfl) (by kernel_rfl) ?_
  rintro ⟨s0, f0, ⟨⟩⟩ K ⟨r, h, hK⟩
  change slices_ContainsFunc_Simpl_Table_impl_Table_at_impl_areTables_c1 s0 f0 = some r at h
  unfold slices_ContainsFunc_Simpl_Table_impl_Table_at_impl_areTables_c1 at h
  conv => whnf
  refine vBind h (fun c1_0 hb0 h => ?_)
  conv => whnf
  cases h
  exact hK
set_option maxRecDepth 100000 in
theorem w_slices_ContainsFunc_Sint64_int64_at_impl_Design_isInstance_c1 (k_slices_IndexFunc_Sint64_int64_at_impl_Design_isInstance_c1' : SoundC Tryz.prog 145 c_slices_IndexFunc_Sint64_int64_at_impl_Design_isInstance_c1) : SoundC Tryz.prog 107 c_slices_ContainsFunc_Sint64_int64_at_impl_Design_isInstance_c1 := by
  refine fn_sound tab_ok (gam_cons k_slices_IndexFunc_Sint64_int64_at_impl_Design_isInstance_c1' gam_nil) mixed {} (fn := Tryz.f107) Tryz.func107 (by kernel_rfl) (by kernel_rfl) ?_
  rintro ⟨s0, f0, ⟨⟩⟩ K ⟨r, h, hK⟩
  change slices_ContainsFunc_Sint64_int64_at_impl_Design_isInstance_c1 s0 f0 = some r at h
  unfold slices_ContainsFunc_Sint64_int64_at_impl_Design_isInstance_c1 at h
  conv => whnf
  refine vBind h (fun c1_0 hb0 h => ?_)
  conv => whnf
  cases h
  exact hK
set_option maxRecDepth 100000 in
theorem w_slices_ContainsFunc_Sint64_int64_at_impl_areWithin_c1 (k_slices_IndexFunc_Sint64_int64_at_impl_areWithin_c1' : SoundC Tryz.prog 145 c_slices_IndexFunc_Sint64_int64_at_impl_areWithin_c1) : SoundC Tryz.prog 107 c_slices_ContainsFunc_Sint64_int64_at_impl_areWithin_c1 := by
  refine fn_sound tab_ok (gam_cons k_slices_IndexFunc_Sint64_int64_at_impl_areWithin_c1' gam_nil) mixed {} (fn := Tryz.f107) Tryz.func107 (by kernel_rfl) (by kernel_rfl) ?_
  rintro ⟨s0, f0, ⟨⟩⟩ K ⟨r, h, hK⟩
  change slices_ContainsFunc_Sint64_int64_at_impl_areWithin_c1 s0 f0 = some r at h
  unfold slices_ContainsFunc_Sint64_int64_at_impl_areWithin_c1 at h
  conv => whnf
  refine vBind h (fun c1_0 hb0 h => ?_)
  conv => whnf
  cases h
  exact hK
set_option maxRecDepth 100000 in
theorem w_slices_Contains_Sstring_string (k_slices_Index_Sstring_string' : SoundC Tryz.prog 191 c_slices_Index_Sstring_string) : SoundC Tryz.prog 177 c_slices_Contains_Sstring_string := by
  refine fn_sound tab_ok (gam_cons k_slices_Index_Sstring_string' gam_nil) mixed {} (fn := Tryz.f177) Tryz.func177 (by kernel_rfl) (by kernel_rfl) ?_
  rintro ⟨s0, v0, ⟨⟩⟩ K ⟨r, h, hK⟩
  change slices_Contains_Sstring_string s0 v0 = some r at h
  unfold slices_Contains_Sstring_string at h
  conv => whnf
  refine vBind h (fun string0 hb0 h => ?_)
  conv => whnf
  cases h
  exact hK
set_option maxRecDepth 100000 in
theorem w_slices_IndexFunc_Simpl_Pin_impl_Pin_at_impl_Cell_clock_c1 (k_impl_Cell_clock_c1' : SoundC Tryz.prog 222 c_impl_Cell_clock_c1) : SoundC Tryz.prog 221 c_slices_IndexFunc_Simpl_Pin_impl_Pin_at_impl_Cell_clock_c1 := by
  refine fn_sound tab_ok (gam_cons k_impl_Cell_clock_c1' gam_nil) mixed { loops := [(0, [.reg 8 (.dat (.int .i64))])] } (fn := Tryz.f221) Tryz.func221 (by kernel_rfl) (by kernel_rfl) ?_
  rintro ⟨s0, f0, ⟨⟩⟩ K ⟨r, h, hK⟩
  change slices_IndexFunc_Simpl_Pin_impl_Pin_at_impl_Cell_clock_c1 s0 f0 = some r at h
  unfold slices_IndexFunc_Simpl_Pin_impl_Pin_at_impl_Cell_clock_c1 at h
  conv => whnf
  refine vLoop h ?_
  rintro I0 μ0 ⟨v0, ⟨⟩⟩ zs0 h hI0 hR0
  change slices_IndexFunc_Simpl_Pin_impl_Pin_at_impl_Cell_clock_c1_loop0 s0 v0 = some zs0 at h
  unfold slices_IndexFunc_Simpl_Pin_impl_Pin_at_impl_Cell_clock_c1_loop0 at h
  conv => whnf
  refine vIfD h (fun h => ?_) (fun h => ?_)
  · conv => whnf
    refine vAt h (fun x0 he1a he1b he1x h => ?_)
    conv => whnf
    refine vBind h (fun c1_0 hb2 h => ?_)
    conv => whnf
    refine vIfB h (fun h => ?_) (fun h => ?_)
    · conv => whnf
      cases h
      obtain rfl := hR0 _ rfl
      exact hK
    · conv => whnf
      cases h
      exact ⟨⟨rfl, rfl⟩, hI0 _ rfl⟩
  · conv => whnf
    cases h
    obtain rfl := hR0 _ rfl
    exact hK
set_option maxRecDepth 100000 in
theorem w_spec_IsCell (k_spec_l03Pins' : SoundC Tryz.prog 170 c_spec_l03Pins) (k_spec_l03Name' : SoundC Tryz.prog 156 c_spec_l03Name) (k_spec_l01In' : SoundC Tryz.prog 111 c_spec_l01In) (k_spec_l03Arc' : SoundC Tryz.prog 171 c_spec_l03Arc) (k_spec_l03Kinds' : SoundC Tryz.prog 172 c_spec_l03Kinds) : SoundC Tryz.prog 155 c_spec_IsCell := by
  refine fn_sound tab_ok (gam_cons k_spec_l03Pins' (gam_cons k_spec_l03Name' (gam_cons k_spec_l01In' (gam_cons k_spec_l03Arc' (gam_cons k_spec_l03Kinds' gam_nil))))) mixed { loops := [(0, [.reg 5 (.dat (.int .i64))]), (2, [.reg 7 (.dat (.int .i64))]), (5, [.reg 9 (.dat (.int .i64))])], draws := [(13, [0, 1, 0, 7, 15, 31, 0, 64, 255, 511, 1023, 2047, 1023, 8191, 16383, 32767, 1023, 66559, 262143, 524287, 1048575, 2097151, 4194303, 2097151, 16777215, 33554431, 67108863, 2097151, 136314879, 536870911, 1073741823], .op 0 (.op 1 (.op 2 (.op 3 (.op 4 (.op 5 (.op 6 (.op 7 (.op 8 (.op 9 (.op 10 (.op 11 (.op 12 (.op 13 (.op 14 (.op 15 (.op 16 (.op 17 (.op 18 (.op 19 (.op 20 (.op 21 (.op 22 (.op 23 (.op 24 (.op 25 (.op 26 (.op 27 (.op 28 (.op 29 (.op 30 (.done)))))))))))))))))))))))))))))))), (25, [0, 1, 3, 7, 15, 31, 63, 127, 255, 511, 1023, 2047, 4095, 511, 8703, 25087, 57855, 131071, 262143, 524287, 1048575, 2097151, 4194303, 8388607, 16777215, 33554431], .op 0 (.op 1 (.op 2 (.op 3 (.op 4 (.op 5 (.op 6 (.op 7 (.op 8 (.op 9 (.op 10 (.op 11 (.op 12 (.op 13 (.op 14 (.op 15 (.op 16 (.op 17 (.op 18 (.op 19 (.op 20 (.op 21 (.op 22 (.op 23 (.op 24 (.op 25 (.done)))))))))))))))))))))))))))] } (fn := Tryz.f155) Tryz.func155 (by kernel_rfl) (by kernel_rfl) ?_
  rintro ⟨a0, ⟨⟩⟩ K ⟨r, h, hK⟩
  change spec_IsCell a0 = some r at h
  unfold spec_IsCell at h
  conv => whnf
  refine vBind h (fun l03Pins0 hb0 h => ?_)
  conv => whnf
  refine vNot ?_
  refine vIfB h (fun h => ?_) (fun h => ?_)
  · conv => whnf
    refine vBind h (fun l03Name0 hb1 h => ?_)
    conv => whnf
    refine vNot ?_
    refine vIfB h (fun h => ?_) (fun h => ?_)
    · conv => whnf
      refine vIfDs h (fun h => ?_) (fun h => ?_)
      · conv => whnf
        cases h
        exact hK
      · conv => whnf
        refine vBind h (fun l01In0 hb2 h => ?_)
        conv => whnf
        refine vNot ?_
        refine vIfB h (fun h => ?_) (fun h => ?_)
        · conv => whnf
          refine vBind h (fun l01In1 hb3 h => ?_)
          conv => whnf
          refine vNots ?_
          refine vIfB h (fun h => ?_) (fun h => ?_)
          · conv => whnf
            refine vLoop h ?_
            rintro I4 μ4 ⟨v0, ⟨⟩⟩ zs4 h hI4 hR4
            change spec_IsCell_loop2 a0 l03Pins0 v0 = some zs4 at h
            unfold spec_IsCell_loop2 at h
            conv => whnf
            refine vIfD h (fun h => ?_) (fun h => ?_)
            · conv => whnf
              refine vAt h (fun x0 he5a he5b he5x h => ?_)
              conv => whnf
              refine vBind h (fun l03Arc0 hb6 h => ?_)
              conv => whnf
              refine vNots ?_
              refine vIfB h (fun h => ?_) (fun h => ?_)
              · conv => whnf
                refine vLoop h ?_
                rintro I7 μ7 ⟨v1, ⟨⟩⟩ zs7 h hI7 hR7
                change spec_IsCell_loop0 a0 v0 x0 v1 = some zs7 at h
                unfold spec_IsCell_loop0 at h
                conv => whnf
                refine vIfD h (fun h => ?_) (fun h => ?_)
                · conv => whnf
                  refine ⟨by kernel_rfl, ?_⟩
                  conv => whnf
                  refine vAt h (fun x1 he8a he8b he8x h => ?_)
                  conv => whnf
                  refine vIfD h (fun h => ?_) (fun h => ?_)
                  · conv => whnf
                    refine ⟨he8a, he8b, vAgain he8x ?_⟩
                    conv => whnf
                    refine vIfD h (fun h => ?_) (fun h => ?_)
                    · conv => whnf
                      refine ⟨he8a, he8b, vAgain he8x ?_⟩
                      conv => whnf
                      refine vIfD h (fun h => ?_) (fun h => ?_)
                      · conv => whnf
                        cases h
                        obtain rfl := hR7 _ rfl
                        obtain rfl := hR4 _ rfl
                        exact hK
                      · conv => whnf
                        cases h
                        exact ⟨⟨rfl, rfl⟩, hI7 _ rfl⟩
                    · conv => whnf
                      cases h
                      exact ⟨⟨rfl, rfl⟩, hI7 _ rfl⟩
                  · conv => whnf
                    cases h
                    exact ⟨⟨rfl, rfl⟩, hI7 _ rfl⟩
                · conv => whnf
                  cases h
                  obtain rfl := hR7 _ rfl
                  exact ⟨⟨rfl, rfl⟩, hI4 _ rfl⟩
              · conv => whnf
                cases h
                obtain rfl := hR4 _ rfl
                exact hK
            · conv => whnf
              refine vBind h (fun l03Kinds0 hb9 h => ?_)
              conv => whnf
              refine vIfD h (fun h => ?_) (fun h => ?_)
              · conv => whnf
                refine vLoop h ?_
                rintro I10 μ10 ⟨v1, ⟨⟩⟩ zs10 h hI10 hR10
                change spec_IsCell_loop1 a0 l03Pins0 v1 = some zs10 at h
                unfold spec_IsCell_loop1 at h
                conv => whnf
                refine vIfD h (fun h => ?_) (fun h => ?_)
                · conv => whnf
                  refine vAt h (fun x0 he11a he11b he11x h => ?_)
                  conv => whnf
                  refine vBind h (fun l01In2 hb12 h => ?_)
                  conv => whnf
                  refine vNots ?_
                  refine vIfB h (fun h => ?_) (fun h => ?_)
                  · conv => whnf
                    cases h
                    exact ⟨⟨rfl, rfl⟩, hI10 _ rfl⟩
                  · conv => whnf
                    cases h
                    obtain rfl := hR10 _ rfl
                    obtain rfl := hR4 _ rfl
                    exact hK
                · conv => whnf
                  refine vIfD h (fun h => ?_) (fun h => ?_)
                  · conv => whnf
                    refine vPre h (fun hp13 h => ?_)
                    conv => whnf
                    cases h
                    obtain rfl := hR10 _ rfl
                    obtain rfl := hR4 _ rfl
                    exact hK
                  · conv => whnf
                    cases h
                    obtain rfl := hR10 _ rfl
                    obtain rfl := hR4 _ rfl
                    exact hK
              · conv => whnf
                refine vIfD h (fun h => ?_) (fun h => ?_)
                · conv => whnf
                  refine ⟨by kernel_rfl, ?_⟩
                  conv => whnf
                  refine vIfD h (fun h => ?_) (fun h => ?_)
                  · conv => whnf
                    refine vAt h (fun x0 he14a he14b he14x h => ?_)
                    conv => whnf
                    refine ⟨by kernel_rfl, ?_⟩
                    conv => whnf
                    refine ⟨he14a, he14b, vAgain he14x ?_⟩
                    conv => whnf
                    refine vIfD h (fun h => ?_) (fun h => ?_)
                    · conv => whnf
                      refine vAt h (fun x1 he15a he15b he15x h => ?_)
                      conv => whnf
                      refine ⟨by kernel_rfl, ?_⟩
                      conv => whnf
                      refine ⟨he15a, he15b, vAgain he15x ?_⟩
                      conv => whnf
                      refine vAt h (fun x2 he16a he16b he16x h => ?_)
                      conv => whnf
                      refine ⟨by kernel_rfl, ?_⟩
                      conv => whnf
                      refine ⟨he16a, he16b, vAgain he16x ?_⟩
                      conv => whnf
                      refine vNots ?_
                      refine vIfB h (fun h => ?_) (fun h => ?_)
                      · conv => whnf
                        cases h
                        obtain rfl := hR4 _ rfl
                        exact hK
                      · conv => whnf
                        cases h
                        obtain rfl := hR4 _ rfl
                        exact hK
                    · conv => whnf
                      cases h
                      obtain rfl := hR4 _ rfl
                      exact hK
                  · conv => whnf
                    cases h
                    obtain rfl := hR4 _ rfl
                    exact hK
                · conv => whnf
                  refine vIfD h (fun h => ?_) (fun h => ?_)
                  · conv => whnf
                    refine vIfD h (fun h => ?_) (fun h => ?_)
                    · conv => whnf
                      refine vAt h (fun x0 he17a he17b he17x h => ?_)
                      conv => whnf
                      refine ⟨by kernel_rfl, ?_⟩
                      conv => whnf
                      refine ⟨he17a, he17b, vAgain he17x ?_⟩
                      conv => whnf
                      refine vIfD h (fun h => ?_) (fun h => ?_)
                      · conv => whnf
                        refine vAt h (fun x1 he18a he18b he18x h => ?_)
                        conv => whnf
                        refine ⟨by kernel_rfl, ?_⟩
                        conv => whnf
                        refine ⟨he18a, he18b, vAgain he18x ?_⟩
                        conv => whnf
                        refine vIfD h (fun h => ?_) (fun h => ?_)
                        · conv => whnf
                          refine vAt h (fun x2 he19a he19b he19x h => ?_)
                          conv => whnf
                          refine ⟨by kernel_rfl, ?_⟩
                          conv => whnf
                          refine ⟨he19a, he19b, vAgain he19x ?_⟩
                          conv => whnf
                          refine vIfD h (fun h => ?_) (fun h => ?_)
                          · conv => whnf
                            cases h
                            obtain rfl := hR4 _ rfl
                            exact hK
                          · conv => whnf
                            cases h
                            obtain rfl := hR4 _ rfl
                            exact hK
                        · conv => whnf
                          cases h
                          obtain rfl := hR4 _ rfl
                          exact hK
                      · conv => whnf
                        cases h
                        obtain rfl := hR4 _ rfl
                        exact hK
                    · conv => whnf
                      cases h
                      obtain rfl := hR4 _ rfl
                      exact hK
                  · conv => whnf
                    cases h
                    obtain rfl := hR4 _ rfl
                    exact hK
          · conv => whnf
            cases h
            exact hK
        · conv => whnf
          cases h
          exact hK
    · conv => whnf
      cases h
      exact hK
  · conv => whnf
    cases h
    exact hK
set_option maxRecDepth 100000 in
theorem w_spec_IsLibrary (k_spec_IsCell' : SoundC Tryz.prog 155 c_spec_IsCell) : SoundC Tryz.prog 130 c_spec_IsLibrary := by
  refine fn_sound tab_ok (gam_cons k_spec_IsCell' gam_nil) mixed { loops := [(0, [.reg 3 (.dat (.int .i64))]), (2, [.reg 4 (.dat (.int .i64))])], draws := [(9, [0, 1, 0, 7, 15, 31, 0, 64, 0, 448, 960, 1984, 4095], .op 0 (.op 1 (.op 2 (.op 3 (.op 4 (.op 5 (.op 6 (.op 7 (.op 8 (.op 9 (.op 10 (.op 11 (.op 12 (.done))))))))))))))] } (fn := Tryz.f130) Tryz.func130 (by kernel_rfl) (by kernel_rfl) ?_
  rintro ⟨l0, ⟨⟩⟩ K ⟨r, h, hK⟩
  change spec_IsLibrary l0 = some r at h
  unfold spec_IsLibrary at h
  conv => whnf
  refine vLoop h ?_
  rintro I0 μ0 ⟨i0, ⟨⟩⟩ zs0 h hI0 hR0
  change spec_IsLibrary_loop1 l0 i0 = some zs0 at h
  unfold spec_IsLibrary_loop1 at h
  conv => whnf
  refine vIfD h (fun h => ?_) (fun h => ?_)
  · conv => whnf
    refine vAt h (fun x0 he1a he1b he1x h => ?_)
    conv => whnf
    refine vBind h (fun IsCell0 hb2 h => ?_)
    conv => whnf
    refine vNots ?_
    refine vIfB h (fun h => ?_) (fun h => ?_)
    · conv => whnf
      refine vLoop h ?_
      rintro I3 μ3 ⟨k0, ⟨⟩⟩ zs3 h hI3 hR3
      change spec_IsLibrary_loop0 l0 i0 x0 k0 = some zs3 at h
      unfold spec_IsLibrary_loop0 at h
      conv => whnf
      refine vIfD h (fun h => ?_) (fun h => ?_)
      · conv => whnf
        refine ⟨by kernel_rfl, ?_⟩
        conv => whnf
        refine vAt h (fun x1 he4a he4b he4x h => ?_)
        conv => whnf
        refine ⟨he1a, he1b, vAgain he1x ?_⟩
        conv => whnf
        refine vIfD h (fun h => ?_) (fun h => ?_)
        · conv => whnf
          cases h
          obtain rfl := hR3 _ rfl
          obtain rfl := hR0 _ rfl
          exact hK
        · conv => whnf
          cases h
          exact ⟨⟨rfl, rfl⟩, hI3 _ rfl⟩
      · conv => whnf
        cases h
        obtain rfl := hR3 _ rfl
        exact ⟨⟨rfl, rfl⟩, hI0 _ rfl⟩
    · conv => whnf
      cases h
      obtain rfl := hR0 _ rfl
      exact hK
  · conv => whnf
    cases h
    obtain rfl := hR0 _ rfl
    exact hK
set_option maxRecDepth 100000 in
theorem w_spec_TableBounds (k_spec_IsTable' : SoundC Tryz.prog 211 c_spec_IsTable) : SoundC Tryz.prog 196 c_spec_TableBounds := by
  refine fn_sound tab_ok (gam_cons k_spec_IsTable' gam_nil) mixed { loops := [(0, [.reg 5 (.dat (.int .i64)), .cell 2 0 (.int .i64), .cell 2 1 (.int .i64)])], draws := [(3, [0, 1, 3, 7, 0, 16, 48, 112, 255, 0, 1023], .op 0 (.op 1 (.op 2 (.op 3 (.op 4 (.op 5 (.op 6 (.op 7 (.op 8 (.alt 9 (.alt 10 (.done) (.done)) (.done))))))))))), (7, [0, 1, 0, 4, 0, 28, 60, 127, 255, 511], .op 0 (.op 1 (.op 2 (.op 3 (.op 4 (.op 5 (.op 6 (.op 7 (.op 8 (.alt 9 (.done) (.done))))))))))), (8, [0, 1, 0, 4, 0, 28, 60, 127, 255, 511], .op 0 (.op 1 (.op 2 (.op 3 (.op 4 (.op 5 (.op 6 (.op 7 (.op 8 (.alt 9 (.done) (.done)))))))))))] } (fn := Tryz.f196) Tryz.func196 (by kernel_rfl) (by kernel_rfl) ?_
  rintro ⟨t0, ⟨⟩⟩ K ⟨r, h, hK⟩
  change spec_TableBounds t0 = some r at h
  unfold spec_TableBounds at h
  conv => whnf
  refine vBind h (fun IsTable0 hb0 h => ?_)
  conv => whnf
  refine vNots ?_
  refine vIfB h (fun h => ?_) (fun h => ?_)
  · conv => whnf
    refine ⟨by kernel_rfl, ?_⟩
    conv => whnf
    refine vAt h (fun x0 he1a he1b he1x h => ?_)
    conv => whnf
    refine ⟨he1a, he1b, vAgain he1x ?_⟩
    conv => whnf
    refine vLoop h ?_
    rintro I2 μ2 ⟨i0, c0, c1, ⟨⟩⟩ zs2 h hI2 hR2
    change spec_TableBounds_loop0 t0 i0 c0 c1 = some zs2 at h
    unfold spec_TableBounds_loop0 at h
    conv => whnf
    refine vIfD h (fun h => ?_) (fun h => ?_)
    · conv => whnf
      refine ⟨by kernel_rfl, ?_⟩
      conv => whnf
      refine vAt h (fun x1 he3a he3b he3x h => ?_)
      conv => whnf
      refine ⟨by kernel_rfl, ?_⟩
      conv => whnf
      refine ⟨he3a, he3b, vAgain he3x ?_⟩
      conv => whnf
      cases h
      exact ⟨⟨rfl, rfl⟩, hI2 _ rfl⟩
    · conv => whnf
      cases h
      obtain rfl := hR2 _ rfl
      exact hK
  · conv => whnf
    cases h
    exact hK
set_option maxRecDepth 100000 in
theorem w_spec_l05Driver (k_spec_l05Places' : SoundC Tryz.prog 71 c_spec_l05Places) : SoundC Tryz.prog 67 c_spec_l05Driver := by
  refine fn_sound tab_ok (gam_cons k_spec_l05Places' gam_nil) mixed { loops := [(0, [.reg 6 (.dat (.int .i64))])] } (fn := Tryz.f67) Tryz.func67 (by kernel_rfl) (by kernel_rfl) ?_
  rintro ⟨d0, net0, ⟨⟩⟩ K ⟨r, h, hK⟩
  change spec_l05Driver d0 net0 = some r at h
  unfold spec_l05Driver at h
  conv => whnf
  refine vBind h (fun l05Places0 hb0 h => ?_)
  conv => whnf
  refine vLoop h ?_
  rintro I1 μ1 ⟨i0, ⟨⟩⟩ zs1 h hI1 hR1
  change spec_l05Driver_loop0 net0 l05Places0 i0 = some zs1 at h
  unfold spec_l05Driver_loop0 at h
  conv => whnf
  refine vIfD h (fun h => ?_) (fun h => ?_)
  · conv => whnf
    refine vAt h (fun x0 he2a he2b he2x h => ?_)
    conv => whnf
    refine ⟨by kernel_rfl, ?_⟩
    conv => whnf
    refine ⟨he2a, he2b, vAgain he2x ?_⟩
    conv => whnf
    refine vIfD h (fun h => ?_) (fun h => ?_)
    · conv => whnf
      refine ⟨he2a, he2b, vAgain he2x ?_⟩
      conv => whnf
      refine ⟨by kernel_rfl, ?_⟩
      conv => whnf
      refine ⟨he2a, he2b, vAgain he2x ?_⟩
      conv => whnf
      refine vIfB h (fun h => ?_) (fun h => ?_)
      · conv => whnf
        cases h
        obtain rfl := hR1 _ rfl
        exact hK
      · conv => whnf
        cases h
        exact ⟨⟨rfl, rfl⟩, hI1 _ rfl⟩
    · conv => whnf
      cases h
      exact ⟨⟨rfl, rfl⟩, hI1 _ rfl⟩
  · conv => whnf
    cases h
    obtain rfl := hR1 _ rfl
    exact hK
set_option maxRecDepth 100000 in
theorem w_spec_l05Parts (k_spec_l01In' : SoundC Tryz.prog 111 c_spec_l01In) : SoundC Tryz.prog 131 c_spec_l05Parts := by
  refine fn_sound tab_ok (gam_cons k_spec_l01In' gam_nil) mixed { loops := [(0, [.reg 6 (.dat (.int .i64))]), (2, [.reg 8 (.dat (.int .i64))]), (4, [.reg 9 (.dat (.int .i64))])], draws := [(6, [0, 1, 0, 4, 12, 28, 63, 127, 255, 511, 1023, 2047, 511, 4607, 511, 16895, 61951, 127487, 258559, 520703, 1048575, 2097151], .op 0 (.op 1 (.op 2 (.op 3 (.op 4 (.op 5 (.alt 6 (.op 7 (.op 8 (.op 9 (.op 10 (.op 11 (.op 12 (.op 13 (.op 14 (.op 15 (.op 16 (.op 17 (.op 18 (.op 19 (.op 20 (.op 21 (.done)))))))))))))))) (.done))))))))] } (fn := Tryz.f131) Tryz.func131 (by kernel_rfl) (by kernel_rfl) ?_
  rintro ⟨a0, a1, ⟨⟩⟩ K ⟨r, h, hK⟩
  change spec_l05Parts a0 a1 = some r at h
  unfold spec_l05Parts at h
  conv => whnf
  refine vLoop h ?_
  rintro I0 μ0 ⟨v0, ⟨⟩⟩ zs0 h hI0 hR0
  change spec_l05Parts_loop2 a0 a1 v0 = some zs0 at h
  unfold spec_l05Parts_loop2 at h
  conv => whnf
  refine vIfD h (fun h => ?_) (fun h => ?_)
  · conv => whnf
    refine vAt h (fun x0 he1a he1b he1x h => ?_)
    conv => whnf
    refine ⟨by kernel_rfl, ?_⟩
    conv => whnf
    refine vBind h (fun l01In0 hb2 h => ?_)
    conv => whnf
    refine vNot ?_
    refine vIfB h (fun h => ?_) (fun h => ?_)
    · conv => whnf
      refine vAt h (fun x1 he3a he3b he3x h => ?_)
      conv => whnf
      refine vNots ?_
      refine vIfD h (fun h => ?_) (fun h => ?_)
      · conv => whnf
        refine vLoop h ?_
        rintro I4 μ4 ⟨v1, ⟨⟩⟩ zs4 h hI4 hR4
        change spec_l05Parts_loop0 a1 v0 x0 v1 = some zs4 at h
        unfold spec_l05Parts_loop0 at h
        conv => whnf
        refine vIfD h (fun h => ?_) (fun h => ?_)
        · conv => whnf
          refine vAt h (fun x2 he5a he5b he5x h => ?_)
          conv => whnf
          refine vBind h (fun l01In1 hb6 h => ?_)
          conv => whnf
          refine vNots ?_
          refine vIfB h (fun h => ?_) (fun h => ?_)
          · conv => whnf
            cases h
            exact ⟨⟨rfl, rfl⟩, hI4 _ rfl⟩
          · conv => whnf
            cases h
            obtain rfl := hR4 _ rfl
            obtain rfl := hR0 _ rfl
            exact hK
        · conv => whnf
          cases h
          obtain rfl := hR4 _ rfl
          exact ⟨⟨rfl, rfl⟩, hI0 _ rfl⟩
      · conv => whnf
        cases h
        obtain rfl := hR0 _ rfl
        exact hK
    · conv => whnf
      cases h
      obtain rfl := hR0 _ rfl
      exact hK
  · conv => whnf
    refine vLoop h ?_
    rintro I7 μ7 ⟨v1, ⟨⟩⟩ zs7 h hI7 hR7
    change spec_l05Parts_loop1 a1 v1 = some zs7 at h
    unfold spec_l05Parts_loop1 at h
    conv => whnf
    refine vIfD h (fun h => ?_) (fun h => ?_)
    · conv => whnf
      refine vAt h (fun x0 he8a he8b he8x h => ?_)
      conv => whnf
      refine vBind h (fun l01In0 hb9 h => ?_)
      conv => whnf
      refine vNot ?_
      refine vIfB h (fun h => ?_) (fun h => ?_)
      · conv => whnf
        refine ⟨he8a, he8b, vAgain he8x ?_⟩
        conv => whnf
        refine vBind h (fun l01In1 hb10 h => ?_)
        conv => whnf
        refine vNots ?_
        refine vIfB h (fun h => ?_) (fun h => ?_)
        · conv => whnf
          cases h
          exact ⟨⟨rfl, rfl⟩, hI7 _ rfl⟩
        · conv => whnf
          cases h
          obtain rfl := hR7 _ rfl
          obtain rfl := hR0 _ rfl
          exact hK
      · conv => whnf
        cases h
        obtain rfl := hR7 _ rfl
        obtain rfl := hR0 _ rfl
        exact hK
    · conv => whnf
      cases h
      obtain rfl := hR7 _ rfl
      obtain rfl := hR0 _ rfl
      exact hK
set_option maxRecDepth 100000 in
theorem w_spec_l05Places : SoundC Tryz.prog 71 c_spec_l05Places := by
  refine fn_sound tab_ok gam_nil mixed { loops := [(0, [.reg 3 (.own (.ol 164 (.flat (tl05Place)))), .reg 4 (.dat (.int .i64))]), (2, [.reg 3 (.own (.ol 164 (.flat (tl05Place)))), .reg 6 (.dat (.int .i64))]), (4, [.reg 3 (.own (.ol 164 (.flat (tl05Place)))), .reg 7 (.dat (.int .i64))])], draws := [(13, [0, 0, 0, 4, 0, 28, 60, 124, 0, 256, 0, 1792, 3840, 7936, 16128, 32766, 65534, 131071, 262143], .op 0 (.op 1 (.op 2 (.op 3 (.op 4 (.op 5 (.op 6 (.op 7 (.op 8 (.op 9 (.op 10 (.op 11 (.op 12 (.op 13 (.op 14 (.op 15 (.alt 16 (.alt 17 (.op 18 (.done)) (.done)) (.done))))))))))))))))))] } (fn := Tryz.f71) Tryz.func71 (by kernel_rfl) (by kernel_rfl) ?_
  rintro ⟨a0, ⟨⟩⟩ K ⟨r, h, hK⟩
  change spec_l05Places a0 = some r at h
  unfold spec_l05Places at h
  conv => whnf
  refine vLoop h ?_
  rintro I0 μ0 ⟨v0, v1, ⟨⟩⟩ zs0 h hI0 hR0
  change spec_l05Places_loop2 a0 v0 v1 = some zs0 at h
  unfold spec_l05Places_loop2 at h
  conv => whnf
  refine vIfD h (fun h => ?_) (fun h => ?_)
  · conv => whnf
    refine vAt h (fun x0 he1a he1b he1x h => ?_)
    conv => whnf
    refine vLoop h ?_
    rintro I2 μ2 ⟨v2, v3, ⟨⟩⟩ zs2 h hI2 hR2
    change spec_l05Places_loop0 v1 x0 v2 v3 = some zs2 at h
    unfold spec_l05Places_loop0 at h
    conv => whnf
    refine vIfD h (fun h => ?_) (fun h => ?_)
    · conv => whnf
      refine vAt h (fun x1 he3a he3b he3x h => ?_)
      conv => whnf
      refine vPre h (fun hp4 h => ?_)
      conv => whnf
      cases h
      exact ⟨⟨rfl, rfl⟩, hI2 _ rfl⟩
    · conv => whnf
      cases h
      obtain rfl := hR2 _ rfl
      exact ⟨⟨rfl, rfl⟩, hI0 _ rfl⟩
  · conv => whnf
    refine vLoop h ?_
    rintro I5 μ5 ⟨v2, v3, ⟨⟩⟩ zs5 h hI5 hR5
    change spec_l05Places_loop1 a0 v2 v3 = some zs5 at h
    unfold spec_l05Places_loop1 at h
    conv => whnf
    refine vIfD h (fun h => ?_) (fun h => ?_)
    · conv => whnf
      refine ⟨by kernel_rfl, ?_⟩
      conv => whnf
      refine vAt h (fun x0 he6a he6b he6x h => ?_)
      conv => whnf
      refine ⟨he6a, he6b, vAgain he6x ?_⟩
      conv => whnf
      refine vPre h (fun hp7 h => ?_)
      conv => whnf
      cases h
      exact ⟨⟨rfl, rfl⟩, hI5 _ rfl⟩
    · conv => whnf
      cases h
      obtain rfl := hR5 _ rfl
      obtain rfl := hR0 _ rfl
      exact hK
set_option maxRecDepth 100000 in
theorem w_spec_l05Sinks (k_spec_l05Places' : SoundC Tryz.prog 71 c_spec_l05Places) : SoundC Tryz.prog 68 c_spec_l05Sinks := by
  refine fn_sound tab_ok (gam_cons k_spec_l05Places' gam_nil) mixed { loops := [(0, [.reg 5 (.own (.ol 2 (.flat (.int .i64)))), .reg 7 (.dat (.int .i64))])] } (fn := Tryz.f68) Tryz.func68 (by kernel_rfl) (by kernel_rfl) ?_
  rintro ⟨d0, net0, ⟨⟩⟩ K ⟨r, h, hK⟩
  change spec_l05Sinks d0 net0 = some r at h
  unfold spec_l05Sinks at h
  conv => whnf
  refine vBind h (fun l05Places0 hb0 h => ?_)
  conv => whnf
  refine vLoop h ?_
  rintro I1 μ1 ⟨out0, i0, ⟨⟩⟩ zs1 h hI1 hR1
  change spec_l05Sinks_loop0 net0 l05Places0 out0 i0 = some zs1 at h
  unfold spec_l05Sinks_loop0 at h
  conv => whnf
  refine vIfD h (fun h => ?_) (fun h => ?_)
  · conv => whnf
    refine vAt h (fun x0 he2a he2b he2x h => ?_)
    conv => whnf
    refine ⟨by kernel_rfl, ?_⟩
    conv => whnf
    refine ⟨he2a, he2b, vAgain he2x ?_⟩
    conv => whnf
    refine vIfD h (fun h => ?_) (fun h => ?_)
    · conv => whnf
      refine ⟨he2a, he2b, vAgain he2x ?_⟩
      conv => whnf
      refine ⟨by kernel_rfl, ?_⟩
      conv => whnf
      refine ⟨he2a, he2b, vAgain he2x ?_⟩
      conv => whnf
      refine vNots ?_
      refine vIfB h (fun h => ?_) (fun h => ?_)
      · conv => whnf
        cases h
        exact ⟨⟨rfl, rfl⟩, hI1 _ rfl⟩
      · conv => whnf
        refine vPre h (fun hp3 h => ?_)
        conv => whnf
        cases h
        exact ⟨⟨rfl, rfl⟩, hI1 _ rfl⟩
    · conv => whnf
      cases h
      exact ⟨⟨rfl, rfl⟩, hI1 _ rfl⟩
  · conv => whnf
    cases h
    obtain rfl := hR1 _ rfl
    exact hK
set_option maxRecDepth 100000 in
theorem w_spec_l09Links (k_spec_l05Find' : SoundC Tryz.prog 66 c_spec_l05Find) (k_spec_l09Arc' : SoundC Tryz.prog 65 c_spec_l09Arc) (k_spec_l05Driver' : SoundC Tryz.prog 67 c_spec_l05Driver) (k_spec_l05Sinks' : SoundC Tryz.prog 68 c_spec_l05Sinks) (k_spec_l09Pair' : SoundC Tryz.prog 69 c_spec_l09Pair) : SoundC Tryz.prog 30 c_spec_l09Links := by
  refine fn_sound tab_ok (gam_cons k_spec_l05Find' (gam_cons k_spec_l09Arc' (gam_cons k_spec_l05Driver' (gam_cons k_spec_l05Sinks' (gam_cons k_spec_l09Pair' gam_nil))))) mixed { loops := [(0, [.reg 3 (.own (.ol 117 (.flat (tLink)))), .reg 5 (.dat (.int .i64))]), (2, [.reg 3 (.own (.ol 117 (.flat (tLink)))), .reg 7 (.dat (.int .i64))]), (4, [.reg 3 (.own (.ol 117 (.flat (tLink)))), .reg 8 (.dat (.int .i64))]), (6, [.reg 3 (.own (.ol 117 (.flat (tLink)))), .reg 11 (.dat (.int .i64))])], draws := [(6, [0, 1, 3, 0, 8, 0, 56, 120, 248, 511, 1023, 2047, 4095], .op 0 (.op 1 (.op 2 (.op 3 (.op 4 (.op 5 (.op 6 (.op 7 (.op 8 (.op 9 (.op 10 (.op 11 (.op 12 (.done)))))))))))))), (11, [0, 0, 0, 6, 14, 0, 0, 0, 0, 384, 896, 1920, 4064, 0, 0, 0, 0, 98304, 229376, 491520, 1048544, 0, 4194303, 8388607], .op 0 (.op 1 (.op 2 (.op 3 (.op 4 (.op 5 (.op 6 (.op 7 (.op 8 (.op 9 (.op 10 (.op 11 (.op 13 (.op 14 (.op 15 (.op 16 (.op 17 (.op 18 (.op 19 (.op 21 (.alt 12 (.alt 20 (.alt 22 (.op 23 (.done)) (.done)) (.done)) (.done))))))))))))))))))))))] } (fn := Tryz.f30) Tryz.func30 (by kernel_rfl) (by kernel_rfl) ?_
  rintro ⟨a0, ⟨⟩⟩ K ⟨r, h, hK⟩
  change spec_l09Links a0 = some r at h
  unfold spec_l09Links at h
  conv => whnf
  refine vLoop h ?_
  rintro I0 μ0 ⟨v0, v1, ⟨⟩⟩ zs0 h hI0 hR0
  change spec_l09Links_loop3 a0 v0 v1 = some zs0 at h
  unfold spec_l09Links_loop3 at h
  conv => whnf
  refine vIfD h (fun h => ?_) (fun h => ?_)
  · conv => whnf
    refine ⟨by kernel_rfl, ?_⟩
    conv => whnf
    refine vAt h (fun x0 he1a he1b he1x h => ?_)
    conv => whnf
    refine vAt h (fun x1 he2a he2b he2x h => ?_)
    conv => whnf
    refine vLoop h ?_
    rintro I3 μ3 ⟨v2, v3, ⟨⟩⟩ zs3 h hI3 hR3
    change spec_l09Links_loop0 a0 v1 x1 v2 v3 = some zs3 at h
    unfold spec_l09Links_loop0 at h
    conv => whnf
    refine vIfD h (fun h => ?_) (fun h => ?_)
    · conv => whnf
      refine vAt h (fun x2 he4a he4b he4x h => ?_)
      conv => whnf
      refine vIfD h (fun h => ?_) (fun h => ?_)
      · conv => whnf
        refine ⟨by kernel_rfl, ?_⟩
        conv => whnf
        refine ⟨he4a, he4b, vAgain he4x ?_⟩
        conv => whnf
        refine ⟨he4a, he4b, vAgain he4x ?_⟩
        conv => whnf
        refine ⟨he4a, he4b, vAgain he4x ?_⟩
        conv => whnf
        refine vBind h (fun l05Find0 hb5 h => ?_)
        conv => whnf
        refine vBind h (fun l05Find1 hb6 h => ?_)
        conv => whnf
        refine vBind h (fun l09Arc0 hb7 h => ?_)
        conv => whnf
        cases h
        exact ⟨⟨rfl, rfl⟩, hI3 _ rfl⟩
      · conv => whnf
        cases h
        exact ⟨⟨rfl, rfl⟩, hI3 _ rfl⟩
    · conv => whnf
      cases h
      obtain rfl := hR3 _ rfl
      exact ⟨⟨rfl, rfl⟩, hI0 _ rfl⟩
  · conv => whnf
    refine vLoop h ?_
    rintro I8 μ8 ⟨v2, v3, ⟨⟩⟩ zs8 h hI8 hR8
    change spec_l09Links_loop2 a0 v2 v3 = some zs8 at h
    unfold spec_l09Links_loop2 at h
    conv => whnf
    refine vIfD h (fun h => ?_) (fun h => ?_)
    · conv => whnf
      refine vBind h (fun l05Driver0 hb9 h => ?_)
      conv => whnf
      refine vBind h (fun l05Sinks0 hb10 h => ?_)
      conv => whnf
      refine vLoop h ?_
      rintro I11 μ11 ⟨v4, v5, ⟨⟩⟩ zs11 h hI11 hR11
      change spec_l09Links_loop1 v3 l05Driver0 l05Sinks0 v4 v5 = some zs11 at h
      unfold spec_l09Links_loop1 at h
      conv => whnf
      refine vIfD h (fun h => ?_) (fun h => ?_)
      · conv => whnf
        refine vAt h (fun x0 he12a he12b he12x h => ?_)
        conv => whnf
        refine ⟨by kernel_rfl, ?_⟩
        conv => whnf
        refine ⟨he12a, he12b, vAgain he12x ?_⟩
        conv => whnf
        refine vBind h (fun l09Pair0 hb13 h => ?_)
        conv => whnf
        refine ⟨he12a, he12b, vAgain he12x ?_⟩
        conv => whnf
        refine ⟨by kernel_rfl, ?_⟩
        conv => whnf
        refine ⟨he12a, he12b, vAgain he12x ?_⟩
        conv => whnf
        refine vBind h (fun l09Pair1 hb14 h => ?_)
        conv => whnf
        cases h
        exact ⟨⟨rfl, rfl⟩, hI11 _ rfl⟩
      · conv => whnf
        cases h
        obtain rfl := hR11 _ rfl
        exact ⟨⟨rfl, rfl⟩, hI8 _ rfl⟩
    · conv => whnf
      cases h
      obtain rfl := hR8 _ rfl
      obtain rfl := hR0 _ rfl
      exact hK
end Go.Proofs.YtenpdmpfepgkjaaGreatDoor
