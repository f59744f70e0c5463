/-
  The functions keep their contracts, if what they call does. Printed by program.
-/
import Derived.Test.YtaccffcigblceaaGreatDoorM
import Derived.KernelRfl
namespace Go.Proofs.YtaccffcigblceaaGreatDoor
open Go Go.Sx
set_option maxRecDepth 100000
set_option linter.unusedVariables false
set_option linter.unusedSimpArgs false
theorem w_impl_Cell_has_c1 : SoundC Tryz.prog 292 c_impl_Cell_has_c1 := by
  refine fn_sound tab_ok gam_nil mixed {} (fn := Tryz.f292) Tryz.func292 (by kernel_rfl) (by kernel_rfl) ?_
  rintro ⟨a0, a1, ⟨⟩⟩ K ⟨r, h, hK⟩
  change impl_Cell_has_c1 a0 a1 = some r at h
  unfold impl_Cell_has_c1 at h
  conv => whnf
  cases h
  exact hK
theorem w_impl_Cell_isInput (q0 : SoundC Tryz.prog 278 c_impl_Cell_output) (q1 : SoundC Tryz.prog 171 c_impl_within) : SoundC Tryz.prog 290 c_impl_Cell_isInput := by
  refine fn_sound tab_ok (gam_cons q0 (gam_cons q1 gam_nil)) mixed {} (fn := Tryz.f290) Tryz.func290 (by kernel_rfl) (by kernel_rfl) ?_
  rintro ⟨c0, pin0, ⟨⟩⟩ K ⟨r, h, hK⟩
  change impl_Cell_isInput c0 pin0 = some r at h
  unfold impl_Cell_isInput at h
  conv => whnf
  refine vBind h (fun output0 hb0 h => ?_)
  conv => whnf
  refine vBind h (fun within0 hb1 h => ?_)
  conv => whnf
  cases h
  exact hK
theorem w_impl_Cell_isOfKind (q0 : SoundC Tryz.prog 278 c_impl_Cell_output) (q1 : SoundC Tryz.prog 205 c_impl_areWithin) (q2 : SoundC Tryz.prog 279 c_impl_Cell_has) : SoundC Tryz.prog 259 c_impl_Cell_isOfKind := by
  refine fn_sound tab_ok (gam_cons q0 (gam_cons q1 (gam_cons q2 gam_nil))) mixed { loops := [(0, [.reg 3 (.dat (.int .i64)), .reg 9 (.dat (.int .i64))])], draws := [(10, [0, 1, 3, 7, 15, 31, 7, 71, 199, 511, 1023, 2047, 4095, 8191, 16383, 32767, 65535], .op 0 (.op 1 (.op 2 (.op 3 (.op 4 (.op 5 (.op 6 (.alt 7 (.op 8 (.op 9 (.op 10 (.op 11 (.op 12 (.op 13 (.alt 14 (.op 15 (.op 16 (.done))) (.done)))))))) (.done))))))))), (12, [0, 1, 3, 7, 15, 31, 63, 127, 255, 511, 1023, 2047, 4095, 8191, 16383, 32767, 16383, 131071, 262143, 524287, 1048575], .op 0 (.op 1 (.op 2 (.op 3 (.op 4 (.op 5 (.op 6 (.op 7 (.op 8 (.op 9 (.alt 10 (.op 11 (.op 12 (.op 13 (.op 14 (.op 16 (.alt 15 (.alt 17 (.op 18 (.op 19 (.op 20 (.done)))) (.done)) (.done))))))) (.done))))))))))))] } (fn := Tryz.f259) Tryz.func259 (by kernel_rfl) (by kernel_rfl) ?_
  rintro ⟨a0, ⟨⟩⟩ K ⟨r, h, hK⟩
  change impl_Cell_isOfKind a0 = some r at h
  unfold impl_Cell_isOfKind at h
  conv => whnf
  refine vLoop h ?_
  rintro I0 μ0 ⟨v0, v1, ⟨⟩⟩ zs0 h hI0 hR0
  change impl_Cell_isOfKind_loop0 a0 v0 v1 = some zs0 at h
  unfold impl_Cell_isOfKind_loop0 at h
  conv => whnf
  refine vIfD h (fun h => ?_) (fun h => ?_)
  · conv => whnf
    refine vAt h (fun x0 he1a he1b he1x h => ?_)
    conv => whnf
    refine vIfB h (fun h => ?_) (fun h => ?_)
    · conv => whnf
      cases h
      exact ⟨⟨rfl, rfl⟩, hI0 _ rfl⟩
    · conv => whnf
      cases h
      exact ⟨⟨rfl, rfl⟩, hI0 _ rfl⟩
  · conv => whnf
    refine vIfD h (fun h => ?_) (fun h => ?_)
    · conv => whnf
      refine ⟨by kernel_rfl, ?_⟩
      conv => whnf
      refine vIfD h (fun h => ?_) (fun h => ?_)
      · conv => whnf
        refine vBind h (fun output0 hb2 h => ?_)
        conv => whnf
        refine vPre h (fun hp3 h => ?_)
        conv => whnf
        refine vIfD h (fun h => ?_) (fun h => ?_)
        · conv => whnf
          refine vBind h (fun areWithin0 hb4 h => ?_)
          conv => whnf
          cases h
          obtain rfl := hR0 _ rfl
          exact hK
        · conv => whnf
          cases h
          obtain rfl := hR0 _ rfl
          exact hK
      · conv => whnf
        cases h
        obtain rfl := hR0 _ rfl
        exact hK
    · conv => whnf
      refine vIfD h (fun h => ?_) (fun h => ?_)
      · conv => whnf
        refine ⟨by kernel_rfl, ?_⟩
        conv => whnf
        refine vIfD h (fun h => ?_) (fun h => ?_)
        · conv => whnf
          refine vIfD h (fun h => ?_) (fun h => ?_)
          · conv => whnf
            refine vBind h (fun has0 hb5 h => ?_)
            conv => whnf
            refine vNots ?_
            refine vIfB h (fun h => ?_) (fun h => ?_)
            · conv => whnf
              cases h
              obtain rfl := hR0 _ rfl
              exact hK
            · conv => whnf
              refine vBind h (fun has1 hb6 h => ?_)
              conv => whnf
              refine vBind h (fun has2 hb7 h => ?_)
              conv => whnf
              cases h
              obtain rfl := hR0 _ rfl
              exact hK
          · conv => whnf
            cases h
            obtain rfl := hR0 _ rfl
            exact hK
        · conv => whnf
          cases h
          obtain rfl := hR0 _ rfl
          exact hK
      · conv => whnf
        refine vIfD h (fun h => ?_) (fun h => ?_)
        · conv => whnf
          refine vIfD h (fun h => ?_) (fun h => ?_)
          · conv => whnf
            refine vIfD h (fun h => ?_) (fun h => ?_)
            · conv => whnf
              refine vBind h (fun has0 hb8 h => ?_)
              conv => whnf
              refine vIfB h (fun h => ?_) (fun h => ?_)
              · conv => whnf
                refine vBind h (fun has1 hb9 h => ?_)
                conv => whnf
                refine vIfB h (fun h => ?_) (fun h => ?_)
                · conv => whnf
                  refine vBind h (fun has2 hb10 h => ?_)
                  conv => whnf
                  cases h
                  obtain rfl := hR0 _ rfl
                  exact hK
                · conv => whnf
                  cases h
                  obtain rfl := hR0 _ rfl
                  exact hK
              · conv => whnf
                cases h
                obtain rfl := hR0 _ rfl
                exact hK
            · conv => whnf
              cases h
              obtain rfl := hR0 _ rfl
              exact hK
          · conv => whnf
            cases h
            obtain rfl := hR0 _ rfl
            exact hK
        · conv => whnf
          cases h
          obtain rfl := hR0 _ rfl
          exact hK
theorem w_impl_Cell_output (q0 : SoundC Tryz.prog 274 c_impl_length_impl_Pin) : SoundC Tryz.prog 278 c_impl_Cell_output := by
  refine fn_sound tab_ok (gam_cons q0 gam_nil) mixed {} (fn := Tryz.f278) Tryz.func278 (by kernel_rfl) (by kernel_rfl) ?_
  rintro ⟨c0, ⟨⟩⟩ K ⟨r, h, hK⟩
  change impl_Cell_output c0 = some r at h
  unfold impl_Cell_output at h
  conv => whnf
  refine vBind h (fun Pin0 hb0 h => ?_)
  conv => whnf
  cases h
  exact hK
theorem w_impl_Design_isNet (q0 : SoundC Tryz.prog 236 c_impl_length_string) (q1 : SoundC Tryz.prog 171 c_impl_within) : SoundC Tryz.prog 201 c_impl_Design_isNet := by
  refine fn_sound tab_ok (gam_cons q0 (gam_cons q1 gam_nil)) mixed {} (fn := Tryz.f201) Tryz.func201 (by kernel_rfl) (by kernel_rfl) ?_
  rintro ⟨d0, net0, ⟨⟩⟩ K ⟨r, h, hK⟩
  change impl_Design_isNet d0 net0 = some r at h
  unfold impl_Design_isNet at h
  conv => whnf
  refine vBind h (fun string0 hb0 h => ?_)
  conv => whnf
  refine vBind h (fun within0 hb1 h => ?_)
  conv => whnf
  cases h
  exact hK
theorem w_impl_EditCode (q1 : SoundC Tryz.prog 99 c_impl_IsBlock) (q0 : SoundC Tryz.prog 100 c_impl_Edit_code) : SoundC Tryz.prog 45 c_impl_EditCode := by
  refine fn_sound tab_ok (gam_cons q1 (gam_cons q0 gam_nil)) mixed {} (fn := Tryz.f45) Tryz.func45 (by kernel_rfl) (by kernel_rfl) ?_
  rintro ⟨b0, e0, ⟨⟩⟩ K ⟨r, h, hK⟩
  change impl_EditCode b0 e0 = some r at h
  unfold impl_EditCode at h
  conv => whnf
  refine vBind h (fun IsBlock0 hb0 h => ?_)
  conv => whnf
  refine vNots ?_
  refine vIfB h (fun h => ?_) (fun h => ?_)
  · conv => whnf
    refine vBind h (fun code0 hb1 h => ?_)
    conv => whnf
    cases h
    exact hK
  · conv => whnf
    cases h
    exact hK
theorem w_impl_arePins (q2 : SoundC Tryz.prog 171 c_impl_within) (q0 : SoundC Tryz.prog 274 c_impl_length_impl_Pin) (q1 : SoundC Tryz.prog 221 c_impl_areNames) : SoundC Tryz.prog 257 c_impl_arePins := by
  refine fn_sound tab_ok (gam_cons q2 (gam_cons q0 (gam_cons q1 gam_nil))) mixed { loops := [(0, [.reg 3 (.own (.ol 9 (.flat (.str)))), .reg 8 (.dat (.int .i64))])] } (fn := Tryz.f257) Tryz.func257 (by kernel_rfl) (by kernel_rfl) ?_
  rintro ⟨list0, ⟨⟩⟩ K ⟨r, h, hK⟩
  change impl_arePins list0 = some r at h
  unfold impl_arePins at h
  conv => whnf
  refine vLoop h ?_
  rintro I0 μ0 ⟨names0, v0, ⟨⟩⟩ zs0 h hI0 hR0
  change impl_arePins_loop0 list0 names0 v0 = some zs0 at h
  unfold impl_arePins_loop0 at h
  conv => whnf
  refine vIfD h (fun h => ?_) (fun h => ?_)
  · conv => whnf
    refine vAt h (fun x0 he1a he1b he1x h => ?_)
    conv => whnf
    refine vPre h (fun hp2 h => ?_)
    conv => whnf
    refine vIfD h (fun h => ?_) (fun h => ?_)
    · conv => whnf
      refine vNot ?_
      refine vIfD h (fun h => ?_) (fun h => ?_)
      · conv => whnf
        refine vNot ?_
        refine vIfD h (fun h => ?_) (fun h => ?_)
        · conv => whnf
          refine vIfB h (fun h => ?_) (fun h => ?_)
          · conv => whnf
            cases h
            obtain rfl := hR0 _ rfl
            exact hK
          · conv => whnf
            cases h
            exact ⟨⟨rfl, rfl⟩, hI0 _ rfl⟩
        · conv => whnf
          cases h
          obtain rfl := hR0 _ rfl
          exact hK
      · conv => whnf
        cases h
        obtain rfl := hR0 _ rfl
        exact hK
    · conv => whnf
      refine vNot ?_
      refine vIfD h (fun h => ?_) (fun h => ?_)
      · conv => whnf
        refine vBind h (fun within0 hb3 h => ?_)
        conv => whnf
        refine vNots ?_
        refine vIfB h (fun h => ?_) (fun h => ?_)
        · conv => whnf
          cases h
          exact ⟨⟨rfl, rfl⟩, hI0 _ rfl⟩
        · conv => whnf
          cases h
          obtain rfl := hR0 _ rfl
          exact hK
      · conv => whnf
        cases h
        obtain rfl := hR0 _ rfl
        exact hK
  · conv => whnf
    refine vBind h (fun Pin0 hb4 h => ?_)
    conv => whnf
    refine vBind h (fun within0 hb5 h => ?_)
    conv => whnf
    refine vIfB h (fun h => ?_) (fun h => ?_)
    · conv => whnf
      refine vBind h (fun areNames0 hb6 h => ?_)
      conv => whnf
      cases h
      obtain rfl := hR0 _ rfl
      exact hK
    · conv => whnf
      cases h
      obtain rfl := hR0 _ rfl
      exact hK
theorem w_impl_areTables_c1 (q1 : SoundC Tryz.prog 299 c_impl_IsTable) (q0 : SoundC Tryz.prog 300 c_slices_Min_Sint64_int64) : SoundC Tryz.prog 298 c_impl_areTables_c1 := by
  refine fn_sound tab_ok (gam_cons q1 (gam_cons q0 gam_nil)) mixed {} (fn := Tryz.f298) Tryz.func298 (by kernel_rfl) (by kernel_rfl) ?_
  rintro ⟨t0, a0, ⟨⟩⟩ K ⟨r, h, hK⟩
  change impl_areTables_c1 t0 a0 = some r at h
  unfold impl_areTables_c1 at h
  conv => whnf
  refine vBind h (fun IsTable0 hb0 h => ?_)
  conv => whnf
  refine vNot ?_
  refine vIfB h (fun h => ?_) (fun h => ?_)
  · conv => whnf
    refine vIfB h (fun h => ?_) (fun h => ?_)
    · conv => whnf
      refine vBind h (fun int64_0 hb1 h => ?_)
      conv => whnf
      cases h
      exact hK
    · conv => whnf
      cases h
      exact hK
  · conv => whnf
    cases h
    exact hK
theorem w_impl_fitsSwap (q0 : SoundC Tryz.prog 240 c_slices_EqualFunc_Simpl_Pin_Simpl_Pin_impl_Pin_impl_Pin_at_impl_fitsSwap_c1) : SoundC Tryz.prog 210 c_impl_fitsSwap := by
  refine fn_sound tab_ok (gam_cons q0 gam_nil) mixed {} (fn := Tryz.f210) Tryz.func210 (by kernel_rfl) (by kernel_rfl) ?_
  rintro ⟨a0, b0, ⟨⟩⟩ K ⟨r, h, hK⟩
  change impl_fitsSwap a0 b0 = some r at h
  unfold impl_fitsSwap at h
  conv => whnf
  refine vIfD h (fun h => ?_) (fun h => ?_)
  · conv => whnf
    refine vBind h (fun c1_0 hb0 h => ?_)
    conv => whnf
    cases h
    exact hK
  · conv => whnf
    cases h
    exact hK
theorem w_impl_isIncreasing : SoundC Tryz.prog 225 c_impl_isIncreasing := by
  refine fn_sound tab_ok gam_nil mixed { loops := [(0, [.reg 3 (.dat (.int .i64))])], draws := [(4, [0, 0, 2, 7, 15, 0, 0, 96, 224, 511], .op 0 (.op 1 (.op 2 (.op 3 (.op 4 (.op 5 (.op 6 (.op 7 (.op 8 (.op 9 (.done)))))))))))] } (fn := Tryz.f225) Tryz.func225 (by kernel_rfl) (by kernel_rfl) ?_
  rintro ⟨list0, ⟨⟩⟩ K ⟨r, h, hK⟩
  change impl_isIncreasing list0 = some r at h
  unfold impl_isIncreasing at h
  conv => whnf
  refine vLoop h ?_
  rintro I0 μ0 ⟨i0, ⟨⟩⟩ zs0 h hI0 hR0
  change impl_isIncreasing_loop0 list0 i0 = some zs0 at h
  unfold impl_isIncreasing_loop0 at h
  conv => whnf
  refine vIfD h (fun h => ?_) (fun h => ?_)
  · conv => whnf
    refine ⟨by kernel_rfl, ?_⟩
    conv => whnf
    refine vAt h (fun x0 he1a he1b he1x h => ?_)
    conv => whnf
    refine vAt h (fun x1 he2a he2b he2x h => ?_)
    conv => whnf
    refine vIfD h (fun h => ?_) (fun h => ?_)
    · conv => whnf
      cases h
      obtain rfl := hR0 _ rfl
      exact hK
    · conv => whnf
      cases h
      exact ⟨⟨rfl, rfl⟩, hI0 _ rfl⟩
  · conv => whnf
    cases h
    obtain rfl := hR0 _ rfl
    exact hK
theorem w_impl_length_impl_Cell : SoundC Tryz.prog 209 c_impl_length_impl_Cell := by
  refine fn_sound tab_ok gam_nil mixed {} (fn := Tryz.f209) Tryz.func209 (by kernel_rfl) (by kernel_rfl) ?_
  rintro ⟨list0, ⟨⟩⟩ K ⟨r, h, hK⟩
  change impl_length_impl_Cell list0 = some r at h
  unfold impl_length_impl_Cell at h
  conv => whnf
  cases h
  exact hK
theorem w_laws_eqArc (q0 : SoundC Tryz.prog 270 c_laws_eqTableS) : SoundC Tryz.prog 248 c_laws_eqArc := by
  refine fn_sound tab_ok (gam_cons q0 gam_nil) mixed {} (fn := Tryz.f248) Tryz.func248 (by kernel_rfl) (by kernel_rfl) ?_
  rintro ⟨a0, b0, ⟨⟩⟩ K ⟨r, h, hK⟩
  change laws_eqArc a0 b0 = some r at h
  unfold laws_eqArc at h
  conv => whnf
  refine vNots ?_
  refine vIfD h (fun h => ?_) (fun h => ?_)
  · conv => whnf
    refine vNots ?_
    refine vIfD h (fun h => ?_) (fun h => ?_)
    · conv => whnf
      refine vNots ?_
      refine vIfD h (fun h => ?_) (fun h => ?_)
      · conv => whnf
        refine vNots ?_
        refine vIfD h (fun h => ?_) (fun h => ?_)
        · conv => whnf
          refine vBind h (fun eqTableS0 hb0 h => ?_)
          conv => whnf
          refine vNots ?_
          refine vIfB h (fun h => ?_) (fun h => ?_)
          · conv => whnf
            refine vBind h (fun eqTableS1 hb1 h => ?_)
            conv => whnf
            refine vNots ?_
            refine vIfB h (fun h => ?_) (fun h => ?_)
            · conv => whnf
              cases h
              exact hK
            · conv => whnf
              cases h
              exact hK
          · conv => whnf
            cases h
            exact hK
        · conv => whnf
          cases h
          exact hK
      · conv => whnf
        cases h
        exact hK
    · conv => whnf
      cases h
      exact hK
  · conv => whnf
    cases h
    exact hK
theorem w_laws_eqPin : SoundC Tryz.prog 247 c_laws_eqPin := by
  refine fn_sound tab_ok gam_nil mixed {} (fn := Tryz.f247) Tryz.func247 (by kernel_rfl) (by kernel_rfl) ?_
  rintro ⟨a0, b0, ⟨⟩⟩ K ⟨r, h, hK⟩
  change laws_eqPin a0 b0 = some r at h
  unfold laws_eqPin at h
  conv => whnf
  refine vNots ?_
  refine vIfD h (fun h => ?_) (fun h => ?_)
  · conv => whnf
    refine vNots ?_
    refine vIfD h (fun h => ?_) (fun h => ?_)
    · conv => whnf
      refine vNots ?_
      refine vIfD h (fun h => ?_) (fun h => ?_)
      · conv => whnf
        refine vNots ?_
        refine vIfB h (fun h => ?_) (fun h => ?_)
        · conv => whnf
          cases h
          exact hK
        · conv => whnf
          cases h
          exact hK
      · conv => whnf
        cases h
        exact hK
    · conv => whnf
      cases h
      exact hK
  · conv => whnf
    cases h
    exact hK
theorem w_laws_eqTableS (q0 : SoundC Tryz.prog 285 c_laws_eqTable) : SoundC Tryz.prog 270 c_laws_eqTableS := by
  refine fn_sound tab_ok (gam_cons q0 gam_nil) mixed { loops := [(0, [.reg 5 (.dat (.int .i64))])], draws := [(6, [0, 0, 3, 7, 0, 0, 48, 112, 255, 511], .op 0 (.op 1 (.op 2 (.op 3 (.op 4 (.op 5 (.op 6 (.op 7 (.alt 8 (.op 9 (.done)) (.done))))))))))] } (fn := Tryz.f270) Tryz.func270 (by kernel_rfl) (by kernel_rfl) ?_
  rintro ⟨a0, b0, ⟨⟩⟩ K ⟨r, h, hK⟩
  change laws_eqTableS a0 b0 = some r at h
  unfold laws_eqTableS at h
  conv => whnf
  refine vNots ?_
  refine vIfD h (fun h => ?_) (fun h => ?_)
  · conv => whnf
    refine vLoop h ?_
    rintro I0 μ0 ⟨i0, ⟨⟩⟩ zs0 h hI0 hR0
    change laws_eqTableS_loop0 a0 b0 i0 = some zs0 at h
    unfold laws_eqTableS_loop0 at h
    conv => whnf
    refine vIfD h (fun h => ?_) (fun h => ?_)
    · conv => whnf
      refine ⟨by kernel_rfl, ?_⟩
      conv => whnf
      refine vAt h (fun x0 he1a he1b he1x h => ?_)
      conv => whnf
      refine vAt h (fun x1 he2a he2b he2x h => ?_)
      conv => whnf
      refine vBind h (fun eqTable0 hb3 h => ?_)
      conv => whnf
      refine vNots ?_
      refine vIfB h (fun h => ?_) (fun h => ?_)
      · conv => whnf
        cases h
        exact ⟨⟨rfl, rfl⟩, hI0 _ rfl⟩
      · conv => whnf
        cases h
        obtain rfl := hR0 _ rfl
        exact hK
    · conv => whnf
      cases h
      obtain rfl := hR0 _ rfl
      exact hK
  · conv => whnf
    cases h
    exact hK
theorem w_laws_markEdit (q0 : SoundC Tryz.prog 54 c_laws_markWire) : SoundC Tryz.prog 16 c_laws_markEdit := by
  refine fn_sound tabD_ok (gam_cons q0 gam_nil) mixed {} (fn := Tryz.f16) Tryz.func16 (by kernel_rfl) (by kernel_rfl) ?_
  rintro ⟨a0, k0, ⟨⟩⟩ K ⟨r, h, hK⟩
  change laws_markEdit a0 k0 = some r at h
  unfold laws_markEdit at h
  conv => whnf
  refine vBind h (fun markWire0 hb0 h => ?_)
  conv => whnf
  cases h
  exact hK
theorem w_laws_szCell (q1 : SoundC Tryz.prog 189 c_laws_szPinS) (q2 : SoundC Tryz.prog 190 c_laws_szArcS) (q0 : SoundC Tryz.prog 88 c_laws_szInt64S) : SoundC Tryz.prog 142 c_laws_szCell := by
  refine fn_sound tab_ok (gam_cons q1 (gam_cons q2 (gam_cons q0 gam_nil))) mixed {} (fn := Tryz.f142) Tryz.func142 (by kernel_rfl) (by kernel_rfl) ?_
  rintro ⟨a0, left0, ⟨⟩⟩ K ⟨r, h, hK⟩
  change laws_szCell a0 left0 = some r at h
  unfold laws_szCell at h
  conv => whnf
  refine vIfD h (fun h => ?_) (fun h => ?_)
  · conv => whnf
    cases h
    exact hK
  · conv => whnf
    refine vBind h (fun szPinS0 hb0 h => ?_)
    conv => whnf
    refine vIfD h (fun h => ?_) (fun h => ?_)
    · conv => whnf
      cases h
      exact hK
    · conv => whnf
      refine vBind h (fun szArcS0 hb1 h => ?_)
      conv => whnf
      refine vIfD h (fun h => ?_) (fun h => ?_)
      · conv => whnf
        cases h
        exact hK
      · conv => whnf
        refine vBind h (fun szInt64S0 hb2 h => ?_)
        conv => whnf
        refine vIfD h (fun h => ?_) (fun h => ?_)
        · conv => whnf
          cases h
          exact hK
        · conv => whnf
          cases h
          exact hK
theorem w_laws_szDesign (q0 : SoundC Tryz.prog 85 c_laws_szInstanceS) (q1 : SoundC Tryz.prog 86 c_laws_szStringS) (q2 : SoundC Tryz.prog 87 c_laws_szPortS) : SoundC Tryz.prog 36 c_laws_szDesign := by
  refine fn_sound tab_ok (gam_cons q0 (gam_cons q1 (gam_cons q2 gam_nil))) mixed {} (fn := Tryz.f36) Tryz.func36 (by kernel_rfl) (by kernel_rfl) ?_
  rintro ⟨a0, left0, ⟨⟩⟩ K ⟨r, h, hK⟩
  change laws_szDesign a0 left0 = some r at h
  unfold laws_szDesign at h
  conv => whnf
  refine vBind h (fun szInstanceS0 hb0 h => ?_)
  conv => whnf
  refine vIfD h (fun h => ?_) (fun h => ?_)
  · conv => whnf
    cases h
    exact hK
  · conv => whnf
    refine vBind h (fun szStringS0 hb1 h => ?_)
    conv => whnf
    refine vIfD h (fun h => ?_) (fun h => ?_)
    · conv => whnf
      cases h
      exact hK
    · conv => whnf
      refine vBind h (fun szPortS0 hb2 h => ?_)
      conv => whnf
      refine vIfD h (fun h => ?_) (fun h => ?_)
      · conv => whnf
        cases h
        exact hK
      · conv => whnf
        cases h
        exact hK
theorem w_laws_szPinS (q0 : SoundC Tryz.prog 228 c_laws_szPin) : SoundC Tryz.prog 189 c_laws_szPinS := by
  refine fn_sound tab_ok (gam_cons q0 gam_nil) mixed { loops := [(0, [.reg 1 (.dat (.int .i64)), .reg 5 (.dat (.int .i64))])] } (fn := Tryz.f189) Tryz.func189 (by kernel_rfl) (by kernel_rfl) ?_
  rintro ⟨a0, left0, ⟨⟩⟩ K ⟨r, h, hK⟩
  change laws_szPinS a0 left0 = some r at h
  unfold laws_szPinS at h
  conv => whnf
  refine vIfD h (fun h => ?_) (fun h => ?_)
  · conv => whnf
    cases h
    exact hK
  · conv => whnf
    refine vLoop h ?_
    rintro I0 μ0 ⟨left1, i0, ⟨⟩⟩ zs0 h hI0 hR0
    change laws_szPinS_loop0 a0 left1 i0 = some zs0 at h
    unfold laws_szPinS_loop0 at h
    conv => whnf
    refine vIfD h (fun h => ?_) (fun h => ?_)
    · conv => whnf
      refine vAt h (fun x0 he1a he1b he1x h => ?_)
      conv => whnf
      refine vBind h (fun szPin0 hb2 h => ?_)
      conv => whnf
      refine vIfD h (fun h => ?_) (fun h => ?_)
      · conv => whnf
        cases h
        obtain rfl := hR0 _ rfl
        exact hK
      · conv => whnf
        cases h
        exact ⟨⟨rfl, rfl⟩, hI0 _ rfl⟩
    · conv => whnf
      cases h
      obtain rfl := hR0 _ rfl
      exact hK
theorem w_laws_toCellS (q0 : SoundC Tryz.prog 154 c_laws_toCell) : SoundC Tryz.prog 94 c_laws_toCellS := by
  refine fn_sound tabD_ok (gam_cons q0 gam_nil) mixed { loops := [(0, [.reg 4 (.dat (.int .i64)), .ent 0 (nat_lit 252) dCell])] } (fn := Tryz.f94) Tryz.func94 (by kernel_rfl) (by kernel_rfl) ?_
  rintro ⟨a0, ⟨⟩⟩ K ⟨r, h, hK⟩
  change laws_toCellS a0 = some r at h
  unfold laws_toCellS at h
  conv => whnf
  refine vPre h (fun hp0 h => ?_)
  conv => whnf
  refine vPre h (fun hp1 h => ?_)
  conv => whnf
  refine vPre h (fun hp2 h => ?_)
  conv => whnf
  refine vPre h (fun hp3 h => ?_)
  conv => whnf
  intro fp4
  conv => whnf
  refine vLoop h ?_
  rintro I5 μ5 ⟨i0, l0, ⟨⟩⟩ zs5 h hI5 hR5
  change laws_toCellS_loop0 a0 i0 l0 = some zs5 at h
  unfold laws_toCellS_loop0 at h
  conv => whnf
  intro fp6
  conv => whnf
  refine vIfD h (fun h => ?_) (fun h => ?_)
  · conv => whnf
    refine vAt h (fun x0 he7a he7b he7x h => ?_)
    conv => whnf
    refine vBind h (fun toCell0 hb8 h => ?_)
    conv => whnf
    intro fp9
    conv => whnf
    refine vAt h (fun x1 he10a he10b he10x h => ?_)
    conv => whnf
    refine ⟨he10a, he10b, vAgain he10x ?_⟩
    conv => whnf
    intro fp11
    conv => whnf
    intro fp12
    conv => whnf
    cases h
    exact ⟨⟨rfl, rfl⟩, hI5 _ rfl⟩
  · conv => whnf
    cases h
    obtain rfl := hR5 _ rfl
    exact hK
theorem w_slices_Contains_Sstring_string (q0 : SoundC Tryz.prog 246 c_slices_Index_Sstring_string) : SoundC Tryz.prog 250 c_slices_Contains_Sstring_string := by
  refine fn_sound tab_ok (gam_cons q0 gam_nil) mixed {} (fn := Tryz.f250) Tryz.func250 (by kernel_rfl) (by kernel_rfl) ?_
  rintro ⟨s0, v0, ⟨⟩⟩ K ⟨r, h, hK⟩
  change slices_Contains_Sstring_string s0 v0 = some r at h
  unfold slices_Contains_Sstring_string at h
  conv => whnf
  refine vBind h (fun string0 hb0 h => ?_)
  conv => whnf
  cases h
  exact hK
theorem w_slices_IndexFunc_Simpl_Pin_impl_Pin_at_impl_Cell_clock_c1 (q0 : SoundC Tryz.prog 302 c_impl_Cell_clock_c1) : SoundC Tryz.prog 301 c_slices_IndexFunc_Simpl_Pin_impl_Pin_at_impl_Cell_clock_c1 := by
  refine fn_sound tab_ok (gam_cons q0 gam_nil) mixed { loops := [(0, [.reg 8 (.dat (.int .i64))])] } (fn := Tryz.f301) Tryz.func301 (by kernel_rfl) (by kernel_rfl) ?_
  rintro ⟨s0, f0, ⟨⟩⟩ K ⟨r, h, hK⟩
  change slices_IndexFunc_Simpl_Pin_impl_Pin_at_impl_Cell_clock_c1 s0 f0 = some r at h
  unfold slices_IndexFunc_Simpl_Pin_impl_Pin_at_impl_Cell_clock_c1 at h
  conv => whnf
  refine vLoop h ?_
  rintro I0 μ0 ⟨v0, ⟨⟩⟩ zs0 h hI0 hR0
  change slices_IndexFunc_Simpl_Pin_impl_Pin_at_impl_Cell_clock_c1_loop0 s0 v0 = some zs0 at h
  unfold slices_IndexFunc_Simpl_Pin_impl_Pin_at_impl_Cell_clock_c1_loop0 at h
  conv => whnf
  refine vIfD h (fun h => ?_) (fun h => ?_)
  · conv => whnf
    refine vAt h (fun x0 he1a he1b he1x h => ?_)
    conv => whnf
    refine vBind h (fun c1_0 hb2 h => ?_)
    conv => whnf
    refine vIfB h (fun h => ?_) (fun h => ?_)
    · conv => whnf
      cases h
      obtain rfl := hR0 _ rfl
      exact hK
    · conv => whnf
      cases h
      exact ⟨⟨rfl, rfl⟩, hI0 _ rfl⟩
  · conv => whnf
    cases h
    obtain rfl := hR0 _ rfl
    exact hK
theorem w_slices_IndexFunc_Simpl_Table_impl_Table_at_impl_areTables_c1 (q0 : SoundC Tryz.prog 298 c_impl_areTables_c1) : SoundC Tryz.prog 307 c_slices_IndexFunc_Simpl_Table_impl_Table_at_impl_areTables_c1 := by
  refine fn_sound tab_ok (gam_cons q0 gam_nil) mixed { loops := [(0, [.reg 8 (.dat (.int .i64))])] } (fn := Tryz.f307) Tryz.func307 (by kernel_rfl) (by kernel_rfl) ?_
  rintro ⟨s0, f0, ⟨⟩⟩ K ⟨r, h, hK⟩
  change slices_IndexFunc_Simpl_Table_impl_Table_at_impl_areTables_c1 s0 f0 = some r at h
  unfold slices_IndexFunc_Simpl_Table_impl_Table_at_impl_areTables_c1 at h
  conv => whnf
  refine vLoop h ?_
  rintro I0 μ0 ⟨v0, ⟨⟩⟩ zs0 h hI0 hR0
  change slices_IndexFunc_Simpl_Table_impl_Table_at_impl_areTables_c1_loop0 s0 f0 v0 = some zs0 at h
  unfold slices_IndexFunc_Simpl_Table_impl_Table_at_impl_areTables_c1_loop0 at h
  conv => whnf
  refine vIfD h (fun h => ?_) (fun h => ?_)
  · conv => whnf
    refine vAt h (fun x0 he1a he1b he1x h => ?_)
    conv => whnf
    refine vBind h (fun c1_0 hb2 h => ?_)
    conv => whnf
    refine vIfB h (fun h => ?_) (fun h => ?_)
    · conv => whnf
      cases h
      obtain rfl := hR0 _ rfl
      exact hK
    · conv => whnf
      cases h
      exact ⟨⟨rfl, rfl⟩, hI0 _ rfl⟩
  · conv => whnf
    cases h
    obtain rfl := hR0 _ rfl
    exact hK
theorem w_slices_Index_Sstring_string : SoundC Tryz.prog 246 c_slices_Index_Sstring_string := by
  refine fn_sound tab_ok gam_nil mixed { loops := [(0, [.reg 8 (.dat (.int .i64))])] } (fn := Tryz.f246) Tryz.func246 (by kernel_rfl) (by kernel_rfl) ?_
  rintro ⟨s0, v0, ⟨⟩⟩ K ⟨r, h, hK⟩
  change slices_Index_Sstring_string s0 v0 = some r at h
  unfold slices_Index_Sstring_string at h
  conv => whnf
  refine vLoop h ?_
  rintro I0 μ0 ⟨v1, ⟨⟩⟩ zs0 h hI0 hR0
  change slices_Index_Sstring_string_loop0 s0 v0 v1 = some zs0 at h
  unfold slices_Index_Sstring_string_loop0 at h
  conv => whnf
  refine vIfD h (fun h => ?_) (fun h => ?_)
  · conv => whnf
    refine vAt h (fun x0 he1a he1b he1x h => ?_)
    conv => whnf
    refine vIfD h (fun h => ?_) (fun h => ?_)
    · conv => whnf
      cases h
      obtain rfl := hR0 _ rfl
      exact hK
    · conv => whnf
      cases h
      exact ⟨⟨rfl, rfl⟩, hI0 _ rfl⟩
  · conv => whnf
    cases h
    obtain rfl := hR0 _ rfl
    exact hK
theorem w_spec_IsCell (q1 : SoundC Tryz.prog 253 c_spec_l03Pins) (q2 : SoundC Tryz.prog 150 c_spec_l03Name) (q4 : SoundC Tryz.prog 112 c_spec_l01In) (q3 : SoundC Tryz.prog 254 c_spec_l03Arc) (q0 : SoundC Tryz.prog 255 c_spec_l03Kinds) : SoundC Tryz.prog 230 c_spec_IsCell := by
  refine fn_sound tab_ok (gam_cons q1 (gam_cons q2 (gam_cons q4 (gam_cons q3 (gam_cons q0 gam_nil))))) mixed { loops := [(0, [.reg 5 (.dat (.int .i64))]), (2, [.reg 7 (.dat (.int .i64))]), (5, [.reg 9 (.dat (.int .i64))])], draws := [(13, [0, 1, 0, 7, 15, 31, 0, 64, 255, 511, 1023, 2047, 1023, 8191, 16383, 32767, 1023, 66559, 262143, 524287, 1048575, 2097151, 4194303, 2097151, 16777215, 33554431, 67108863, 2097151, 136314879, 536870911, 1073741823], .op 0 (.op 1 (.op 2 (.op 3 (.op 4 (.op 5 (.op 6 (.op 7 (.op 8 (.op 9 (.op 10 (.op 11 (.op 12 (.op 13 (.op 14 (.op 15 (.op 16 (.op 17 (.op 18 (.op 19 (.op 20 (.op 21 (.op 22 (.op 23 (.op 24 (.op 25 (.op 26 (.op 27 (.op 28 (.op 29 (.op 30 (.done)))))))))))))))))))))))))))))))), (25, [0, 1, 3, 7, 15, 31, 63, 127, 255, 511, 1023, 2047, 4095, 511, 8703, 25087, 57855, 131071, 262143, 524287, 1048575, 2097151, 4194303, 8388607, 16777215, 33554431], .op 0 (.op 1 (.op 2 (.op 3 (.op 4 (.op 5 (.op 6 (.op 7 (.op 8 (.op 9 (.op 10 (.op 11 (.op 12 (.op 13 (.op 14 (.op 15 (.op 16 (.op 17 (.op 18 (.op 19 (.op 20 (.op 21 (.op 22 (.op 23 (.op 24 (.op 25 (.done)))))))))))))))))))))))))))] } (fn := Tryz.f230) Tryz.func230 (by kernel_rfl) (by kernel_rfl) ?_
  rintro ⟨a0, ⟨⟩⟩ K ⟨r, h, hK⟩
  change spec_IsCell a0 = some r at h
  unfold spec_IsCell at h
  conv => whnf
  refine vBind h (fun l03Pins0 hb0 h => ?_)
  conv => whnf
  refine vNot ?_
  refine vIfB h (fun h => ?_) (fun h => ?_)
  · conv => whnf
    refine vBind h (fun l03Name0 hb1 h => ?_)
    conv => whnf
    refine vNot ?_
    refine vIfB h (fun h => ?_) (fun h => ?_)
    · conv => whnf
      refine vIfDs h (fun h => ?_) (fun h => ?_)
      · conv => whnf
        cases h
        exact hK
      · conv => whnf
        refine vBind h (fun l01In0 hb2 h => ?_)
        conv => whnf
        refine vNot ?_
        refine vIfB h (fun h => ?_) (fun h => ?_)
        · conv => whnf
          refine vBind h (fun l01In1 hb3 h => ?_)
          conv => whnf
          refine vNots ?_
          refine vIfB h (fun h => ?_) (fun h => ?_)
          · conv => whnf
            refine vLoop h ?_
            rintro I4 μ4 ⟨v0, ⟨⟩⟩ zs4 h hI4 hR4
            change spec_IsCell_loop2 a0 l03Pins0 v0 = some zs4 at h
            unfold spec_IsCell_loop2 at h
            conv => whnf
            refine vIfD h (fun h => ?_) (fun h => ?_)
            · conv => whnf
              refine vAt h (fun x0 he5a he5b he5x h => ?_)
              conv => whnf
              refine vBind h (fun l03Arc0 hb6 h => ?_)
              conv => whnf
              refine vNots ?_
              refine vIfB h (fun h => ?_) (fun h => ?_)
              · conv => whnf
                refine vLoop h ?_
                rintro I7 μ7 ⟨v1, ⟨⟩⟩ zs7 h hI7 hR7
                change spec_IsCell_loop0 a0 v0 x0 v1 = some zs7 at h
                unfold spec_IsCell_loop0 at h
                conv => whnf
                refine vIfD h (fun h => ?_) (fun h => ?_)
                · conv => whnf
                  refine ⟨by kernel_rfl, ?_⟩
                  conv => whnf
                  refine vAt h (fun x1 he8a he8b he8x h => ?_)
                  conv => whnf
                  refine vIfD h (fun h => ?_) (fun h => ?_)
                  · conv => whnf
                    refine ⟨he8a, he8b, vAgain he8x ?_⟩
                    conv => whnf
                    refine vIfD h (fun h => ?_) (fun h => ?_)
                    · conv => whnf
                      refine ⟨he8a, he8b, vAgain he8x ?_⟩
                      conv => whnf
                      refine vIfD h (fun h => ?_) (fun h => ?_)
                      · conv => whnf
                        cases h
                        obtain rfl := hR7 _ rfl
                        obtain rfl := hR4 _ rfl
                        exact hK
                      · conv => whnf
                        cases h
                        exact ⟨⟨rfl, rfl⟩, hI7 _ rfl⟩
                    · conv => whnf
                      cases h
                      exact ⟨⟨rfl, rfl⟩, hI7 _ rfl⟩
                  · conv => whnf
                    cases h
                    exact ⟨⟨rfl, rfl⟩, hI7 _ rfl⟩
                · conv => whnf
                  cases h
                  obtain rfl := hR7 _ rfl
                  exact ⟨⟨rfl, rfl⟩, hI4 _ rfl⟩
              · conv => whnf
                cases h
                obtain rfl := hR4 _ rfl
                exact hK
            · conv => whnf
              refine vBind h (fun l03Kinds0 hb9 h => ?_)
              conv => whnf
              refine vIfD h (fun h => ?_) (fun h => ?_)
              · conv => whnf
                refine vLoop h ?_
                rintro I10 μ10 ⟨v1, ⟨⟩⟩ zs10 h hI10 hR10
                change spec_IsCell_loop1 a0 l03Pins0 v1 = some zs10 at h
                unfold spec_IsCell_loop1 at h
                conv => whnf
                refine vIfD h (fun h => ?_) (fun h => ?_)
                · conv => whnf
                  refine vAt h (fun x0 he11a he11b he11x h => ?_)
                  conv => whnf
                  refine vBind h (fun l01In2 hb12 h => ?_)
                  conv => whnf
                  refine vNots ?_
                  refine vIfB h (fun h => ?_) (fun h => ?_)
                  · conv => whnf
                    cases h
                    exact ⟨⟨rfl, rfl⟩, hI10 _ rfl⟩
                  · conv => whnf
                    cases h
                    obtain rfl := hR10 _ rfl
                    obtain rfl := hR4 _ rfl
                    exact hK
                · conv => whnf
                  refine vIfD h (fun h => ?_) (fun h => ?_)
                  · conv => whnf
                    refine vPre h (fun hp13 h => ?_)
                    conv => whnf
                    cases h
                    obtain rfl := hR10 _ rfl
                    obtain rfl := hR4 _ rfl
                    exact hK
                  · conv => whnf
                    cases h
                    obtain rfl := hR10 _ rfl
                    obtain rfl := hR4 _ rfl
                    exact hK
              · conv => whnf
                refine vIfD h (fun h => ?_) (fun h => ?_)
                · conv => whnf
                  refine ⟨by kernel_rfl, ?_⟩
                  conv => whnf
                  refine vIfD h (fun h => ?_) (fun h => ?_)
                  · conv => whnf
                    refine vAt h (fun x0 he14a he14b he14x h => ?_)
                    conv => whnf
                    refine ⟨by kernel_rfl, ?_⟩
                    conv => whnf
                    refine ⟨he14a, he14b, vAgain he14x ?_⟩
                    conv => whnf
                    refine vIfD h (fun h => ?_) (fun h => ?_)
                    · conv => whnf
                      refine vAt h (fun x1 he15a he15b he15x h => ?_)
                      conv => whnf
                      refine ⟨by kernel_rfl, ?_⟩
                      conv => whnf
                      refine ⟨he15a, he15b, vAgain he15x ?_⟩
                      conv => whnf
                      refine vAt h (fun x2 he16a he16b he16x h => ?_)
                      conv => whnf
                      refine ⟨by kernel_rfl, ?_⟩
                      conv => whnf
                      refine ⟨he16a, he16b, vAgain he16x ?_⟩
                      conv => whnf
                      refine vNots ?_
                      refine vIfB h (fun h => ?_) (fun h => ?_)
                      · conv => whnf
                        cases h
                        obtain rfl := hR4 _ rfl
                        exact hK
                      · conv => whnf
                        cases h
                        obtain rfl := hR4 _ rfl
                        exact hK
                    · conv => whnf
                      cases h
                      obtain rfl := hR4 _ rfl
                      exact hK
                  · conv => whnf
                    cases h
                    obtain rfl := hR4 _ rfl
                    exact hK
                · conv => whnf
                  refine vIfD h (fun h => ?_) (fun h => ?_)
                  · conv => whnf
                    refine vIfD h (fun h => ?_) (fun h => ?_)
                    · conv => whnf
                      refine vAt h (fun x0 he17a he17b he17x h => ?_)
                      conv => whnf
                      refine ⟨by kernel_rfl, ?_⟩
                      conv => whnf
                      refine ⟨he17a, he17b, vAgain he17x ?_⟩
                      conv => whnf
                      refine vIfD h (fun h => ?_) (fun h => ?_)
                      · conv => whnf
                        refine vAt h (fun x1 he18a he18b he18x h => ?_)
                        conv => whnf
                        refine ⟨by kernel_rfl, ?_⟩
                        conv => whnf
                        refine ⟨he18a, he18b, vAgain he18x ?_⟩
                        conv => whnf
                        refine vIfD h (fun h => ?_) (fun h => ?_)
                        · conv => whnf
                          refine vAt h (fun x2 he19a he19b he19x h => ?_)
                          conv => whnf
                          refine ⟨by kernel_rfl, ?_⟩
                          conv => whnf
                          refine ⟨he19a, he19b, vAgain he19x ?_⟩
                          conv => whnf
                          refine vIfD h (fun h => ?_) (fun h => ?_)
                          · conv => whnf
                            cases h
                            obtain rfl := hR4 _ rfl
                            exact hK
                          · conv => whnf
                            cases h
                            obtain rfl := hR4 _ rfl
                            exact hK
                        · conv => whnf
                          cases h
                          obtain rfl := hR4 _ rfl
                          exact hK
                      · conv => whnf
                        cases h
                        obtain rfl := hR4 _ rfl
                        exact hK
                    · conv => whnf
                      cases h
                      obtain rfl := hR4 _ rfl
                      exact hK
                  · conv => whnf
                    cases h
                    obtain rfl := hR4 _ rfl
                    exact hK
          · conv => whnf
            cases h
            exact hK
        · conv => whnf
          cases h
          exact hK
    · conv => whnf
      cases h
      exact hK
  · conv => whnf
    cases h
    exact hK
theorem w_spec_IsTable (q0 : SoundC Tryz.prog 306 c_spec_l02Axis) (q1 : SoundC Tryz.prog 112 c_spec_l01In) : SoundC Tryz.prog 296 c_spec_IsTable := by
  refine fn_sound tab_ok (gam_cons q0 (gam_cons q1 gam_nil)) mixed { loops := [(0, [.reg 3 (.dat (.int .i64))])] } (fn := Tryz.f296) Tryz.func296 (by kernel_rfl) (by kernel_rfl) ?_
  rintro ⟨t0, ⟨⟩⟩ K ⟨r, h, hK⟩
  change spec_IsTable t0 = some r at h
  unfold spec_IsTable at h
  conv => whnf
  refine vBind h (fun l02Axis0 hb0 h => ?_)
  conv => whnf
  refine vNot ?_
  refine vIfB h (fun h => ?_) (fun h => ?_)
  · conv => whnf
    refine vBind h (fun l02Axis1 hb1 h => ?_)
    conv => whnf
    refine vNot ?_
    refine vIfB h (fun h => ?_) (fun h => ?_)
    · conv => whnf
      refine vNots ?_
      refine vIfD h (fun h => ?_) (fun h => ?_)
      · conv => whnf
        refine vLoop h ?_
        rintro I2 μ2 ⟨i0, ⟨⟩⟩ zs2 h hI2 hR2
        change spec_IsTable_loop0 t0 i0 = some zs2 at h
        unfold spec_IsTable_loop0 at h
        conv => whnf
        refine vIfD h (fun h => ?_) (fun h => ?_)
        · conv => whnf
          refine vAt h (fun x0 he3a he3b he3x h => ?_)
          conv => whnf
          refine vBind h (fun l01In0 hb4 h => ?_)
          conv => whnf
          refine vNots ?_
          refine vIfB h (fun h => ?_) (fun h => ?_)
          · conv => whnf
            cases h
            exact ⟨⟨rfl, rfl⟩, hI2 _ rfl⟩
          · conv => whnf
            cases h
            obtain rfl := hR2 _ rfl
            exact hK
        · conv => whnf
          cases h
          obtain rfl := hR2 _ rfl
          exact hK
      · conv => whnf
        cases h
        exact hK
    · conv => whnf
      cases h
      exact hK
  · conv => whnf
    cases h
    exact hK
theorem w_spec_TableBounds (q0 : SoundC Tryz.prog 296 c_spec_IsTable) : SoundC Tryz.prog 286 c_spec_TableBounds := by
  refine fn_sound tab_ok (gam_cons q0 gam_nil) mixed { loops := [(0, [.reg 5 (.dat (.int .i64)), .cell 2 0 (.int .i64), .cell 2 1 (.int .i64)])], draws := [(3, [0, 1, 3, 7, 0, 16, 48, 112, 255, 0, 1023], .op 0 (.op 1 (.op 2 (.op 3 (.op 4 (.op 5 (.op 6 (.op 7 (.op 8 (.alt 9 (.alt 10 (.done) (.done)) (.done))))))))))), (7, [0, 1, 0, 4, 0, 28, 60, 127, 255, 511], .op 0 (.op 1 (.op 2 (.op 3 (.op 4 (.op 5 (.op 6 (.op 7 (.op 8 (.alt 9 (.done) (.done))))))))))), (8, [0, 1, 0, 4, 0, 28, 60, 127, 255, 511], .op 0 (.op 1 (.op 2 (.op 3 (.op 4 (.op 5 (.op 6 (.op 7 (.op 8 (.alt 9 (.done) (.done)))))))))))] } (fn := Tryz.f286) Tryz.func286 (by kernel_rfl) (by kernel_rfl) ?_
  rintro ⟨t0, ⟨⟩⟩ K ⟨r, h, hK⟩
  change spec_TableBounds t0 = some r at h
  unfold spec_TableBounds at h
  conv => whnf
  refine vBind h (fun IsTable0 hb0 h => ?_)
  conv => whnf
  refine vNots ?_
  refine vIfB h (fun h => ?_) (fun h => ?_)
  · conv => whnf
    refine ⟨by kernel_rfl, ?_⟩
    conv => whnf
    refine vAt h (fun x0 he1a he1b he1x h => ?_)
    conv => whnf
    refine ⟨he1a, he1b, vAgain he1x ?_⟩
    conv => whnf
    refine vLoop h ?_
    rintro I2 μ2 ⟨i0, c0, c1, ⟨⟩⟩ zs2 h hI2 hR2
    change spec_TableBounds_loop0 t0 i0 c0 c1 = some zs2 at h
    unfold spec_TableBounds_loop0 at h
    conv => whnf
    refine vIfD h (fun h => ?_) (fun h => ?_)
    · conv => whnf
      refine ⟨by kernel_rfl, ?_⟩
      conv => whnf
      refine vAt h (fun x1 he3a he3b he3x h => ?_)
      conv => whnf
      refine ⟨by kernel_rfl, ?_⟩
      conv => whnf
      refine ⟨he3a, he3b, vAgain he3x ?_⟩
      conv => whnf
      cases h
      exact ⟨⟨rfl, rfl⟩, hI2 _ rfl⟩
    · conv => whnf
      cases h
      obtain rfl := hR2 _ rfl
      exact hK
  · conv => whnf
    cases h
    exact hK
theorem w_spec_l02Axis (q0 : SoundC Tryz.prog 112 c_spec_l01In) : SoundC Tryz.prog 306 c_spec_l02Axis := by
  refine fn_sound tab_ok (gam_cons q0 gam_nil) mixed { loops := [(0, [.reg 3 (.dat (.int .i64))])], draws := [(4, [0, 0, 3, 7, 15, 31, 63, 127, 255, 511, 1023, 1023, 3071, 8191, 16383, 1023, 1023, 99327, 230399, 524287, 1048575, 2097151], .op 0 (.op 1 (.op 2 (.op 3 (.alt 4 (.op 5 (.op 6 (.op 7 (.op 8 (.op 9 (.op 10 (.op 11 (.op 12 (.op 13 (.op 14 (.op 15 (.op 16 (.op 17 (.op 18 (.op 19 (.op 20 (.op 21 (.done)))))))))))))))))) (.done))))))] } (fn := Tryz.f306) Tryz.func306 (by kernel_rfl) (by kernel_rfl) ?_
  rintro ⟨list0, ⟨⟩⟩ K ⟨r, h, hK⟩
  change spec_l02Axis list0 = some r at h
  unfold spec_l02Axis at h
  conv => whnf
  refine vLoop h ?_
  rintro I0 μ0 ⟨i0, ⟨⟩⟩ zs0 h hI0 hR0
  change spec_l02Axis_loop0 list0 i0 = some zs0 at h
  unfold spec_l02Axis_loop0 at h
  conv => whnf
  refine vIfD h (fun h => ?_) (fun h => ?_)
  · conv => whnf
    refine ⟨by kernel_rfl, ?_⟩
    conv => whnf
    refine vAt h (fun x0 he1a he1b he1x h => ?_)
    conv => whnf
    refine vBind h (fun l01In0 hb2 h => ?_)
    conv => whnf
    refine vNot ?_
    refine vIfB h (fun h => ?_) (fun h => ?_)
    · conv => whnf
      refine vIfD h (fun h => ?_) (fun h => ?_)
      · conv => whnf
        refine vAt h (fun x1 he3a he3b he3x h => ?_)
        conv => whnf
        refine ⟨he1a, he1b, vAgain he1x ?_⟩
        conv => whnf
        refine vIfD h (fun h => ?_) (fun h => ?_)
        · conv => whnf
          cases h
          obtain rfl := hR0 _ rfl
          exact hK
        · conv => whnf
          cases h
          exact ⟨⟨rfl, rfl⟩, hI0 _ rfl⟩
      · conv => whnf
        cases h
        exact ⟨⟨rfl, rfl⟩, hI0 _ rfl⟩
    · conv => whnf
      cases h
      obtain rfl := hR0 _ rfl
      exact hK
  · conv => whnf
    refine vIfD h (fun h => ?_) (fun h => ?_)
    · conv => whnf
      cases h
      obtain rfl := hR0 _ rfl
      exact hK
    · conv => whnf
      cases h
      obtain rfl := hR0 _ rfl
      exact hK
theorem w_spec_l05Sinks (q0 : SoundC Tryz.prog 93 c_spec_l05Places) : SoundC Tryz.prog 147 c_spec_l05Sinks := by
  refine fn_sound tab_ok (gam_cons q0 gam_nil) mixed { loops := [(0, [.reg 5 (.own (.ol 2 (.flat (.int .i64)))), .reg 7 (.dat (.int .i64))])] } (fn := Tryz.f147) Tryz.func147 (by kernel_rfl) (by kernel_rfl) ?_
  rintro ⟨d0, net0, ⟨⟩⟩ K ⟨r, h, hK⟩
  change spec_l05Sinks d0 net0 = some r at h
  unfold spec_l05Sinks at h
  conv => whnf
  refine vBind h (fun l05Places0 hb0 h => ?_)
  conv => whnf
  refine vLoop h ?_
  rintro I1 μ1 ⟨out0, i0, ⟨⟩⟩ zs1 h hI1 hR1
  change spec_l05Sinks_loop0 net0 l05Places0 out0 i0 = some zs1 at h
  unfold spec_l05Sinks_loop0 at h
  conv => whnf
  refine vIfD h (fun h => ?_) (fun h => ?_)
  · conv => whnf
    refine vAt h (fun x0 he2a he2b he2x h => ?_)
    conv => whnf
    refine ⟨by kernel_rfl, ?_⟩
    conv => whnf
    refine ⟨he2a, he2b, vAgain he2x ?_⟩
    conv => whnf
    refine vIfD h (fun h => ?_) (fun h => ?_)
    · conv => whnf
      refine ⟨he2a, he2b, vAgain he2x ?_⟩
      conv => whnf
      refine ⟨by kernel_rfl, ?_⟩
      conv => whnf
      refine ⟨he2a, he2b, vAgain he2x ?_⟩
      conv => whnf
      refine vNots ?_
      refine vIfB h (fun h => ?_) (fun h => ?_)
      · conv => whnf
        cases h
        exact ⟨⟨rfl, rfl⟩, hI1 _ rfl⟩
      · conv => whnf
        refine vPre h (fun hp3 h => ?_)
        conv => whnf
        cases h
        exact ⟨⟨rfl, rfl⟩, hI1 _ rfl⟩
    · conv => whnf
      cases h
      exact ⟨⟨rfl, rfl⟩, hI1 _ rfl⟩
  · conv => whnf
    cases h
    obtain rfl := hR1 _ rfl
    exact hK
theorem w_spec_l08Blank : SoundC Tryz.prog 90 c_spec_l08Blank := by
  refine fn_sound tab_ok gam_nil mixed {} (fn := Tryz.f90) Tryz.func90 (by kernel_rfl) (by kernel_rfl) ?_
  rintro ⟨a0, ⟨⟩⟩ K ⟨r, h, hK⟩
  change spec_l08Blank a0 = some r at h
  unfold spec_l08Blank at h
  conv => whnf
  refine vIfD h (fun h => ?_) (fun h => ?_)
  · conv => whnf
    refine vIfD h (fun h => ?_) (fun h => ?_)
    · conv => whnf
      refine vIfD h (fun h => ?_) (fun h => ?_)
      · conv => whnf
        refine vIfD h (fun h => ?_) (fun h => ?_)
        · conv => whnf
          cases h
          exact hK
        · conv => whnf
          cases h
          exact hK
      · conv => whnf
        cases h
        exact hK
    · conv => whnf
      cases h
      exact hK
  · conv => whnf
    refine vIfD h (fun h => ?_) (fun h => ?_)
    · conv => whnf
      refine vIfD h (fun h => ?_) (fun h => ?_)
      · conv => whnf
        refine vIfD h (fun h => ?_) (fun h => ?_)
        · conv => whnf
          cases h
          exact hK
        · conv => whnf
          cases h
          exact hK
      · conv => whnf
        cases h
        exact hK
    · conv => whnf
      refine vIfD h (fun h => ?_) (fun h => ?_)
      · conv => whnf
        refine vIfD h (fun h => ?_) (fun h => ?_)
        · conv => whnf
          refine vIfD h (fun h => ?_) (fun h => ?_)
          · conv => whnf
            refine vIfD h (fun h => ?_) (fun h => ?_)
            · conv => whnf
              refine vIfD h (fun h => ?_) (fun h => ?_)
              · conv => whnf
                refine vIfD h (fun h => ?_) (fun h => ?_)
                · conv => whnf
                  cases h
                  exact hK
                · conv => whnf
                  cases h
                  exact hK
              · conv => whnf
                cases h
                exact hK
            · conv => whnf
              cases h
              exact hK
          · conv => whnf
            cases h
            exact hK
        · conv => whnf
          cases h
          exact hK
      · conv => whnf
        refine vIfD h (fun h => ?_) (fun h => ?_)
        · conv => whnf
          refine vIfD h (fun h => ?_) (fun h => ?_)
          · conv => whnf
            refine vIfD h (fun h => ?_) (fun h => ?_)
            · conv => whnf
              cases h
              exact hK
            · conv => whnf
              cases h
              exact hK
          · conv => whnf
            cases h
            exact hK
        · conv => whnf
          refine vIfD h (fun h => ?_) (fun h => ?_)
          · conv => whnf
            refine vIfD h (fun h => ?_) (fun h => ?_)
            · conv => whnf
              refine vIfD h (fun h => ?_) (fun h => ?_)
              · conv => whnf
                refine vIfD h (fun h => ?_) (fun h => ?_)
                · conv => whnf
                  cases h
                  exact hK
                · conv => whnf
                  cases h
                  exact hK
              · conv => whnf
                cases h
                exact hK
            · conv => whnf
              cases h
              exact hK
          · conv => whnf
            cases h
            exact hK
theorem w_spec_l08Buffer : SoundC Tryz.prog 149 c_spec_l08Buffer := by
  refine fn_sound tab_ok gam_nil mixed {} (fn := Tryz.f149) Tryz.func149 (by kernel_rfl) (by kernel_rfl) ?_
  rintro ⟨c0, ⟨⟩⟩ K ⟨r, h, hK⟩
  change spec_l08Buffer c0 = some r at h
  unfold spec_l08Buffer at h
  conv => whnf
  refine vIfD h (fun h => ?_) (fun h => ?_)
  · conv => whnf
    cases h
    exact hK
  · conv => whnf
    cases h
    exact hK
end Go.Proofs.YtaccffcigblceaaGreatDoor
