/-
  The functions keep their contracts, if what they call does. Printed by program.
-/
import Derived.Test.YtmlloomodhhefaaGreatDoorM
import Derived.KernelRfl
namespace Go.Proofs.YtmlloomodhhefaaGreatDoor
open Go Go.Sx
set_option maxRecDepth 100000
set_option linter.unusedVariables false
set_option linter.unusedSimpArgs false
theorem w_impl_Cell_has (q0 : SoundC Tryz.prog 210 c_slices_ContainsFunc_Simpl_Arc_impl_Arc_at_impl_Cell_has_c1) : SoundC Tryz.prog 213 c_impl_Cell_has := by
  refine fn_sound tab_ok (gam_cons q0 gam_nil) mixed {} (fn := Tryz.f213) Tryz.func213 (by kernel_rfl) (by kernel_rfl) ?_
  rintro ⟨c0, kind0, ⟨⟩⟩ K ⟨r, h, hK⟩
  change impl_Cell_has c0 kind0 = some r at h
  unfold impl_Cell_has at h
  conv => whnf
  refine vBind h (fun c1_0 hb0 h => ?_)
  conv => whnf
  cases h
  exact hK
theorem w_impl_Cell_isInput (q0 : SoundC Tryz.prog 212 c_impl_Cell_output) (q1 : SoundC Tryz.prog 128 c_impl_within) : SoundC Tryz.prog 235 c_impl_Cell_isInput := by
  refine fn_sound tab_ok (gam_cons q0 (gam_cons q1 gam_nil)) mixed {} (fn := Tryz.f235) Tryz.func235 (by kernel_rfl) (by kernel_rfl) ?_
  rintro ⟨c0, pin0, ⟨⟩⟩ K ⟨r, h, hK⟩
  change impl_Cell_isInput c0 pin0 = some r at h
  unfold impl_Cell_isInput at h
  conv => whnf
  refine vBind h (fun output0 hb0 h => ?_)
  conv => whnf
  refine vBind h (fun within0 hb1 h => ?_)
  conv => whnf
  cases h
  exact hK
theorem w_impl_Cell_isOfKind (q0 : SoundC Tryz.prog 212 c_impl_Cell_output) (q1 : SoundC Tryz.prog 130 c_impl_areWithin) (q2 : SoundC Tryz.prog 213 c_impl_Cell_has) : SoundC Tryz.prog 194 c_impl_Cell_isOfKind := by
  refine fn_sound tab_ok (gam_cons q0 (gam_cons q1 (gam_cons q2 gam_nil))) mixed { loops := [(0, [.reg 3 (.dat (.int .i64)), .reg 9 (.dat (.int .i64))])], draws := [(10, [0, 1, 3, 7, 15, 31, 7, 71, 199, 511, 1023, 2047, 4095, 8191, 16383, 32767, 65535], .op 0 (.op 1 (.op 2 (.op 3 (.op 4 (.op 5 (.op 6 (.alt 7 (.op 8 (.op 9 (.op 10 (.op 11 (.op 12 (.op 13 (.alt 14 (.op 15 (.op 16 (.done))) (.done)))))))) (.done))))))))), (12, [0, 1, 3, 7, 15, 31, 63, 127, 255, 511, 1023, 2047, 4095, 8191, 16383, 32767, 16383, 131071, 262143, 524287, 1048575], .op 0 (.op 1 (.op 2 (.op 3 (.op 4 (.op 5 (.op 6 (.op 7 (.op 8 (.op 9 (.alt 10 (.op 11 (.op 12 (.op 13 (.op 14 (.op 16 (.alt 15 (.alt 17 (.op 18 (.op 19 (.op 20 (.done)))) (.done)) (.done))))))) (.done))))))))))))] } (fn := Tryz.f194) Tryz.func194 (by kernel_rfl) (by kernel_rfl) ?_
  rintro ⟨a0, ⟨⟩⟩ K ⟨r, h, hK⟩
  change impl_Cell_isOfKind a0 = some r at h
  unfold impl_Cell_isOfKind at h
  conv => whnf
  refine vLoop h ?_
  rintro I0 μ0 ⟨v0, v1, ⟨⟩⟩ zs0 h hI0 hR0
  change impl_Cell_isOfKind_loop0 a0 v0 v1 = some zs0 at h
  unfold impl_Cell_isOfKind_loop0 at h
  conv => whnf
  refine vIfD h (fun h => ?_) (fun h => ?_)
  · conv => whnf
    refine vAt h (fun x0 he1a he1b he1x h => ?_)
    conv => whnf
    refine vIfB h (fun h => ?_) (fun h => ?_)
    · conv => whnf
      cases h
      exact ⟨⟨rfl, rfl⟩, hI0 _ rfl⟩
    · conv => whnf
      cases h
      exact ⟨⟨rfl, rfl⟩, hI0 _ rfl⟩
  · conv => whnf
    refine vIfD h (fun h => ?_) (fun h => ?_)
    · conv => whnf
      refine ⟨by kernel_rfl, ?_⟩
      conv => whnf
      refine vIfD h (fun h => ?_) (fun h => ?_)
      · conv => whnf
        refine vBind h (fun output0 hb2 h => ?_)
        conv => whnf
        refine vPre h (fun hp3 h => ?_)
        conv => whnf
        refine vIfD h (fun h => ?_) (fun h => ?_)
        · conv => whnf
          refine vBind h (fun areWithin0 hb4 h => ?_)
          conv => whnf
          cases h
          obtain rfl := hR0 _ rfl
          exact hK
        · conv => whnf
          cases h
          obtain rfl := hR0 _ rfl
          exact hK
      · conv => whnf
        cases h
        obtain rfl := hR0 _ rfl
        exact hK
    · conv => whnf
      refine vIfD h (fun h => ?_) (fun h => ?_)
      · conv => whnf
        refine ⟨by kernel_rfl, ?_⟩
        conv => whnf
        refine vIfD h (fun h => ?_) (fun h => ?_)
        · conv => whnf
          refine vIfD h (fun h => ?_) (fun h => ?_)
          · conv => whnf
            refine vBind h (fun has0 hb5 h => ?_)
            conv => whnf
            refine vNots ?_
            refine vIfB h (fun h => ?_) (fun h => ?_)
            · conv => whnf
              cases h
              obtain rfl := hR0 _ rfl
              exact hK
            · conv => whnf
              refine vBind h (fun has1 hb6 h => ?_)
              conv => whnf
              refine vBind h (fun has2 hb7 h => ?_)
              conv => whnf
              cases h
              obtain rfl := hR0 _ rfl
              exact hK
          · conv => whnf
            cases h
            obtain rfl := hR0 _ rfl
            exact hK
        · conv => whnf
          cases h
          obtain rfl := hR0 _ rfl
          exact hK
      · conv => whnf
        refine vIfD h (fun h => ?_) (fun h => ?_)
        · conv => whnf
          refine vIfD h (fun h => ?_) (fun h => ?_)
          · conv => whnf
            refine vIfD h (fun h => ?_) (fun h => ?_)
            · conv => whnf
              refine vBind h (fun has0 hb8 h => ?_)
              conv => whnf
              refine vIfB h (fun h => ?_) (fun h => ?_)
              · conv => whnf
                refine vBind h (fun has1 hb9 h => ?_)
                conv => whnf
                refine vIfB h (fun h => ?_) (fun h => ?_)
                · conv => whnf
                  refine vBind h (fun has2 hb10 h => ?_)
                  conv => whnf
                  cases h
                  obtain rfl := hR0 _ rfl
                  exact hK
                · conv => whnf
                  cases h
                  obtain rfl := hR0 _ rfl
                  exact hK
              · conv => whnf
                cases h
                obtain rfl := hR0 _ rfl
                exact hK
            · conv => whnf
              cases h
              obtain rfl := hR0 _ rfl
              exact hK
          · conv => whnf
            cases h
            obtain rfl := hR0 _ rfl
            exact hK
        · conv => whnf
          cases h
          obtain rfl := hR0 _ rfl
          exact hK
theorem w_impl_Design_isInstance_c1 (q0 : SoundC Tryz.prog 125 c_impl_Design_isNet) : SoundC Tryz.prog 167 c_impl_Design_isInstance_c1 := by
  refine fn_sound tab_ok (gam_cons q0 gam_nil) mixed {} (fn := Tryz.f167) Tryz.func167 (by kernel_rfl) (by kernel_rfl) ?_
  rintro ⟨net0, a0, ⟨⟩⟩ K ⟨r, h, hK⟩
  change impl_Design_isInstance_c1 net0 a0 = some r at h
  unfold impl_Design_isInstance_c1 at h
  conv => whnf
  refine vBind h (fun isNet0 hb0 h => ?_)
  conv => whnf
  cases h
  exact hK
theorem w_impl_IsClocks (q1 : SoundC Tryz.prog 136 c_impl_isClock) (q0 : SoundC Tryz.prog 137 c_impl_areNames) : SoundC Tryz.prog 82 c_impl_IsClocks := by
  refine fn_sound tab_ok (gam_cons q1 (gam_cons q0 gam_nil)) mixed { loops := [(0, [.reg 3 (.own (.ol 9 (.flat (.str)))), .reg 11 (.dat (.int .i64))])] } (fn := Tryz.f82) Tryz.func82 (by kernel_rfl) (by kernel_rfl) ?_
  rintro ⟨list0, ⟨⟩⟩ K ⟨r, h, hK⟩
  change impl_IsClocks list0 = some r at h
  unfold impl_IsClocks at h
  conv => whnf
  refine vIfD h (fun h => ?_) (fun h => ?_)
  · conv => whnf
    cases h
    exact hK
  · conv => whnf
    refine vLoop h ?_
    rintro I0 μ0 ⟨names0, v0, ⟨⟩⟩ zs0 h hI0 hR0
    change impl_IsClocks_loop0 list0 names0 v0 = some zs0 at h
    unfold impl_IsClocks_loop0 at h
    conv => whnf
    refine vIfD h (fun h => ?_) (fun h => ?_)
    · conv => whnf
      refine vAt h (fun x0 he1a he1b he1x h => ?_)
      conv => whnf
      refine vBind h (fun isClock0 hb2 h => ?_)
      conv => whnf
      refine vNots ?_
      refine vIfB h (fun h => ?_) (fun h => ?_)
      · conv => whnf
        refine vPre h (fun hp3 h => ?_)
        conv => whnf
        cases h
        exact ⟨⟨rfl, rfl⟩, hI0 _ rfl⟩
      · conv => whnf
        cases h
        obtain rfl := hR0 _ rfl
        exact hK
    · conv => whnf
      refine vBind h (fun areNames0 hb4 h => ?_)
      conv => whnf
      cases h
      obtain rfl := hR0 _ rfl
      exact hK
theorem w_impl_IsCorner (q1 : SoundC Tryz.prog 173 c_impl_isName) (q0 : SoundC Tryz.prog 177 c_impl_areFactors) : SoundC Tryz.prog 145 c_impl_IsCorner := by
  refine fn_sound tab_ok (gam_cons q1 (gam_cons q0 gam_nil)) mixed {} (fn := Tryz.f145) Tryz.func145 (by kernel_rfl) (by kernel_rfl) ?_
  rintro ⟨c0, ⟨⟩⟩ K ⟨r, h, hK⟩
  change impl_IsCorner c0 = some r at h
  unfold impl_IsCorner at h
  conv => whnf
  refine vBind h (fun isName0 hb0 h => ?_)
  conv => whnf
  refine vIfB h (fun h => ?_) (fun h => ?_)
  · conv => whnf
    refine vBind h (fun areFactors0 hb1 h => ?_)
    conv => whnf
    refine vIfB h (fun h => ?_) (fun h => ?_)
    · conv => whnf
      refine vBind h (fun areFactors1 hb2 h => ?_)
      conv => whnf
      cases h
      exact hK
    · conv => whnf
      cases h
      exact hK
  · conv => whnf
    cases h
    exact hK
theorem w_impl_IsCornerList (q1 : SoundC Tryz.prog 145 c_impl_IsCorner) (q0 : SoundC Tryz.prog 146 c_impl_length_impl_Corner) (q3 : SoundC Tryz.prog 128 c_impl_within) (q2 : SoundC Tryz.prog 137 c_impl_areNames) : SoundC Tryz.prog 90 c_impl_IsCornerList := by
  refine fn_sound tab_ok (gam_cons q1 (gam_cons q0 (gam_cons q3 (gam_cons q2 gam_nil)))) mixed { loops := [(0, [.reg 3 (.own (.ol 9 (.flat (.str)))), .reg 8 (.dat (.int .i64))])] } (fn := Tryz.f90) Tryz.func90 (by kernel_rfl) (by kernel_rfl) ?_
  rintro ⟨list0, ⟨⟩⟩ K ⟨r, h, hK⟩
  change impl_IsCornerList list0 = some r at h
  unfold impl_IsCornerList at h
  conv => whnf
  refine vLoop h ?_
  rintro I0 μ0 ⟨names0, v0, ⟨⟩⟩ zs0 h hI0 hR0
  change impl_IsCornerList_loop0 list0 names0 v0 = some zs0 at h
  unfold impl_IsCornerList_loop0 at h
  conv => whnf
  refine vIfD h (fun h => ?_) (fun h => ?_)
  · conv => whnf
    refine vAt h (fun x0 he1a he1b he1x h => ?_)
    conv => whnf
    refine vBind h (fun IsCorner0 hb2 h => ?_)
    conv => whnf
    refine vNots ?_
    refine vIfB h (fun h => ?_) (fun h => ?_)
    · conv => whnf
      refine vPre h (fun hp3 h => ?_)
      conv => whnf
      cases h
      exact ⟨⟨rfl, rfl⟩, hI0 _ rfl⟩
    · conv => whnf
      cases h
      obtain rfl := hR0 _ rfl
      exact hK
  · conv => whnf
    refine vBind h (fun Corner0 hb4 h => ?_)
    conv => whnf
    refine vBind h (fun within0 hb5 h => ?_)
    conv => whnf
    refine vIfB h (fun h => ?_) (fun h => ?_)
    · conv => whnf
      refine vBind h (fun areNames0 hb6 h => ?_)
      conv => whnf
      cases h
      obtain rfl := hR0 _ rfl
      exact hK
    · conv => whnf
      cases h
      obtain rfl := hR0 _ rfl
      exact hK
theorem w_impl_IsSetup (q1 : SoundC Tryz.prog 35 c_impl_IsBlock) (q2 : SoundC Tryz.prog 36 c_impl_newView) (q0 : SoundC Tryz.prog 37 c_impl_view_isSetup) : SoundC Tryz.prog 10 c_impl_IsSetup := by
  refine fn_sound tab_ok (gam_cons q1 (gam_cons q2 (gam_cons q0 gam_nil))) mixed { draws := [(1, [0, 1, 3, 7, 15, 7, 63, 127, 255], .op 0 (.alt 1 (.op 2 (.op 3 (.op 5 (.alt 4 (.alt 6 (.op 7 (.op 8 (.done))) (.done)) (.done))))) (.done)))] } (fn := Tryz.f10) Tryz.func10 (by kernel_rfl) (by kernel_rfl) ?_
  rintro ⟨b0, s0, ⟨⟩⟩ K ⟨r, h, hK⟩
  change impl_IsSetup b0 s0 = some r at h
  unfold impl_IsSetup at h
  conv => whnf
  refine ⟨by kernel_rfl, ?_⟩
  conv => whnf
  refine vBind h (fun IsBlock0 hb0 h => ?_)
  conv => whnf
  refine vIfB h (fun h => ?_) (fun h => ?_)
  · conv => whnf
    refine vBind h (fun newView0 hb1 h => ?_)
    conv => whnf
    refine vBind h (fun isSetup0 hb2 h => ?_)
    conv => whnf
    cases h
    exact hK
  · conv => whnf
    cases h
    exact hK
theorem w_impl_IsWire (q0 : SoundC Tryz.prog 78 c_impl_length_int64) (q3 : SoundC Tryz.prog 128 c_impl_within) (q1 : SoundC Tryz.prog 129 c_impl_Wire_isTree) (q2 : SoundC Tryz.prog 130 c_impl_areWithin) : SoundC Tryz.prog 76 c_impl_IsWire := by
  refine fn_sound tab_ok (gam_cons q0 (gam_cons q3 (gam_cons q1 (gam_cons q2 gam_nil)))) mixed {} (fn := Tryz.f76) Tryz.func76 (by kernel_rfl) (by kernel_rfl) ?_
  rintro ⟨w0, sinks0, ⟨⟩⟩ K ⟨r, h, hK⟩
  change impl_IsWire w0 sinks0 = some r at h
  unfold impl_IsWire at h
  conv => whnf
  refine vBind h (fun int64_0 hb0 h => ?_)
  conv => whnf
  refine vBind h (fun within0 hb1 h => ?_)
  conv => whnf
  refine vIfB h (fun h => ?_) (fun h => ?_)
  · conv => whnf
    refine vBind h (fun int64_1 hb2 h => ?_)
    conv => whnf
    refine vIfD h (fun h => ?_) (fun h => ?_)
    · conv => whnf
      refine vBind h (fun int64_2 hb3 h => ?_)
      conv => whnf
      refine vIfD h (fun h => ?_) (fun h => ?_)
      · conv => whnf
        refine vBind h (fun isTree0 hb4 h => ?_)
        conv => whnf
        refine vIfB h (fun h => ?_) (fun h => ?_)
        · conv => whnf
          refine vBind h (fun areWithin0 hb5 h => ?_)
          conv => whnf
          refine vIfB h (fun h => ?_) (fun h => ?_)
          · conv => whnf
            refine vBind h (fun areWithin1 hb6 h => ?_)
            conv => whnf
            refine vIfB h (fun h => ?_) (fun h => ?_)
            · conv => whnf
              refine vBind h (fun int64_3 hb7 h => ?_)
              conv => whnf
              refine vIfD h (fun h => ?_) (fun h => ?_)
              · conv => whnf
                refine vBind h (fun areWithin2 hb8 h => ?_)
                conv => whnf
                cases h
                exact hK
              · conv => whnf
                cases h
                exact hK
            · conv => whnf
              cases h
              exact hK
          · conv => whnf
            cases h
            exact hK
        · conv => whnf
          cases h
          exact hK
      · conv => whnf
        cases h
        exact hK
    · conv => whnf
      cases h
      exact hK
  · conv => whnf
    cases h
    exact hK
theorem w_impl_arePins (q2 : SoundC Tryz.prog 128 c_impl_within) (q0 : SoundC Tryz.prog 208 c_impl_length_impl_Pin) (q1 : SoundC Tryz.prog 137 c_impl_areNames) : SoundC Tryz.prog 192 c_impl_arePins := by
  refine fn_sound tab_ok (gam_cons q2 (gam_cons q0 (gam_cons q1 gam_nil))) mixed { loops := [(0, [.reg 3 (.own (.ol 9 (.flat (.str)))), .reg 8 (.dat (.int .i64))])] } (fn := Tryz.f192) Tryz.func192 (by kernel_rfl) (by kernel_rfl) ?_
  rintro ⟨list0, ⟨⟩⟩ K ⟨r, h, hK⟩
  change impl_arePins list0 = some r at h
  unfold impl_arePins at h
  conv => whnf
  refine vLoop h ?_
  rintro I0 μ0 ⟨names0, v0, ⟨⟩⟩ zs0 h hI0 hR0
  change impl_arePins_loop0 list0 names0 v0 = some zs0 at h
  unfold impl_arePins_loop0 at h
  conv => whnf
  refine vIfD h (fun h => ?_) (fun h => ?_)
  · conv => whnf
    refine vAt h (fun x0 he1a he1b he1x h => ?_)
    conv => whnf
    refine vPre h (fun hp2 h => ?_)
    conv => whnf
    refine vIfD h (fun h => ?_) (fun h => ?_)
    · conv => whnf
      refine vNot ?_
      refine vIfD h (fun h => ?_) (fun h => ?_)
      · conv => whnf
        refine vNot ?_
        refine vIfD h (fun h => ?_) (fun h => ?_)
        · conv => whnf
          refine vIfB h (fun h => ?_) (fun h => ?_)
          · conv => whnf
            cases h
            obtain rfl := hR0 _ rfl
            exact hK
          · conv => whnf
            cases h
            exact ⟨⟨rfl, rfl⟩, hI0 _ rfl⟩
        · conv => whnf
          cases h
          obtain rfl := hR0 _ rfl
          exact hK
      · conv => whnf
        cases h
        obtain rfl := hR0 _ rfl
        exact hK
    · conv => whnf
      refine vNot ?_
      refine vIfD h (fun h => ?_) (fun h => ?_)
      · conv => whnf
        refine vBind h (fun within0 hb3 h => ?_)
        conv => whnf
        refine vNots ?_
        refine vIfB h (fun h => ?_) (fun h => ?_)
        · conv => whnf
          cases h
          exact ⟨⟨rfl, rfl⟩, hI0 _ rfl⟩
        · conv => whnf
          cases h
          obtain rfl := hR0 _ rfl
          exact hK
      · conv => whnf
        cases h
        obtain rfl := hR0 _ rfl
        exact hK
  · conv => whnf
    refine vBind h (fun Pin0 hb4 h => ?_)
    conv => whnf
    refine vBind h (fun within0 hb5 h => ?_)
    conv => whnf
    refine vIfB h (fun h => ?_) (fun h => ?_)
    · conv => whnf
      refine vBind h (fun areNames0 hb6 h => ?_)
      conv => whnf
      cases h
      obtain rfl := hR0 _ rfl
      exact hK
    · conv => whnf
      cases h
      obtain rfl := hR0 _ rfl
      exact hK
theorem w_impl_areTables (q0 : SoundC Tryz.prog 250 c_slices_ContainsFunc_Simpl_Table_impl_Table_at_impl_areTables_c1) : SoundC Tryz.prog 233 c_impl_areTables := by
  refine fn_sound tab_ok (gam_cons q0 gam_nil) mixed {} (fn := Tryz.f233) Tryz.func233 (by kernel_rfl) (by kernel_rfl) ?_
  rintro ⟨list0, positive0, ⟨⟩⟩ K ⟨r, h, hK⟩
  change impl_areTables list0 positive0 = some r at h
  unfold impl_areTables at h
  conv => whnf
  refine vIfD h (fun h => ?_) (fun h => ?_)
  · conv => whnf
    refine vBind h (fun c1_0 hb0 h => ?_)
    conv => whnf
    cases h
    exact hK
  · conv => whnf
    cases h
    exact hK
theorem w_impl_isCheck : SoundC Tryz.prog 232 c_impl_isCheck := by
  refine fn_sound tab_ok gam_nil mixed {} (fn := Tryz.f232) Tryz.func232 (by kernel_rfl) (by kernel_rfl) ?_
  rintro ⟨kind0, ⟨⟩⟩ K ⟨r, h, hK⟩
  change impl_isCheck kind0 = some r at h
  unfold impl_isCheck at h
  conv => whnf
  refine vIfDs h (fun h => ?_) (fun h => ?_)
  · conv => whnf
    cases h
    exact hK
  · conv => whnf
    cases h
    exact hK
theorem w_impl_length_string : SoundC Tryz.prog 168 c_impl_length_string := by
  refine fn_sound tab_ok gam_nil mixed {} (fn := Tryz.f168) Tryz.func168 (by kernel_rfl) (by kernel_rfl) ?_
  rintro ⟨list0, ⟨⟩⟩ K ⟨r, h, hK⟩
  change impl_length_string list0 = some r at h
  unfold impl_length_string at h
  conv => whnf
  cases h
  exact hK
theorem wb_impl_waveOf (rec0 : (List TClock) → Int → Option Twave) (hrec : SoundC Tryz.prog 172 (cb_impl_waveOf rec0)) : SoundC Tryz.prog 172 (cb_impl_waveOf (impl_waveOf_body rec0)) := by
  refine fn_sound tab_ok (gam_cons hrec gam_nil) mixed {} (fn := Tryz.f172) Tryz.func172 (by kernel_rfl) (by kernel_rfl) ?_
  rintro ⟨list0, k0, ⟨⟩⟩ K ⟨r, h, hK⟩
  change impl_waveOf_body rec0 list0 k0 = some r at h
  unfold impl_waveOf_body at h
  conv => whnf
  refine vAt h (fun x0 he0a he0b he0x h => ?_)
  conv => whnf
  refine vIfD h (fun h => ?_) (fun h => ?_)
  · conv => whnf
    cases h
    exact hK
  · conv => whnf
    refine vBind h (fun r0 hb1 h => ?_)
    conv => whnf
    refine vIfD h (fun h => ?_) (fun h => ?_)
    · conv => whnf
      refine ⟨by decide, ?_⟩
      conv => whnf
      refine vIfB h (fun h => ?_) (fun h => ?_)
      · conv => whnf
        cases h
        exact hK
      · conv => whnf
        cases h
        exact hK
    · conv => whnf
      refine vIfB h (fun h => ?_) (fun h => ?_)
      · conv => whnf
        cases h
        exact hK
      · conv => whnf
        cases h
        exact hK
theorem w_impl_waveOf : SoundC Tryz.prog 172 c_impl_waveOf := by
  have hn : ∀ n, SoundC Tryz.prog 172 (cb_impl_waveOf (impl_waveOf_n n)) := by
    intro n
    induction n with
    | zero =>
      refine fn_sound tab_ok gam_nil mixed {} (fn := Tryz.f172) Tryz.func172 (by kernel_rfl) (by kernel_rfl) ?_
      rintro ⟨list0, k0, ⟨⟩⟩ K ⟨r, h, hK⟩
      cases h
    | succ n ih => exact wb_impl_waveOf _ ih
  refine ⟨(hn 0).1, ?_⟩
  rintro w S vs ⟨list0, k0, ⟨⟩⟩ fp K h1 h2 h3 h4 ⟨r, h, hK⟩
  obtain ⟨n, hr⟩ := recM_some h
  exact (hn n).2 w S vs _ fp K h1 h2 h3 h4 ⟨r, hr, hK⟩
theorem w_laws_FnExactIsSetup (q0 : SoundC Tryz.prog 5 c_laws_szBlock) (q1 : SoundC Tryz.prog 6 c_laws_szSetup) (q2 : SoundC Tryz.prog 8 c_laws_toBlock) (q3 : SoundC Tryz.prog 9 c_laws_toSetup) (q4 : SoundC Tryz.prog 7 c_spec_IsSetup) (q5 : SoundC Tryz.prog 10 c_impl_IsSetup) (q6 : SoundC Tryz.prog 11 c_laws_eqBlock) (q7 : SoundC Tryz.prog 12 c_laws_eqSetup) : SoundC Tryz.prog 3 c_laws_FnExactIsSetup := by
  refine fn_sound tab_ok (gam_cons q0 (gam_cons q1 (gam_cons q2 (gam_cons q3 (gam_cons q4 (gam_cons q5 (gam_cons q6 (gam_cons q7 gam_nil)))))))) mixed { draws := [(8, [0, 1, 0, 7, 15, 31], .op 0 (.op 2 (.alt 1 (.alt 3 (.alt 4 (.op 5 (.done)) (.done)) (.done)) (.done)))), (14, [0, 0, 2, 7, 15], .op 0 (.op 1 (.alt 2 (.alt 3 (.op 4 (.done)) (.done)) (.done)))), (16, [0, 0, 2, 7, 15], .op 0 (.op 1 (.alt 2 (.alt 3 (.op 4 (.done)) (.done)) (.done))))] } (fn := Tryz.f3) Tryz.func3 (by kernel_rfl) (by kernel_rfl) ?_
  rintro ⟨aB0, aS0, ⟨⟩⟩ K ⟨r, h, hK⟩
  change laws_FnExactIsSetup aB0 aS0 = some r at h
  unfold laws_FnExactIsSetup at h
  conv => whnf
  refine vBind h (fun szBlock0 hb0 h => ?_)
  conv => whnf
  refine vIfD h (fun h => ?_) (fun h => ?_)
  · conv => whnf
    cases h
    exact hK
  · conv => whnf
    refine vBind h (fun szSetup0 hb1 h => ?_)
    conv => whnf
    refine vIfD h (fun h => ?_) (fun h => ?_)
    · conv => whnf
      cases h
      exact hK
    · conv => whnf
      refine ⟨by kernel_rfl, ?_⟩
      conv => whnf
      refine vBind h (fun toBlock0 hb2 h => ?_)
      conv => whnf
      intro fp3
      conv => whnf
      intro fp4
      conv => whnf
      intro fp5
      conv => whnf
      refine vBind h (fun toSetup0 hb6 h => ?_)
      conv => whnf
      intro fp7
      conv => whnf
      refine vBind h (fun IsSetup0 hb8 h => ?_)
      conv => whnf
      refine ⟨_, hb2, ?_⟩
      conv => whnf
      intro fp9
      conv => whnf
      intro fp10
      conv => whnf
      intro fp11
      conv => whnf
      refine ⟨_, hb6, ?_⟩
      conv => whnf
      intro fp12
      conv => whnf
      refine vBind h (fun IsSetup1 hb13 h => ?_)
      conv => whnf
      refine vNots ?_
      refine vIfB h (fun h => ?_) (fun h => ?_)
      · conv => whnf
        refine ⟨by kernel_rfl, ?_⟩
        conv => whnf
        refine ⟨_, hb2, ?_⟩
        conv => whnf
        intro fp14
        conv => whnf
        intro fp15
        conv => whnf
        intro fp16
        conv => whnf
        refine vBind h (fun eqBlock0 hb17 h => ?_)
        conv => whnf
        refine vNots ?_
        refine vIfB h (fun h => ?_) (fun h => ?_)
        · conv => whnf
          refine ⟨by kernel_rfl, ?_⟩
          conv => whnf
          refine ⟨_, hb6, ?_⟩
          conv => whnf
          intro fp18
          conv => whnf
          refine vBind h (fun eqSetup0 hb19 h => ?_)
          conv => whnf
          refine vNots ?_
          refine vIfB h (fun h => ?_) (fun h => ?_)
          · conv => whnf
            cases h
            exact hK
          · conv => whnf
            cases h
            exact hK
        · conv => whnf
          cases h
          exact hK
      · conv => whnf
        cases h
        exact hK
theorem w_laws_eqCellS (q0 : SoundC Tryz.prog 147 c_laws_eqCell) : SoundC Tryz.prog 91 c_laws_eqCellS := by
  refine fn_sound tab_ok (gam_cons q0 gam_nil) mixed { loops := [(0, [.reg 5 (.dat (.int .i64))])], draws := [(6, [0, 0, 3, 7, 0, 0, 48, 112, 255, 511], .op 0 (.op 1 (.op 2 (.op 3 (.op 4 (.op 5 (.op 6 (.op 7 (.alt 8 (.op 9 (.done)) (.done))))))))))] } (fn := Tryz.f91) Tryz.func91 (by kernel_rfl) (by kernel_rfl) ?_
  rintro ⟨a0, b0, ⟨⟩⟩ K ⟨r, h, hK⟩
  change laws_eqCellS a0 b0 = some r at h
  unfold laws_eqCellS at h
  conv => whnf
  refine vNots ?_
  refine vIfD h (fun h => ?_) (fun h => ?_)
  · conv => whnf
    refine vLoop h ?_
    rintro I0 μ0 ⟨i0, ⟨⟩⟩ zs0 h hI0 hR0
    change laws_eqCellS_loop0 a0 b0 i0 = some zs0 at h
    unfold laws_eqCellS_loop0 at h
    conv => whnf
    refine vIfD h (fun h => ?_) (fun h => ?_)
    · conv => whnf
      refine ⟨by kernel_rfl, ?_⟩
      conv => whnf
      refine vAt h (fun x0 he1a he1b he1x h => ?_)
      conv => whnf
      refine vAt h (fun x1 he2a he2b he2x h => ?_)
      conv => whnf
      refine vBind h (fun eqCell0 hb3 h => ?_)
      conv => whnf
      refine vNots ?_
      refine vIfB h (fun h => ?_) (fun h => ?_)
      · conv => whnf
        cases h
        exact ⟨⟨rfl, rfl⟩, hI0 _ rfl⟩
      · conv => whnf
        cases h
        obtain rfl := hR0 _ rfl
        exact hK
    · conv => whnf
      cases h
      obtain rfl := hR0 _ rfl
      exact hK
  · conv => whnf
    cases h
    exact hK
theorem w_laws_eqCorner : SoundC Tryz.prog 99 c_laws_eqCorner := by
  refine fn_sound tab_ok gam_nil mixed {} (fn := Tryz.f99) Tryz.func99 (by kernel_rfl) (by kernel_rfl) ?_
  rintro ⟨a0, b0, ⟨⟩⟩ K ⟨r, h, hK⟩
  change laws_eqCorner a0 b0 = some r at h
  unfold laws_eqCorner at h
  conv => whnf
  refine vNots ?_
  refine vIfD h (fun h => ?_) (fun h => ?_)
  · conv => whnf
    refine vNots ?_
    refine vIfD h (fun h => ?_) (fun h => ?_)
    · conv => whnf
      refine vNots ?_
      refine vIfD h (fun h => ?_) (fun h => ?_)
      · conv => whnf
        refine vNots ?_
        refine vIfD h (fun h => ?_) (fun h => ?_)
        · conv => whnf
          refine vNots ?_
          refine vIfD h (fun h => ?_) (fun h => ?_)
          · conv => whnf
            cases h
            exact hK
          · conv => whnf
            cases h
            exact hK
        · conv => whnf
          cases h
          exact hK
      · conv => whnf
        cases h
        exact hK
    · conv => whnf
      cases h
      exact hK
  · conv => whnf
    cases h
    exact hK
theorem w_laws_eqException (q0 : SoundC Tryz.prog 150 c_laws_eqInt64S) : SoundC Tryz.prog 98 c_laws_eqException := by
  refine fn_sound tab_ok (gam_cons q0 gam_nil) mixed {} (fn := Tryz.f98) Tryz.func98 (by kernel_rfl) (by kernel_rfl) ?_
  rintro ⟨a0, b0, ⟨⟩⟩ K ⟨r, h, hK⟩
  change laws_eqException a0 b0 = some r at h
  unfold laws_eqException at h
  conv => whnf
  refine vNots ?_
  refine vIfD h (fun h => ?_) (fun h => ?_)
  · conv => whnf
    refine vNots ?_
    refine vIfD h (fun h => ?_) (fun h => ?_)
    · conv => whnf
      refine vBind h (fun eqInt64S0 hb0 h => ?_)
      conv => whnf
      refine vNots ?_
      refine vIfB h (fun h => ?_) (fun h => ?_)
      · conv => whnf
        refine vBind h (fun eqInt64S1 hb1 h => ?_)
        conv => whnf
        refine vNots ?_
        refine vIfB h (fun h => ?_) (fun h => ?_)
        · conv => whnf
          refine vBind h (fun eqInt64S2 hb2 h => ?_)
          conv => whnf
          refine vNots ?_
          refine vIfB h (fun h => ?_) (fun h => ?_)
          · conv => whnf
            cases h
            exact hK
          · conv => whnf
            cases h
            exact hK
        · conv => whnf
          cases h
          exact hK
      · conv => whnf
        cases h
        exact hK
    · conv => whnf
      cases h
      exact hK
  · conv => whnf
    cases h
    exact hK
theorem w_laws_eqInstance (q0 : SoundC Tryz.prog 150 c_laws_eqInt64S) : SoundC Tryz.prog 148 c_laws_eqInstance := by
  refine fn_sound tab_ok (gam_cons q0 gam_nil) mixed {} (fn := Tryz.f148) Tryz.func148 (by kernel_rfl) (by kernel_rfl) ?_
  rintro ⟨a0, b0, ⟨⟩⟩ K ⟨r, h, hK⟩
  change laws_eqInstance a0 b0 = some r at h
  unfold laws_eqInstance at h
  conv => whnf
  refine vNots ?_
  refine vIfD h (fun h => ?_) (fun h => ?_)
  · conv => whnf
    refine vNots ?_
    refine vIfD h (fun h => ?_) (fun h => ?_)
    · conv => whnf
      refine vBind h (fun eqInt64S0 hb0 h => ?_)
      conv => whnf
      refine vNots ?_
      refine vIfB h (fun h => ?_) (fun h => ?_)
      · conv => whnf
        cases h
        exact hK
      · conv => whnf
        cases h
        exact hK
    · conv => whnf
      cases h
      exact hK
  · conv => whnf
    cases h
    exact hK
theorem w_laws_eqInt64S : SoundC Tryz.prog 150 c_laws_eqInt64S := by
  refine fn_sound tab_ok gam_nil mixed { loops := [(0, [.reg 5 (.dat (.int .i64))])], draws := [(6, [0, 0, 3, 7, 0, 0, 48, 112, 255], .op 0 (.op 1 (.op 2 (.op 3 (.op 4 (.op 5 (.op 6 (.op 7 (.op 8 (.done))))))))))] } (fn := Tryz.f150) Tryz.func150 (by kernel_rfl) (by kernel_rfl) ?_
  rintro ⟨a0, b0, ⟨⟩⟩ K ⟨r, h, hK⟩
  change laws_eqInt64S a0 b0 = some r at h
  unfold laws_eqInt64S at h
  conv => whnf
  refine vNots ?_
  refine vIfD h (fun h => ?_) (fun h => ?_)
  · conv => whnf
    refine vLoop h ?_
    rintro I0 μ0 ⟨i0, ⟨⟩⟩ zs0 h hI0 hR0
    change laws_eqInt64S_loop0 a0 b0 i0 = some zs0 at h
    unfold laws_eqInt64S_loop0 at h
    conv => whnf
    refine vIfD h (fun h => ?_) (fun h => ?_)
    · conv => whnf
      refine ⟨by kernel_rfl, ?_⟩
      conv => whnf
      refine vAt h (fun x0 he1a he1b he1x h => ?_)
      conv => whnf
      refine vAt h (fun x1 he2a he2b he2x h => ?_)
      conv => whnf
      refine vNots ?_
      refine vIfD h (fun h => ?_) (fun h => ?_)
      · conv => whnf
        cases h
        exact ⟨⟨rfl, rfl⟩, hI0 _ rfl⟩
      · conv => whnf
        cases h
        obtain rfl := hR0 _ rfl
        exact hK
    · conv => whnf
      cases h
      obtain rfl := hR0 _ rfl
      exact hK
  · conv => whnf
    cases h
    exact hK
theorem w_laws_szClockS (q0 : SoundC Tryz.prog 52 c_laws_szClock) : SoundC Tryz.prog 18 c_laws_szClockS := by
  refine fn_sound tab_ok (gam_cons q0 gam_nil) mixed { loops := [(0, [.reg 1 (.dat (.int .i64)), .reg 5 (.dat (.int .i64))])] } (fn := Tryz.f18) Tryz.func18 (by kernel_rfl) (by kernel_rfl) ?_
  rintro ⟨a0, left0, ⟨⟩⟩ K ⟨r, h, hK⟩
  change laws_szClockS a0 left0 = some r at h
  unfold laws_szClockS at h
  conv => whnf
  refine vIfD h (fun h => ?_) (fun h => ?_)
  · conv => whnf
    cases h
    exact hK
  · conv => whnf
    refine vLoop h ?_
    rintro I0 μ0 ⟨left1, i0, ⟨⟩⟩ zs0 h hI0 hR0
    change laws_szClockS_loop0 a0 left1 i0 = some zs0 at h
    unfold laws_szClockS_loop0 at h
    conv => whnf
    refine vIfD h (fun h => ?_) (fun h => ?_)
    · conv => whnf
      refine vAt h (fun x0 he1a he1b he1x h => ?_)
      conv => whnf
      refine vBind h (fun szClock0 hb2 h => ?_)
      conv => whnf
      refine vIfD h (fun h => ?_) (fun h => ?_)
      · conv => whnf
        cases h
        obtain rfl := hR0 _ rfl
        exact hK
      · conv => whnf
        cases h
        exact ⟨⟨rfl, rfl⟩, hI0 _ rfl⟩
    · conv => whnf
      cases h
      obtain rfl := hR0 _ rfl
      exact hK
theorem w_laws_szExceptionS (q0 : SoundC Tryz.prog 53 c_laws_szException) : SoundC Tryz.prog 20 c_laws_szExceptionS := by
  refine fn_sound tab_ok (gam_cons q0 gam_nil) mixed { loops := [(0, [.reg 1 (.dat (.int .i64)), .reg 5 (.dat (.int .i64))])] } (fn := Tryz.f20) Tryz.func20 (by kernel_rfl) (by kernel_rfl) ?_
  rintro ⟨a0, left0, ⟨⟩⟩ K ⟨r, h, hK⟩
  change laws_szExceptionS a0 left0 = some r at h
  unfold laws_szExceptionS at h
  conv => whnf
  refine vIfD h (fun h => ?_) (fun h => ?_)
  · conv => whnf
    cases h
    exact hK
  · conv => whnf
    refine vLoop h ?_
    rintro I0 μ0 ⟨left1, i0, ⟨⟩⟩ zs0 h hI0 hR0
    change laws_szExceptionS_loop0 a0 left1 i0 = some zs0 at h
    unfold laws_szExceptionS_loop0 at h
    conv => whnf
    refine vIfD h (fun h => ?_) (fun h => ?_)
    · conv => whnf
      refine vAt h (fun x0 he1a he1b he1x h => ?_)
      conv => whnf
      refine vBind h (fun szException0 hb2 h => ?_)
      conv => whnf
      refine vIfD h (fun h => ?_) (fun h => ?_)
      · conv => whnf
        cases h
        obtain rfl := hR0 _ rfl
        exact hK
      · conv => whnf
        cases h
        exact ⟨⟨rfl, rfl⟩, hI0 _ rfl⟩
    · conv => whnf
      cases h
      obtain rfl := hR0 _ rfl
      exact hK
theorem w_laws_szInt64S : SoundC Tryz.prog 111 c_laws_szInt64S := by
  refine fn_sound tab_ok gam_nil mixed {} (fn := Tryz.f111) Tryz.func111 (by kernel_rfl) (by kernel_rfl) ?_
  rintro ⟨a0, left0, ⟨⟩⟩ K ⟨r, h, hK⟩
  change laws_szInt64S a0 left0 = some r at h
  unfold laws_szInt64S at h
  conv => whnf
  refine vIfD h (fun h => ?_) (fun h => ?_)
  · conv => whnf
    cases h
    exact hK
  · conv => whnf
    cases h
    exact hK
theorem w_laws_szPinS (q0 : SoundC Tryz.prog 185 c_laws_szPin) : SoundC Tryz.prog 159 c_laws_szPinS := by
  refine fn_sound tab_ok (gam_cons q0 gam_nil) mixed { loops := [(0, [.reg 1 (.dat (.int .i64)), .reg 5 (.dat (.int .i64))])] } (fn := Tryz.f159) Tryz.func159 (by kernel_rfl) (by kernel_rfl) ?_
  rintro ⟨a0, left0, ⟨⟩⟩ K ⟨r, h, hK⟩
  change laws_szPinS a0 left0 = some r at h
  unfold laws_szPinS at h
  conv => whnf
  refine vIfD h (fun h => ?_) (fun h => ?_)
  · conv => whnf
    cases h
    exact hK
  · conv => whnf
    refine vLoop h ?_
    rintro I0 μ0 ⟨left1, i0, ⟨⟩⟩ zs0 h hI0 hR0
    change laws_szPinS_loop0 a0 left1 i0 = some zs0 at h
    unfold laws_szPinS_loop0 at h
    conv => whnf
    refine vIfD h (fun h => ?_) (fun h => ?_)
    · conv => whnf
      refine vAt h (fun x0 he1a he1b he1x h => ?_)
      conv => whnf
      refine vBind h (fun szPin0 hb2 h => ?_)
      conv => whnf
      refine vIfD h (fun h => ?_) (fun h => ?_)
      · conv => whnf
        cases h
        obtain rfl := hR0 _ rfl
        exact hK
      · conv => whnf
        cases h
        exact ⟨⟨rfl, rfl⟩, hI0 _ rfl⟩
    · conv => whnf
      cases h
      obtain rfl := hR0 _ rfl
      exact hK
theorem w_laws_toInstanceS (q0 : SoundC Tryz.prog 118 c_laws_toInstance) : SoundC Tryz.prog 66 c_laws_toInstanceS := by
  refine fn_sound tabD_ok (gam_cons q0 gam_nil) mixed { loops := [(0, [.reg 4 (.dat (.int .i64)), .ent 0 (nat_lit 127) dInstance])] } (fn := Tryz.f66) Tryz.func66 (by kernel_rfl) (by kernel_rfl) ?_
  rintro ⟨a0, ⟨⟩⟩ K ⟨r, h, hK⟩
  change laws_toInstanceS a0 = some r at h
  unfold laws_toInstanceS at h
  conv => whnf
  refine vPre h (fun hp0 h => ?_)
  conv => whnf
  refine vPre h (fun hp1 h => ?_)
  conv => whnf
  refine vPre h (fun hp2 h => ?_)
  conv => whnf
  refine vPre h (fun hp3 h => ?_)
  conv => whnf
  intro fp4
  conv => whnf
  refine vLoop h ?_
  rintro I5 μ5 ⟨i0, l0, ⟨⟩⟩ zs5 h hI5 hR5
  change laws_toInstanceS_loop0 a0 i0 l0 = some zs5 at h
  unfold laws_toInstanceS_loop0 at h
  conv => whnf
  intro fp6
  conv => whnf
  refine vIfD h (fun h => ?_) (fun h => ?_)
  · conv => whnf
    refine vAt h (fun x0 he7a he7b he7x h => ?_)
    conv => whnf
    refine vBind h (fun toInstance0 hb8 h => ?_)
    conv => whnf
    refine vAt h (fun x1 he9a he9b he9x h => ?_)
    conv => whnf
    refine ⟨he9a, he9b, vAgain he9x ?_⟩
    conv => whnf
    intro fp10
    conv => whnf
    cases h
    exact ⟨⟨rfl, rfl⟩, hI5 _ rfl⟩
  · conv => whnf
    cases h
    obtain rfl := hR5 _ rfl
    exact hK
theorem w_laws_toInt64S : SoundC Tryz.prog 120 c_laws_toInt64S := by
  refine fn_sound tab_ok gam_nil mixed { loops := [(0, [.reg 4 (.dat (.int .i64)), .ent 0 (nat_lit 2) (.flat ti79.ety)])] } (fn := Tryz.f120) Tryz.func120 (by kernel_rfl) (by kernel_rfl) ?_
  rintro ⟨a0, ⟨⟩⟩ K ⟨r, h, hK⟩
  change laws_toInt64S a0 = some r at h
  unfold laws_toInt64S at h
  conv => whnf
  refine vPre h (fun hp0 h => ?_)
  conv => whnf
  refine vPre h (fun hp1 h => ?_)
  conv => whnf
  refine vPre h (fun hp2 h => ?_)
  conv => whnf
  refine vPre h (fun hp3 h => ?_)
  conv => whnf
  refine vLoop h ?_
  rintro I4 μ4 ⟨i0, l0, ⟨⟩⟩ zs4 h hI4 hR4
  change laws_toInt64S_loop0 a0 i0 l0 = some zs4 at h
  unfold laws_toInt64S_loop0 at h
  conv => whnf
  refine vIfD h (fun h => ?_) (fun h => ?_)
  · conv => whnf
    refine vAt h (fun x0 he5a he5b he5x h => ?_)
    conv => whnf
    refine vAt h (fun x1 he6a he6b he6x h => ?_)
    conv => whnf
    refine ⟨by kernel_rfl, ?_⟩
    conv => whnf
    refine ⟨by decide, ?_⟩
    conv => whnf
    refine ⟨he6a, he6b, vAgain he6x ?_⟩
    conv => whnf
    cases h
    exact ⟨⟨rfl, rfl⟩, hI4 _ rfl⟩
  · conv => whnf
    cases h
    obtain rfl := hR4 _ rfl
    exact hK
theorem w_laws_toLibrary (q0 : SoundC Tryz.prog 65 c_laws_toCellS) : SoundC Tryz.prog 28 c_laws_toLibrary := by
  refine fn_sound tabD_ok (gam_cons q0 gam_nil) mixed {} (fn := Tryz.f28) Tryz.func28 (by kernel_rfl) (by kernel_rfl) ?_
  rintro ⟨a0, ⟨⟩⟩ K ⟨r, h, hK⟩
  change laws_toLibrary a0 = some r at h
  unfold laws_toLibrary at h
  conv => whnf
  refine vBind h (fun toCellS0 hb0 h => ?_)
  conv => whnf
  intro fp1
  conv => whnf
  cases h
  exact hK
theorem w_laws_toSpan : SoundC Tryz.prog 121 c_laws_toSpan := by
  refine fn_sound tab_ok gam_nil mixed {} (fn := Tryz.f121) Tryz.func121 (by kernel_rfl) (by kernel_rfl) ?_
  rintro ⟨a0, ⟨⟩⟩ K ⟨r, h, hK⟩
  change laws_toSpan a0 = some r at h
  unfold laws_toSpan at h
  conv => whnf
  cases h
  exact hK
theorem w_slices_ContainsFunc_Simpl_Arc_impl_Arc_at_impl_Cell_areArcs_c1 (q0 : SoundC Tryz.prog 236 c_slices_IndexFunc_Simpl_Arc_impl_Arc_at_impl_Cell_areArcs_c1) : SoundC Tryz.prog 210 c_slices_ContainsFunc_Simpl_Arc_impl_Arc_at_impl_Cell_areArcs_c1 := by
  refine fn_sound tab_ok (gam_cons q0 gam_nil) mixed {} (fn := Tryz.f210) Tryz.func210 (by kernel_rfl) (by kernel_rfl) ?_
  rintro ⟨s0, f0, ⟨⟩⟩ K ⟨r, h, hK⟩
  change slices_ContainsFunc_Simpl_Arc_impl_Arc_at_impl_Cell_areArcs_c1 s0 f0 = some r at h
  unfold slices_ContainsFunc_Simpl_Arc_impl_Arc_at_impl_Cell_areArcs_c1 at h
  conv => whnf
  refine vBind h (fun c1_0 hb0 h => ?_)
  conv => whnf
  cases h
  exact hK
theorem w_slices_Contains_Sstring_string (q0 : SoundC Tryz.prog 198 c_slices_Index_Sstring_string) : SoundC Tryz.prog 174 c_slices_Contains_Sstring_string := by
  refine fn_sound tab_ok (gam_cons q0 gam_nil) mixed {} (fn := Tryz.f174) Tryz.func174 (by kernel_rfl) (by kernel_rfl) ?_
  rintro ⟨s0, v0, ⟨⟩⟩ K ⟨r, h, hK⟩
  change slices_Contains_Sstring_string s0 v0 = some r at h
  unfold slices_Contains_Sstring_string at h
  conv => whnf
  refine vBind h (fun string0 hb0 h => ?_)
  conv => whnf
  cases h
  exact hK
theorem w_slices_IndexFunc_Simpl_Pin_impl_Pin_at_impl_Cell_clock_c1 (q0 : SoundC Tryz.prog 255 c_impl_Cell_clock_c1) : SoundC Tryz.prog 254 c_slices_IndexFunc_Simpl_Pin_impl_Pin_at_impl_Cell_clock_c1 := by
  refine fn_sound tab_ok (gam_cons q0 gam_nil) mixed { loops := [(0, [.reg 8 (.dat (.int .i64))])] } (fn := Tryz.f254) Tryz.func254 (by kernel_rfl) (by kernel_rfl) ?_
  rintro ⟨s0, f0, ⟨⟩⟩ K ⟨r, h, hK⟩
  change slices_IndexFunc_Simpl_Pin_impl_Pin_at_impl_Cell_clock_c1 s0 f0 = some r at h
  unfold slices_IndexFunc_Simpl_Pin_impl_Pin_at_impl_Cell_clock_c1 at h
  conv => whnf
  refine vLoop h ?_
  rintro I0 μ0 ⟨v0, ⟨⟩⟩ zs0 h hI0 hR0
  change slices_IndexFunc_Simpl_Pin_impl_Pin_at_impl_Cell_clock_c1_loop0 s0 v0 = some zs0 at h
  unfold slices_IndexFunc_Simpl_Pin_impl_Pin_at_impl_Cell_clock_c1_loop0 at h
  conv => whnf
  refine vIfD h (fun h => ?_) (fun h => ?_)
  · conv => whnf
    refine vAt h (fun x0 he1a he1b he1x h => ?_)
    conv => whnf
    refine vBind h (fun c1_0 hb2 h => ?_)
    conv => whnf
    refine vIfB h (fun h => ?_) (fun h => ?_)
    · conv => whnf
      cases h
      obtain rfl := hR0 _ rfl
      exact hK
    · conv => whnf
      cases h
      exact ⟨⟨rfl, rfl⟩, hI0 _ rfl⟩
  · conv => whnf
    cases h
    obtain rfl := hR0 _ rfl
    exact hK
theorem w_spec_IsCell (q1 : SoundC Tryz.prog 187 c_spec_l03Pins) (q2 : SoundC Tryz.prog 115 c_spec_l03Name) (q4 : SoundC Tryz.prog 60 c_spec_l01In) (q3 : SoundC Tryz.prog 188 c_spec_l03Arc) (q0 : SoundC Tryz.prog 189 c_spec_l03Kinds) : SoundC Tryz.prog 161 c_spec_IsCell := by
  refine fn_sound tab_ok (gam_cons q1 (gam_cons q2 (gam_cons q4 (gam_cons q3 (gam_cons q0 gam_nil))))) mixed { loops := [(0, [.reg 5 (.dat (.int .i64))]), (2, [.reg 7 (.dat (.int .i64))]), (5, [.reg 9 (.dat (.int .i64))])], draws := [(13, [0, 1, 0, 7, 15, 31, 0, 64, 255, 511, 1023, 2047, 1023, 8191, 16383, 32767, 1023, 66559, 262143, 524287, 1048575, 2097151, 4194303, 2097151, 16777215, 33554431, 67108863, 2097151, 136314879, 536870911, 1073741823], .op 0 (.op 1 (.op 2 (.op 3 (.op 4 (.op 5 (.op 6 (.op 7 (.op 8 (.op 9 (.op 10 (.op 11 (.op 12 (.op 13 (.op 14 (.op 15 (.op 16 (.op 17 (.op 18 (.op 19 (.op 20 (.op 21 (.op 22 (.op 23 (.op 24 (.op 25 (.op 26 (.op 27 (.op 28 (.op 29 (.op 30 (.done)))))))))))))))))))))))))))))))), (25, [0, 1, 3, 7, 15, 31, 63, 127, 255, 511, 1023, 2047, 4095, 511, 8703, 25087, 57855, 131071, 262143, 524287, 1048575, 2097151, 4194303, 8388607, 16777215, 33554431], .op 0 (.op 1 (.op 2 (.op 3 (.op 4 (.op 5 (.op 6 (.op 7 (.op 8 (.op 9 (.op 10 (.op 11 (.op 12 (.op 13 (.op 14 (.op 15 (.op 16 (.op 17 (.op 18 (.op 19 (.op 20 (.op 21 (.op 22 (.op 23 (.op 24 (.op 25 (.done)))))))))))))))))))))))))))] } (fn := Tryz.f161) Tryz.func161 (by kernel_rfl) (by kernel_rfl) ?_
  rintro ⟨a0, ⟨⟩⟩ K ⟨r, h, hK⟩
  change spec_IsCell a0 = some r at h
  unfold spec_IsCell at h
  conv => whnf
  refine vBind h (fun l03Pins0 hb0 h => ?_)
  conv => whnf
  refine vNot ?_
  refine vIfB h (fun h => ?_) (fun h => ?_)
  · conv => whnf
    refine vBind h (fun l03Name0 hb1 h => ?_)
    conv => whnf
    refine vNot ?_
    refine vIfB h (fun h => ?_) (fun h => ?_)
    · conv => whnf
      refine vIfDs h (fun h => ?_) (fun h => ?_)
      · conv => whnf
        cases h
        exact hK
      · conv => whnf
        refine vBind h (fun l01In0 hb2 h => ?_)
        conv => whnf
        refine vNot ?_
        refine vIfB h (fun h => ?_) (fun h => ?_)
        · conv => whnf
          refine vBind h (fun l01In1 hb3 h => ?_)
          conv => whnf
          refine vNots ?_
          refine vIfB h (fun h => ?_) (fun h => ?_)
          · conv => whnf
            refine vLoop h ?_
            rintro I4 μ4 ⟨v0, ⟨⟩⟩ zs4 h hI4 hR4
            change spec_IsCell_loop2 a0 l03Pins0 v0 = some zs4 at h
            unfold spec_IsCell_loop2 at h
            conv => whnf
            refine vIfD h (fun h => ?_) (fun h => ?_)
            · conv => whnf
              refine vAt h (fun x0 he5a he5b he5x h => ?_)
              conv => whnf
              refine vBind h (fun l03Arc0 hb6 h => ?_)
              conv => whnf
              refine vNots ?_
              refine vIfB h (fun h => ?_) (fun h => ?_)
              · conv => whnf
                refine vLoop h ?_
                rintro I7 μ7 ⟨v1, ⟨⟩⟩ zs7 h hI7 hR7
                change spec_IsCell_loop0 a0 v0 x0 v1 = some zs7 at h
                unfold spec_IsCell_loop0 at h
                conv => whnf
                refine vIfD h (fun h => ?_) (fun h => ?_)
                · conv => whnf
                  refine ⟨by kernel_rfl, ?_⟩
                  conv => whnf
                  refine vAt h (fun x1 he8a he8b he8x h => ?_)
                  conv => whnf
                  refine vIfD h (fun h => ?_) (fun h => ?_)
                  · conv => whnf
                    refine ⟨he8a, he8b, vAgain he8x ?_⟩
                    conv => whnf
                    refine vIfD h (fun h => ?_) (fun h => ?_)
                    · conv => whnf
                      refine ⟨he8a, he8b, vAgain he8x ?_⟩
                      conv => whnf
                      refine vIfD h (fun h => ?_) (fun h => ?_)
                      · conv => whnf
                        cases h
                        obtain rfl := hR7 _ rfl
                        obtain rfl := hR4 _ rfl
                        exact hK
                      · conv => whnf
                        cases h
                        exact ⟨⟨rfl, rfl⟩, hI7 _ rfl⟩
                    · conv => whnf
                      cases h
                      exact ⟨⟨rfl, rfl⟩, hI7 _ rfl⟩
                  · conv => whnf
                    cases h
                    exact ⟨⟨rfl, rfl⟩, hI7 _ rfl⟩
                · conv => whnf
                  cases h
                  obtain rfl := hR7 _ rfl
                  exact ⟨⟨rfl, rfl⟩, hI4 _ rfl⟩
              · conv => whnf
                cases h
                obtain rfl := hR4 _ rfl
                exact hK
            · conv => whnf
              refine vBind h (fun l03Kinds0 hb9 h => ?_)
              conv => whnf
              refine vIfD h (fun h => ?_) (fun h => ?_)
              · conv => whnf
                refine vLoop h ?_
                rintro I10 μ10 ⟨v1, ⟨⟩⟩ zs10 h hI10 hR10
                change spec_IsCell_loop1 a0 l03Pins0 v1 = some zs10 at h
                unfold spec_IsCell_loop1 at h
                conv => whnf
                refine vIfD h (fun h => ?_) (fun h => ?_)
                · conv => whnf
                  refine vAt h (fun x0 he11a he11b he11x h => ?_)
                  conv => whnf
                  refine vBind h (fun l01In2 hb12 h => ?_)
                  conv => whnf
                  refine vNots ?_
                  refine vIfB h (fun h => ?_) (fun h => ?_)
                  · conv => whnf
                    cases h
                    exact ⟨⟨rfl, rfl⟩, hI10 _ rfl⟩
                  · conv => whnf
                    cases h
                    obtain rfl := hR10 _ rfl
                    obtain rfl := hR4 _ rfl
                    exact hK
                · conv => whnf
                  refine vIfD h (fun h => ?_) (fun h => ?_)
                  · conv => whnf
                    refine vPre h (fun hp13 h => ?_)
                    conv => whnf
                    cases h
                    obtain rfl := hR10 _ rfl
                    obtain rfl := hR4 _ rfl
                    exact hK
                  · conv => whnf
                    cases h
                    obtain rfl := hR10 _ rfl
                    obtain rfl := hR4 _ rfl
                    exact hK
              · conv => whnf
                refine vIfD h (fun h => ?_) (fun h => ?_)
                · conv => whnf
                  refine ⟨by kernel_rfl, ?_⟩
                  conv => whnf
                  refine vIfD h (fun h => ?_) (fun h => ?_)
                  · conv => whnf
                    refine vAt h (fun x0 he14a he14b he14x h => ?_)
                    conv => whnf
                    refine ⟨by kernel_rfl, ?_⟩
                    conv => whnf
                    refine ⟨he14a, he14b, vAgain he14x ?_⟩
                    conv => whnf
                    refine vIfD h (fun h => ?_) (fun h => ?_)
                    · conv => whnf
                      refine vAt h (fun x1 he15a he15b he15x h => ?_)
                      conv => whnf
                      refine ⟨by kernel_rfl, ?_⟩
                      conv => whnf
                      refine ⟨he15a, he15b, vAgain he15x ?_⟩
                      conv => whnf
                      refine vAt h (fun x2 he16a he16b he16x h => ?_)
                      conv => whnf
                      refine ⟨by kernel_rfl, ?_⟩
                      conv => whnf
                      refine ⟨he16a, he16b, vAgain he16x ?_⟩
                      conv => whnf
                      refine vNots ?_
                      refine vIfB h (fun h => ?_) (fun h => ?_)
                      · conv => whnf
                        cases h
                        obtain rfl := hR4 _ rfl
                        exact hK
                      · conv => whnf
                        cases h
                        obtain rfl := hR4 _ rfl
                        exact hK
                    · conv => whnf
                      cases h
                      obtain rfl := hR4 _ rfl
                      exact hK
                  · conv => whnf
                    cases h
                    obtain rfl := hR4 _ rfl
                    exact hK
                · conv => whnf
                  refine vIfD h (fun h => ?_) (fun h => ?_)
                  · conv => whnf
                    refine vIfD h (fun h => ?_) (fun h => ?_)
                    · conv => whnf
                      refine vAt h (fun x0 he17a he17b he17x h => ?_)
                      conv => whnf
                      refine ⟨by kernel_rfl, ?_⟩
                      conv => whnf
                      refine ⟨he17a, he17b, vAgain he17x ?_⟩
                      conv => whnf
                      refine vIfD h (fun h => ?_) (fun h => ?_)
                      · conv => whnf
                        refine vAt h (fun x1 he18a he18b he18x h => ?_)
                        conv => whnf
                        refine ⟨by kernel_rfl, ?_⟩
                        conv => whnf
                        refine ⟨he18a, he18b, vAgain he18x ?_⟩
                        conv => whnf
                        refine vIfD h (fun h => ?_) (fun h => ?_)
                        · conv => whnf
                          refine vAt h (fun x2 he19a he19b he19x h => ?_)
                          conv => whnf
                          refine ⟨by kernel_rfl, ?_⟩
                          conv => whnf
                          refine ⟨he19a, he19b, vAgain he19x ?_⟩
                          conv => whnf
                          refine vIfD h (fun h => ?_) (fun h => ?_)
                          · conv => whnf
                            cases h
                            obtain rfl := hR4 _ rfl
                            exact hK
                          · conv => whnf
                            cases h
                            obtain rfl := hR4 _ rfl
                            exact hK
                        · conv => whnf
                          cases h
                          obtain rfl := hR4 _ rfl
                          exact hK
                      · conv => whnf
                        cases h
                        obtain rfl := hR4 _ rfl
                        exact hK
                    · conv => whnf
                      cases h
                      obtain rfl := hR4 _ rfl
                      exact hK
                  · conv => whnf
                    cases h
                    obtain rfl := hR4 _ rfl
                    exact hK
          · conv => whnf
            cases h
            exact hK
        · conv => whnf
          cases h
          exact hK
    · conv => whnf
      cases h
      exact hK
  · conv => whnf
    cases h
    exact hK
theorem w_spec_IsCorner (q1 : SoundC Tryz.prog 60 c_spec_l01In) (q0 : SoundC Tryz.prog 115 c_spec_l03Name) : SoundC Tryz.prog 62 c_spec_IsCorner := by
  refine fn_sound tab_ok (gam_cons q1 (gam_cons q0 gam_nil)) mixed { loops := [(0, [.reg 4 (.dat (.int .i64))])] } (fn := Tryz.f62) Tryz.func62 (by kernel_rfl) (by kernel_rfl) ?_
  rintro ⟨c0, ⟨⟩⟩ K ⟨r, h, hK⟩
  change spec_IsCorner c0 = some r at h
  unfold spec_IsCorner at h
  conv => whnf
  refine vLoop h ?_
  rintro I0 μ0 ⟨i0, ⟨⟩⟩ zs0 h hI0 hR0
  change spec_IsCorner_loop0 c0 i0 = some zs0 at h
  unfold spec_IsCorner_loop0 at h
  conv => whnf
  refine vIfD h (fun h => ?_) (fun h => ?_)
  · conv => whnf
    refine vAt h (fun x0 he1a he1b he1x h => ?_)
    conv => whnf
    refine ⟨by kernel_rfl, ?_⟩
    conv => whnf
    refine ⟨he1a, he1b, vAgain he1x ?_⟩
    conv => whnf
    refine vBind h (fun l01In0 hb2 h => ?_)
    conv => whnf
    refine vNots ?_
    refine vIfB h (fun h => ?_) (fun h => ?_)
    · conv => whnf
      cases h
      exact ⟨⟨rfl, rfl⟩, hI0 _ rfl⟩
    · conv => whnf
      cases h
      obtain rfl := hR0 _ rfl
      exact hK
  · conv => whnf
    refine vBind h (fun l03Name0 hb3 h => ?_)
    conv => whnf
    refine vIfB h (fun h => ?_) (fun h => ?_)
    · conv => whnf
      refine vIfD h (fun h => ?_) (fun h => ?_)
      · conv => whnf
        cases h
        obtain rfl := hR0 _ rfl
        exact hK
      · conv => whnf
        cases h
        obtain rfl := hR0 _ rfl
        exact hK
    · conv => whnf
      cases h
      obtain rfl := hR0 _ rfl
      exact hK
theorem w_spec_l05Names (q0 : SoundC Tryz.prog 115 c_spec_l03Name) : SoundC Tryz.prog 114 c_spec_l05Names := by
  refine fn_sound tab_ok (gam_cons q0 gam_nil) mixed { loops := [(0, [.reg 3 (.dat (.int .i64))]), (2, [.reg 4 (.dat (.int .i64))])], draws := [(9, [0, 0, 3, 7, 0, 0, 48, 112, 255], .op 0 (.op 1 (.op 2 (.op 3 (.op 4 (.op 5 (.op 6 (.op 7 (.op 8 (.done))))))))))] } (fn := Tryz.f114) Tryz.func114 (by kernel_rfl) (by kernel_rfl) ?_
  rintro ⟨list0, ⟨⟩⟩ K ⟨r, h, hK⟩
  change spec_l05Names list0 = some r at h
  unfold spec_l05Names at h
  conv => whnf
  refine vLoop h ?_
  rintro I0 μ0 ⟨i0, ⟨⟩⟩ zs0 h hI0 hR0
  change spec_l05Names_loop1 list0 i0 = some zs0 at h
  unfold spec_l05Names_loop1 at h
  conv => whnf
  refine vIfD h (fun h => ?_) (fun h => ?_)
  · conv => whnf
    refine vAt h (fun x0 he1a he1b he1x h => ?_)
    conv => whnf
    refine vBind h (fun l03Name0 hb2 h => ?_)
    conv => whnf
    refine vNots ?_
    refine vIfB h (fun h => ?_) (fun h => ?_)
    · conv => whnf
      refine vLoop h ?_
      rintro I3 μ3 ⟨k0, ⟨⟩⟩ zs3 h hI3 hR3
      change spec_l05Names_loop0 list0 i0 x0 k0 = some zs3 at h
      unfold spec_l05Names_loop0 at h
      conv => whnf
      refine vIfD h (fun h => ?_) (fun h => ?_)
      · conv => whnf
        refine ⟨by kernel_rfl, ?_⟩
        conv => whnf
        refine vAt h (fun x1 he4a he4b he4x h => ?_)
        conv => whnf
        refine ⟨he1a, he1b, vAgain he1x ?_⟩
        conv => whnf
        refine vIfD h (fun h => ?_) (fun h => ?_)
        · conv => whnf
          cases h
          obtain rfl := hR3 _ rfl
          obtain rfl := hR0 _ rfl
          exact hK
        · conv => whnf
          cases h
          exact ⟨⟨rfl, rfl⟩, hI3 _ rfl⟩
      · conv => whnf
        cases h
        obtain rfl := hR3 _ rfl
        exact ⟨⟨rfl, rfl⟩, hI0 _ rfl⟩
    · conv => whnf
      cases h
      obtain rfl := hR0 _ rfl
      exact hK
  · conv => whnf
    cases h
    obtain rfl := hR0 _ rfl
    exact hK
end Go.Proofs.YtmlloomodhhefaaGreatDoor
