/-
  The functions keep their contracts, if what they call does. Printed by program.
-/
import Derived.Test.YtmlloomodhhefaaGreatDoorM
import Derived.KernelRfl
namespace Go.Proofs.YtmlloomodhhefaaGreatDoor
open Go Go.Sx
set_option maxRecDepth 100000
set_option linter.unusedVariables false
set_option linter.unusedSimpArgs false
theorem w_impl_Cell_areArcs_c1 : SoundC Tryz.prog 211 c_impl_Cell_areArcs_c1 := by
  refine fn_sound tab_ok gam_nil mixed {} (fn := Tryz.f211) Tryz.func211 (by kernel_rfl) (by kernel_rfl) ?_
  rintro ⟨o0, a0, ⟨⟩⟩ K ⟨r, h, hK⟩
  change impl_Cell_areArcs_c1 o0 a0 = some r at h
  unfold impl_Cell_areArcs_c1 at h
  conv => whnf
  refine vIfD h (fun h => ?_) (fun h => ?_)
  · conv => whnf
    refine vIfD h (fun h => ?_) (fun h => ?_)
    · conv => whnf
      cases h
      exact hK
    · conv => whnf
      cases h
      exact hK
  · conv => whnf
    cases h
    exact hK
theorem w_impl_Cell_has_c1 : SoundC Tryz.prog 237 c_impl_Cell_has_c1 := by
  refine fn_sound tab_ok gam_nil mixed {} (fn := Tryz.f237) Tryz.func237 (by kernel_rfl) (by kernel_rfl) ?_
  rintro ⟨a0, a1, ⟨⟩⟩ K ⟨r, h, hK⟩
  change impl_Cell_has_c1 a0 a1 = some r at h
  unfold impl_Cell_has_c1 at h
  conv => whnf
  cases h
  exact hK
theorem w_impl_Cell_isArc (q4 : SoundC Tryz.prog 232 c_impl_isCheck) (q3 : SoundC Tryz.prog 233 c_impl_areTables) (q2 : SoundC Tryz.prog 234 c_impl_Cell_clock) (q0 : SoundC Tryz.prog 235 c_impl_Cell_isInput) (q1 : SoundC Tryz.prog 212 c_impl_Cell_output) (q5 : SoundC Tryz.prog 128 c_impl_within) : SoundC Tryz.prog 209 c_impl_Cell_isArc := by
  refine fn_sound tab_ok (gam_cons q4 (gam_cons q3 (gam_cons q2 (gam_cons q0 (gam_cons q1 (gam_cons q5 gam_nil)))))) mixed { draws := [(2, [0, 1, 3, 7, 15, 31, 63, 127, 255, 511, 1023, 2047, 4095, 8191, 16383, 32767, 65535, 32767, 163839, 524287, 1048575, 2097151, 4194303, 8388607, 16777215, 33554431, 67108863, 134217727, 134217727, 402653183, 1073741823, 2147483647, 4294967295, 8589934591, 17179869183, 8589934591, 42949672959, 137438953471, 274877906943, 549755813887], .op 0 (.op 1 (.op 2 (.op 3 (.op 4 (.op 5 (.op 6 (.op 7 (.op 8 (.op 9 (.op 10 (.op 11 (.alt 12 (.op 13 (.op 14 (.op 15 (.op 16 (.op 17 (.alt 18 (.op 19 (.op 20 (.op 21 (.op 22 (.op 23 (.op 24 (.op 25 (.op 26 (.op 27 (.op 28 (.op 29 (.alt 30 (.op 31 (.op 32 (.op 33 (.op 34 (.op 35 (.op 36 (.op 37 (.op 38 (.op 39 (.done)))))))))) (.done))))))))))))) (.done))))))) (.done)))))))))))))), (3, [0, 1, 3, 7, 15, 31, 63, 127, 255, 511, 1023, 2047, 4095, 2047, 10239, 32767, 65535, 131071, 262143, 262143, 786431, 2097151, 4194303, 8388607], .op 0 (.op 1 (.alt 2 (.op 3 (.op 4 (.op 5 (.op 6 (.alt 7 (.op 8 (.op 9 (.op 10 (.op 11 (.op 12 (.op 13 (.alt 14 (.op 15 (.op 16 (.op 17 (.op 18 (.op 19 (.op 20 (.alt 21 (.op 22 (.op 23 (.done))) (.done)))))))) (.done)))))))) (.done)))))) (.done))))] } (fn := Tryz.f209) Tryz.func209 (by kernel_rfl) (by kernel_rfl) ?_
  rintro ⟨a0, a1, ⟨⟩⟩ K ⟨r, h, hK⟩
  change impl_Cell_isArc a0 a1 = some r at h
  unfold impl_Cell_isArc at h
  conv => whnf
  refine vBind h (fun isCheck0 hb0 h => ?_)
  conv => whnf
  refine vIfB h (fun h => ?_) (fun h => ?_)
  · conv => whnf
    refine ⟨by kernel_rfl, ?_⟩
    conv => whnf
    refine vIfD h (fun h => ?_) (fun h => ?_)
    · conv => whnf
      refine vIfD h (fun h => ?_) (fun h => ?_)
      · conv => whnf
        refine vBind h (fun areTables0 hb1 h => ?_)
        conv => whnf
        refine vIfB h (fun h => ?_) (fun h => ?_)
        · conv => whnf
          refine vBind h (fun clock0 hb2 h => ?_)
          conv => whnf
          refine vIfD h (fun h => ?_) (fun h => ?_)
          · conv => whnf
            refine vIfD h (fun h => ?_) (fun h => ?_)
            · conv => whnf
              refine vBind h (fun isInput0 hb3 h => ?_)
              conv => whnf
              refine vIfB h (fun h => ?_) (fun h => ?_)
              · conv => whnf
                cases h
                exact hK
              · conv => whnf
                cases h
                exact hK
            · conv => whnf
              cases h
              exact hK
          · conv => whnf
            cases h
            exact hK
        · conv => whnf
          cases h
          exact hK
      · conv => whnf
        cases h
        exact hK
    · conv => whnf
      cases h
      exact hK
  · conv => whnf
    refine ⟨by kernel_rfl, ?_⟩
    conv => whnf
    refine vBind h (fun areTables0 hb4 h => ?_)
    conv => whnf
    refine vNot ?_
    refine vIfB h (fun h => ?_) (fun h => ?_)
    · conv => whnf
      refine vBind h (fun areTables1 hb5 h => ?_)
      conv => whnf
      refine vNot ?_
      refine vIfB h (fun h => ?_) (fun h => ?_)
      · conv => whnf
        refine vBind h (fun output0 hb6 h => ?_)
        conv => whnf
        refine vNot ?_
        refine vIfD h (fun h => ?_) (fun h => ?_)
        · conv => whnf
          refine vBind h (fun isInput0 hb7 h => ?_)
          conv => whnf
          refine vNots ?_
          refine vIfB h (fun h => ?_) (fun h => ?_)
          · conv => whnf
            refine vIfD h (fun h => ?_) (fun h => ?_)
            · conv => whnf
              refine vAt h (fun x0 he8a he8b he8x h => ?_)
              conv => whnf
              refine vNots ?_
              refine vIfB h (fun h => ?_) (fun h => ?_)
              · conv => whnf
                cases h
                exact hK
              · conv => whnf
                refine vBind h (fun within0 hb9 h => ?_)
                conv => whnf
                cases h
                exact hK
            · conv => whnf
              refine vIfD h (fun h => ?_) (fun h => ?_)
              · conv => whnf
                refine vIfD h (fun h => ?_) (fun h => ?_)
                · conv => whnf
                  refine vAt h (fun x0 he10a he10b he10x h => ?_)
                  conv => whnf
                  refine vIfB h (fun h => ?_) (fun h => ?_)
                  · conv => whnf
                    cases h
                    exact hK
                  · conv => whnf
                    cases h
                    exact hK
                · conv => whnf
                  cases h
                  exact hK
              · conv => whnf
                refine vIfD h (fun h => ?_) (fun h => ?_)
                · conv => whnf
                  refine vAt h (fun x0 he11a he11b he11x h => ?_)
                  conv => whnf
                  refine vIfB h (fun h => ?_) (fun h => ?_)
                  · conv => whnf
                    cases h
                    exact hK
                  · conv => whnf
                    cases h
                    exact hK
                · conv => whnf
                  cases h
                  exact hK
          · conv => whnf
            cases h
            exact hK
        · conv => whnf
          cases h
          exact hK
      · conv => whnf
        cases h
        exact hK
    · conv => whnf
      cases h
      exact hK
theorem w_impl_Clock_isPrimary (q0 : SoundC Tryz.prog 128 c_impl_within) : SoundC Tryz.prog 171 c_impl_Clock_isPrimary := by
  refine fn_sound tab_ok (gam_cons q0 gam_nil) mixed {} (fn := Tryz.f171) Tryz.func171 (by kernel_rfl) (by kernel_rfl) ?_
  rintro ⟨c0, ⟨⟩⟩ K ⟨r, h, hK⟩
  change impl_Clock_isPrimary c0 = some r at h
  unfold impl_Clock_isPrimary at h
  conv => whnf
  refine vBind h (fun within0 hb0 h => ?_)
  conv => whnf
  refine vIfB h (fun h => ?_) (fun h => ?_)
  · conv => whnf
    refine vBind h (fun within1 hb1 h => ?_)
    conv => whnf
    refine vIfB h (fun h => ?_) (fun h => ?_)
    · conv => whnf
      refine vBind h (fun within2 hb2 h => ?_)
      conv => whnf
      refine vIfB h (fun h => ?_) (fun h => ?_)
      · conv => whnf
        refine vNots ?_
        refine vIfD h (fun h => ?_) (fun h => ?_)
        · conv => whnf
          cases h
          exact hK
        · conv => whnf
          refine vIfD h (fun h => ?_) (fun h => ?_)
          · conv => whnf
            cases h
            exact hK
          · conv => whnf
            cases h
            exact hK
      · conv => whnf
        cases h
        exact hK
    · conv => whnf
      cases h
      exact hK
  · conv => whnf
    cases h
    exact hK
theorem w_impl_IsCell (q3 : SoundC Tryz.prog 173 c_impl_isName) (q2 : SoundC Tryz.prog 192 c_impl_arePins) (q1 : SoundC Tryz.prog 193 c_impl_Cell_areArcs) (q4 : SoundC Tryz.prog 128 c_impl_within) (q0 : SoundC Tryz.prog 194 c_impl_Cell_isOfKind) : SoundC Tryz.prog 164 c_impl_IsCell := by
  refine fn_sound tab_ok (gam_cons q3 (gam_cons q2 (gam_cons q1 (gam_cons q4 (gam_cons q0 gam_nil))))) mixed {} (fn := Tryz.f164) Tryz.func164 (by kernel_rfl) (by kernel_rfl) ?_
  rintro ⟨c0, ⟨⟩⟩ K ⟨r, h, hK⟩
  change impl_IsCell c0 = some r at h
  unfold impl_IsCell at h
  conv => whnf
  refine vBind h (fun isName0 hb0 h => ?_)
  conv => whnf
  refine vIfB h (fun h => ?_) (fun h => ?_)
  · conv => whnf
    refine vBind h (fun arePins0 hb1 h => ?_)
    conv => whnf
    refine vIfB h (fun h => ?_) (fun h => ?_)
    · conv => whnf
      refine vBind h (fun areArcs0 hb2 h => ?_)
      conv => whnf
      refine vIfB h (fun h => ?_) (fun h => ?_)
      · conv => whnf
        refine vBind h (fun within0 hb3 h => ?_)
        conv => whnf
        refine vIfB h (fun h => ?_) (fun h => ?_)
        · conv => whnf
          refine vBind h (fun within1 hb4 h => ?_)
          conv => whnf
          refine vIfB h (fun h => ?_) (fun h => ?_)
          · conv => whnf
            refine vBind h (fun isOfKind0 hb5 h => ?_)
            conv => whnf
            cases h
            exact hK
          · conv => whnf
            cases h
            exact hK
        · conv => whnf
          cases h
          exact hK
      · conv => whnf
        cases h
        exact hK
    · conv => whnf
      cases h
      exact hK
  · conv => whnf
    cases h
    exact hK
theorem w_impl_IsTable (q1 : SoundC Tryz.prog 263 c_impl_isAxis) (q0 : SoundC Tryz.prog 130 c_impl_areWithin) : SoundC Tryz.prog 252 c_impl_IsTable := by
  refine fn_sound tab_ok (gam_cons q1 (gam_cons q0 gam_nil)) mixed {} (fn := Tryz.f252) Tryz.func252 (by kernel_rfl) (by kernel_rfl) ?_
  rintro ⟨t0, ⟨⟩⟩ K ⟨r, h, hK⟩
  change impl_IsTable t0 = some r at h
  unfold impl_IsTable at h
  conv => whnf
  refine vBind h (fun isAxis0 hb0 h => ?_)
  conv => whnf
  refine vIfB h (fun h => ?_) (fun h => ?_)
  · conv => whnf
    refine vBind h (fun isAxis1 hb1 h => ?_)
    conv => whnf
    refine vIfB h (fun h => ?_) (fun h => ?_)
    · conv => whnf
      refine vIfD h (fun h => ?_) (fun h => ?_)
      · conv => whnf
        refine vBind h (fun areWithin0 hb2 h => ?_)
        conv => whnf
        cases h
        exact hK
      · conv => whnf
        cases h
        exact hK
    · conv => whnf
      cases h
      exact hK
  · conv => whnf
    cases h
    exact hK
theorem w_impl_length_impl_Clock : SoundC Tryz.prog 81 c_impl_length_impl_Clock := by
  refine fn_sound tab_ok gam_nil mixed {} (fn := Tryz.f81) Tryz.func81 (by kernel_rfl) (by kernel_rfl) ?_
  rintro ⟨list0, ⟨⟩⟩ K ⟨r, h, hK⟩
  change impl_length_impl_Clock list0 = some r at h
  unfold impl_length_impl_Clock at h
  conv => whnf
  cases h
  exact hK
theorem w_impl_length_impl_place : SoundC Tryz.prog 139 c_impl_length_impl_place := by
  refine fn_sound tab_ok gam_nil mixed {} (fn := Tryz.f139) Tryz.func139 (by kernel_rfl) (by kernel_rfl) ?_
  rintro ⟨list0, ⟨⟩⟩ K ⟨r, h, hK⟩
  change impl_length_impl_place list0 = some r at h
  unfold impl_length_impl_place at h
  conv => whnf
  cases h
  exact hK
theorem w_impl_view_areExternals (q0 : SoundC Tryz.prog 85 c_impl_view_isPlace) (q2 : SoundC Tryz.prog 128 c_impl_within) (q3 : SoundC Tryz.prog 140 c_impl_IsSpan) (q1 : SoundC Tryz.prog 141 c_impl_areSlews) : SoundC Tryz.prog 86 c_impl_view_areExternals := by
  refine fn_sound tab_ok (gam_cons q0 (gam_cons q2 (gam_cons q3 (gam_cons q1 gam_nil)))) mixed { loops := [(0, [.reg 13 (.dat (.int .i64))])], draws := [(4, [0, 0, 2, 7, 15, 31, 63, 127, 255, 511, 63, 1087, 4095, 8191, 16383, 32767, 65535, 131071, 262143, 524287, 1048575, 2097151, 262143, 4456447, 16777215, 33554431, 67108863, 262143, 268435455, 536870911, 1073741823, 2147483647, 4294967295, 8589934591, 17179869183, 17179869183, 51539607551, 137438953471, 274877906943, 549755813887, 17179869183, 1116691496959, 4398046511103, 8796093022207, 17592186044415], .op 0 (.op 1 (.op 2 (.alt 3 (.op 4 (.op 5 (.op 6 (.op 7 (.op 8 (.op 9 (.op 10 (.op 11 (.op 12 (.op 13 (.op 14 (.op 15 (.op 16 (.op 17 (.op 18 (.op 19 (.op 20 (.op 21 (.op 22 (.op 23 (.op 24 (.op 25 (.op 26 (.op 27 (.op 28 (.op 29 (.op 30 (.op 31 (.op 32 (.op 33 (.op 34 (.op 35 (.op 36 (.op 37 (.op 38 (.op 39 (.op 40 (.op 41 (.op 42 (.op 43 (.op 44 (.done)))))))))))))))))))))))))))))))))))))))))) (.done)))))] } (fn := Tryz.f86) Tryz.func86 (by kernel_rfl) (by kernel_rfl) ?_
  rintro ⟨a0, a1, a2, a3, ⟨⟩⟩ K ⟨r, h, hK⟩
  change impl_view_areExternals a0 a1 a2 a3 = some r at h
  unfold impl_view_areExternals at h
  conv => whnf
  refine vLoop h ?_
  rintro I0 μ0 ⟨v0, ⟨⟩⟩ zs0 h hI0 hR0
  change impl_view_areExternals_loop0 a0 a1 a2 a3 v0 = some zs0 at h
  unfold impl_view_areExternals_loop0 at h
  conv => whnf
  refine vIfD h (fun h => ?_) (fun h => ?_)
  · conv => whnf
    refine vAt h (fun x0 he1a he1b he1x h => ?_)
    conv => whnf
    refine ⟨by kernel_rfl, ?_⟩
    conv => whnf
    refine vBind h (fun isPlace0 hb2 h => ?_)
    conv => whnf
    refine vNot ?_
    refine vIfB h (fun h => ?_) (fun h => ?_)
    · conv => whnf
      refine vAt h (fun x1 he3a he3b he3x h => ?_)
      conv => whnf
      refine vIfDs h (fun h => ?_) (fun h => ?_)
      · conv => whnf
        cases h
        obtain rfl := hR0 _ rfl
        exact hK
      · conv => whnf
        refine ⟨he3a, he3b, vAgain he3x ?_⟩
        conv => whnf
        refine vNot ?_
        refine vIfB h (fun h => ?_) (fun h => ?_)
        · conv => whnf
          refine vIfD h (fun h => ?_) (fun h => ?_)
          · conv => whnf
            refine vAt h (fun x2 he4a he4b he4x h => ?_)
            conv => whnf
            refine vIfD h (fun h => ?_) (fun h => ?_)
            · conv => whnf
              cases h
              obtain rfl := hR0 _ rfl
              exact hK
            · conv => whnf
              refine vBind h (fun within0 hb5 h => ?_)
              conv => whnf
              refine vNot ?_
              refine vIfB h (fun h => ?_) (fun h => ?_)
              · conv => whnf
                refine vBind h (fun IsSpan0 hb6 h => ?_)
                conv => whnf
                refine vNot ?_
                refine vIfB h (fun h => ?_) (fun h => ?_)
                · conv => whnf
                  refine vIfDs h (fun h => ?_) (fun h => ?_)
                  · conv => whnf
                    cases h
                    obtain rfl := hR0 _ rfl
                    exact hK
                  · conv => whnf
                    refine vIfD h (fun h => ?_) (fun h => ?_)
                    · conv => whnf
                      cases h
                      obtain rfl := hR0 _ rfl
                      exact hK
                    · conv => whnf
                      refine vIfB h (fun h => ?_) (fun h => ?_)
                      · conv => whnf
                        refine vBind h (fun areSlews0 hb7 h => ?_)
                        conv => whnf
                        refine vNot ?_
                        refine vIfB h (fun h => ?_) (fun h => ?_)
                        · conv => whnf
                          refine vNots ?_
                          refine vIfB h (fun h => ?_) (fun h => ?_)
                          · conv => whnf
                            cases h
                            exact ⟨⟨rfl, rfl⟩, hI0 _ rfl⟩
                          · conv => whnf
                            refine vNots ?_
                            refine vIfB h (fun h => ?_) (fun h => ?_)
                            · conv => whnf
                              cases h
                              exact ⟨⟨rfl, rfl⟩, hI0 _ rfl⟩
                            · conv => whnf
                              cases h
                              obtain rfl := hR0 _ rfl
                              exact hK
                        · conv => whnf
                          cases h
                          obtain rfl := hR0 _ rfl
                          exact hK
                      · conv => whnf
                        refine vNots ?_
                        refine vIfB h (fun h => ?_) (fun h => ?_)
                        · conv => whnf
                          cases h
                          exact ⟨⟨rfl, rfl⟩, hI0 _ rfl⟩
                        · conv => whnf
                          refine vNots ?_
                          refine vIfB h (fun h => ?_) (fun h => ?_)
                          · conv => whnf
                            cases h
                            exact ⟨⟨rfl, rfl⟩, hI0 _ rfl⟩
                          · conv => whnf
                            cases h
                            obtain rfl := hR0 _ rfl
                            exact hK
                · conv => whnf
                  cases h
                  obtain rfl := hR0 _ rfl
                  exact hK
              · conv => whnf
                cases h
                obtain rfl := hR0 _ rfl
                exact hK
          · conv => whnf
            refine vBind h (fun within0 hb8 h => ?_)
            conv => whnf
            refine vNot ?_
            refine vIfB h (fun h => ?_) (fun h => ?_)
            · conv => whnf
              refine vBind h (fun IsSpan0 hb9 h => ?_)
              conv => whnf
              refine vNot ?_
              refine vIfB h (fun h => ?_) (fun h => ?_)
              · conv => whnf
                refine vIfDs h (fun h => ?_) (fun h => ?_)
                · conv => whnf
                  cases h
                  obtain rfl := hR0 _ rfl
                  exact hK
                · conv => whnf
                  refine vIfD h (fun h => ?_) (fun h => ?_)
                  · conv => whnf
                    cases h
                    obtain rfl := hR0 _ rfl
                    exact hK
                  · conv => whnf
                    refine vIfB h (fun h => ?_) (fun h => ?_)
                    · conv => whnf
                      refine vBind h (fun areSlews0 hb10 h => ?_)
                      conv => whnf
                      refine vNot ?_
                      refine vIfB h (fun h => ?_) (fun h => ?_)
                      · conv => whnf
                        refine vNots ?_
                        refine vIfB h (fun h => ?_) (fun h => ?_)
                        · conv => whnf
                          cases h
                          exact ⟨⟨rfl, rfl⟩, hI0 _ rfl⟩
                        · conv => whnf
                          refine vNots ?_
                          refine vIfB h (fun h => ?_) (fun h => ?_)
                          · conv => whnf
                            cases h
                            exact ⟨⟨rfl, rfl⟩, hI0 _ rfl⟩
                          · conv => whnf
                            cases h
                            obtain rfl := hR0 _ rfl
                            exact hK
                      · conv => whnf
                        cases h
                        obtain rfl := hR0 _ rfl
                        exact hK
                    · conv => whnf
                      refine vNots ?_
                      refine vIfB h (fun h => ?_) (fun h => ?_)
                      · conv => whnf
                        cases h
                        exact ⟨⟨rfl, rfl⟩, hI0 _ rfl⟩
                      · conv => whnf
                        refine vNots ?_
                        refine vIfB h (fun h => ?_) (fun h => ?_)
                        · conv => whnf
                          cases h
                          exact ⟨⟨rfl, rfl⟩, hI0 _ rfl⟩
                        · conv => whnf
                          cases h
                          obtain rfl := hR0 _ rfl
                          exact hK
              · conv => whnf
                cases h
                obtain rfl := hR0 _ rfl
                exact hK
            · conv => whnf
              cases h
              obtain rfl := hR0 _ rfl
              exact hK
        · conv => whnf
          cases h
          obtain rfl := hR0 _ rfl
          exact hK
    · conv => whnf
      cases h
      obtain rfl := hR0 _ rfl
      exact hK
  · conv => whnf
    cases h
    obtain rfl := hR0 _ rfl
    exact hK
theorem w_impl_view_isSetup_c1 (q0 : SoundC Tryz.prog 85 c_impl_view_isPlace) : SoundC Tryz.prog 84 c_impl_view_isSetup_c1 := by
  refine fn_sound tab_ok (gam_cons q0 gam_nil) mixed {} (fn := Tryz.f84) Tryz.func84 (by kernel_rfl) (by kernel_rfl) ?_
  rintro ⟨c0, a0, ⟨⟩⟩ K ⟨r, h, hK⟩
  change impl_view_isSetup_c1 c0 a0 = some r at h
  unfold impl_view_isSetup_c1 at h
  conv => whnf
  refine vBind h (fun isPlace0 hb0 h => ?_)
  conv => whnf
  cases h
  exact hK
theorem w_laws_eqArc (q0 : SoundC Tryz.prog 222 c_laws_eqTableS) : SoundC Tryz.prog 200 c_laws_eqArc := by
  refine fn_sound tab_ok (gam_cons q0 gam_nil) mixed {} (fn := Tryz.f200) Tryz.func200 (by kernel_rfl) (by kernel_rfl) ?_
  rintro ⟨a0, b0, ⟨⟩⟩ K ⟨r, h, hK⟩
  change laws_eqArc a0 b0 = some r at h
  unfold laws_eqArc at h
  conv => whnf
  refine vNots ?_
  refine vIfD h (fun h => ?_) (fun h => ?_)
  · conv => whnf
    refine vNots ?_
    refine vIfD h (fun h => ?_) (fun h => ?_)
    · conv => whnf
      refine vNots ?_
      refine vIfD h (fun h => ?_) (fun h => ?_)
      · conv => whnf
        refine vNots ?_
        refine vIfD h (fun h => ?_) (fun h => ?_)
        · conv => whnf
          refine vBind h (fun eqTableS0 hb0 h => ?_)
          conv => whnf
          refine vNots ?_
          refine vIfB h (fun h => ?_) (fun h => ?_)
          · conv => whnf
            refine vBind h (fun eqTableS1 hb1 h => ?_)
            conv => whnf
            refine vNots ?_
            refine vIfB h (fun h => ?_) (fun h => ?_)
            · conv => whnf
              cases h
              exact hK
            · conv => whnf
              cases h
              exact hK
          · conv => whnf
            cases h
            exact hK
        · conv => whnf
          cases h
          exact hK
      · conv => whnf
        cases h
        exact hK
    · conv => whnf
      cases h
      exact hK
  · conv => whnf
    cases h
    exact hK
theorem w_laws_eqDesign (q0 : SoundC Tryz.prog 92 c_laws_eqInstanceS) (q1 : SoundC Tryz.prog 93 c_laws_eqStringS) (q2 : SoundC Tryz.prog 94 c_laws_eqPortS) : SoundC Tryz.prog 39 c_laws_eqDesign := by
  refine fn_sound tab_ok (gam_cons q0 (gam_cons q1 (gam_cons q2 gam_nil))) mixed {} (fn := Tryz.f39) Tryz.func39 (by kernel_rfl) (by kernel_rfl) ?_
  rintro ⟨a0, b0, ⟨⟩⟩ K ⟨r, h, hK⟩
  change laws_eqDesign a0 b0 = some r at h
  unfold laws_eqDesign at h
  conv => whnf
  refine vBind h (fun eqInstanceS0 hb0 h => ?_)
  conv => whnf
  refine vNots ?_
  refine vIfB h (fun h => ?_) (fun h => ?_)
  · conv => whnf
    refine vBind h (fun eqStringS0 hb1 h => ?_)
    conv => whnf
    refine vNots ?_
    refine vIfB h (fun h => ?_) (fun h => ?_)
    · conv => whnf
      refine vBind h (fun eqPortS0 hb2 h => ?_)
      conv => whnf
      refine vNots ?_
      refine vIfB h (fun h => ?_) (fun h => ?_)
      · conv => whnf
        cases h
        exact hK
      · conv => whnf
        cases h
        exact hK
    · conv => whnf
      cases h
      exact hK
  · conv => whnf
    cases h
    exact hK
theorem w_laws_eqLibrary (q0 : SoundC Tryz.prog 91 c_laws_eqCellS) : SoundC Tryz.prog 38 c_laws_eqLibrary := by
  refine fn_sound tab_ok (gam_cons q0 gam_nil) mixed {} (fn := Tryz.f38) Tryz.func38 (by kernel_rfl) (by kernel_rfl) ?_
  rintro ⟨a0, b0, ⟨⟩⟩ K ⟨r, h, hK⟩
  change laws_eqLibrary a0 b0 = some r at h
  unfold laws_eqLibrary at h
  conv => whnf
  refine vBind h (fun eqCellS0 hb0 h => ?_)
  conv => whnf
  refine vNots ?_
  refine vIfB h (fun h => ?_) (fun h => ?_)
  · conv => whnf
    cases h
    exact hK
  · conv => whnf
    cases h
    exact hK
theorem w_laws_eqPort : SoundC Tryz.prog 149 c_laws_eqPort := by
  refine fn_sound tab_ok gam_nil mixed {} (fn := Tryz.f149) Tryz.func149 (by kernel_rfl) (by kernel_rfl) ?_
  rintro ⟨a0, b0, ⟨⟩⟩ K ⟨r, h, hK⟩
  change laws_eqPort a0 b0 = some r at h
  unfold laws_eqPort at h
  conv => whnf
  refine vNots ?_
  refine vIfD h (fun h => ?_) (fun h => ?_)
  · conv => whnf
    refine vNots ?_
    refine vIfD h (fun h => ?_) (fun h => ?_)
    · conv => whnf
      refine vNots ?_
      refine vIfD h (fun h => ?_) (fun h => ?_)
      · conv => whnf
        cases h
        exact hK
      · conv => whnf
        cases h
        exact hK
    · conv => whnf
      cases h
      exact hK
  · conv => whnf
    cases h
    exact hK
theorem w_laws_eqPortS (q0 : SoundC Tryz.prog 149 c_laws_eqPort) : SoundC Tryz.prog 94 c_laws_eqPortS := by
  refine fn_sound tab_ok (gam_cons q0 gam_nil) mixed { loops := [(0, [.reg 5 (.dat (.int .i64))])], draws := [(6, [0, 0, 3, 7, 0, 0, 48, 112, 255, 511], .op 0 (.op 1 (.op 2 (.op 3 (.op 4 (.op 5 (.op 6 (.op 7 (.alt 8 (.op 9 (.done)) (.done))))))))))] } (fn := Tryz.f94) Tryz.func94 (by kernel_rfl) (by kernel_rfl) ?_
  rintro ⟨a0, b0, ⟨⟩⟩ K ⟨r, h, hK⟩
  change laws_eqPortS a0 b0 = some r at h
  unfold laws_eqPortS at h
  conv => whnf
  refine vNots ?_
  refine vIfD h (fun h => ?_) (fun h => ?_)
  · conv => whnf
    refine vLoop h ?_
    rintro I0 μ0 ⟨i0, ⟨⟩⟩ zs0 h hI0 hR0
    change laws_eqPortS_loop0 a0 b0 i0 = some zs0 at h
    unfold laws_eqPortS_loop0 at h
    conv => whnf
    refine vIfD h (fun h => ?_) (fun h => ?_)
    · conv => whnf
      refine ⟨by kernel_rfl, ?_⟩
      conv => whnf
      refine vAt h (fun x0 he1a he1b he1x h => ?_)
      conv => whnf
      refine vAt h (fun x1 he2a he2b he2x h => ?_)
      conv => whnf
      refine vBind h (fun eqPort0 hb3 h => ?_)
      conv => whnf
      refine vNots ?_
      refine vIfB h (fun h => ?_) (fun h => ?_)
      · conv => whnf
        cases h
        exact ⟨⟨rfl, rfl⟩, hI0 _ rfl⟩
      · conv => whnf
        cases h
        obtain rfl := hR0 _ rfl
        exact hK
    · conv => whnf
      cases h
      obtain rfl := hR0 _ rfl
      exact hK
  · conv => whnf
    cases h
    exact hK
theorem w_laws_eqStringS : SoundC Tryz.prog 93 c_laws_eqStringS := by
  refine fn_sound tab_ok gam_nil mixed { loops := [(0, [.reg 5 (.dat (.int .i64))])], draws := [(6, [0, 0, 3, 7, 0, 0, 48, 112, 255], .op 0 (.op 1 (.op 2 (.op 3 (.op 4 (.op 5 (.op 6 (.op 7 (.op 8 (.done))))))))))] } (fn := Tryz.f93) Tryz.func93 (by kernel_rfl) (by kernel_rfl) ?_
  rintro ⟨a0, b0, ⟨⟩⟩ K ⟨r, h, hK⟩
  change laws_eqStringS a0 b0 = some r at h
  unfold laws_eqStringS at h
  conv => whnf
  refine vNots ?_
  refine vIfD h (fun h => ?_) (fun h => ?_)
  · conv => whnf
    refine vLoop h ?_
    rintro I0 μ0 ⟨i0, ⟨⟩⟩ zs0 h hI0 hR0
    change laws_eqStringS_loop0 a0 b0 i0 = some zs0 at h
    unfold laws_eqStringS_loop0 at h
    conv => whnf
    refine vIfD h (fun h => ?_) (fun h => ?_)
    · conv => whnf
      refine ⟨by kernel_rfl, ?_⟩
      conv => whnf
      refine vAt h (fun x0 he1a he1b he1x h => ?_)
      conv => whnf
      refine vAt h (fun x1 he2a he2b he2x h => ?_)
      conv => whnf
      refine vNots ?_
      refine vIfD h (fun h => ?_) (fun h => ?_)
      · conv => whnf
        cases h
        exact ⟨⟨rfl, rfl⟩, hI0 _ rfl⟩
      · conv => whnf
        cases h
        obtain rfl := hR0 _ rfl
        exact hK
    · conv => whnf
      cases h
      obtain rfl := hR0 _ rfl
      exact hK
  · conv => whnf
    cases h
    exact hK
theorem w_laws_eqWire (q0 : SoundC Tryz.prog 150 c_laws_eqInt64S) : SoundC Tryz.prog 95 c_laws_eqWire := by
  refine fn_sound tab_ok (gam_cons q0 gam_nil) mixed {} (fn := Tryz.f95) Tryz.func95 (by kernel_rfl) (by kernel_rfl) ?_
  rintro ⟨a0, b0, ⟨⟩⟩ K ⟨r, h, hK⟩
  change laws_eqWire a0 b0 = some r at h
  unfold laws_eqWire at h
  conv => whnf
  refine vBind h (fun eqInt64S0 hb0 h => ?_)
  conv => whnf
  refine vNots ?_
  refine vIfB h (fun h => ?_) (fun h => ?_)
  · conv => whnf
    refine vBind h (fun eqInt64S1 hb1 h => ?_)
    conv => whnf
    refine vNots ?_
    refine vIfB h (fun h => ?_) (fun h => ?_)
    · conv => whnf
      refine vBind h (fun eqInt64S2 hb2 h => ?_)
      conv => whnf
      refine vNots ?_
      refine vIfB h (fun h => ?_) (fun h => ?_)
      · conv => whnf
        refine vBind h (fun eqInt64S3 hb3 h => ?_)
        conv => whnf
        refine vNots ?_
        refine vIfB h (fun h => ?_) (fun h => ?_)
        · conv => whnf
          cases h
          exact hK
        · conv => whnf
          cases h
          exact hK
      · conv => whnf
        cases h
        exact hK
    · conv => whnf
      cases h
      exact hK
  · conv => whnf
    cases h
    exact hK
theorem w_laws_szArcS (q0 : SoundC Tryz.prog 186 c_laws_szArc) : SoundC Tryz.prog 160 c_laws_szArcS := by
  refine fn_sound tab_ok (gam_cons q0 gam_nil) mixed { loops := [(0, [.reg 1 (.dat (.int .i64)), .reg 5 (.dat (.int .i64))])] } (fn := Tryz.f160) Tryz.func160 (by kernel_rfl) (by kernel_rfl) ?_
  rintro ⟨a0, left0, ⟨⟩⟩ K ⟨r, h, hK⟩
  change laws_szArcS a0 left0 = some r at h
  unfold laws_szArcS at h
  conv => whnf
  refine vIfD h (fun h => ?_) (fun h => ?_)
  · conv => whnf
    cases h
    exact hK
  · conv => whnf
    refine vLoop h ?_
    rintro I0 μ0 ⟨left1, i0, ⟨⟩⟩ zs0 h hI0 hR0
    change laws_szArcS_loop0 a0 left1 i0 = some zs0 at h
    unfold laws_szArcS_loop0 at h
    conv => whnf
    refine vIfD h (fun h => ?_) (fun h => ?_)
    · conv => whnf
      refine vAt h (fun x0 he1a he1b he1x h => ?_)
      conv => whnf
      refine vBind h (fun szArc0 hb2 h => ?_)
      conv => whnf
      refine vIfD h (fun h => ?_) (fun h => ?_)
      · conv => whnf
        cases h
        obtain rfl := hR0 _ rfl
        exact hK
      · conv => whnf
        cases h
        exact ⟨⟨rfl, rfl⟩, hI0 _ rfl⟩
    · conv => whnf
      cases h
      obtain rfl := hR0 _ rfl
      exact hK
theorem w_laws_szException (q0 : SoundC Tryz.prog 111 c_laws_szInt64S) : SoundC Tryz.prog 53 c_laws_szException := by
  refine fn_sound tab_ok (gam_cons q0 gam_nil) mixed {} (fn := Tryz.f53) Tryz.func53 (by kernel_rfl) (by kernel_rfl) ?_
  rintro ⟨a0, left0, ⟨⟩⟩ K ⟨r, h, hK⟩
  change laws_szException a0 left0 = some r at h
  unfold laws_szException at h
  conv => whnf
  refine vBind h (fun szInt64S0 hb0 h => ?_)
  conv => whnf
  refine vIfD h (fun h => ?_) (fun h => ?_)
  · conv => whnf
    cases h
    exact hK
  · conv => whnf
    refine vBind h (fun szInt64S1 hb1 h => ?_)
    conv => whnf
    refine vIfD h (fun h => ?_) (fun h => ?_)
    · conv => whnf
      cases h
      exact hK
    · conv => whnf
      refine vBind h (fun szInt64S2 hb2 h => ?_)
      conv => whnf
      refine vIfD h (fun h => ?_) (fun h => ?_)
      · conv => whnf
        cases h
        exact hK
      · conv => whnf
        cases h
        exact hK
theorem w_laws_szExternalS : SoundC Tryz.prog 19 c_laws_szExternalS := by
  refine fn_sound tab_ok gam_nil mixed {} (fn := Tryz.f19) Tryz.func19 (by kernel_rfl) (by kernel_rfl) ?_
  rintro ⟨a0, left0, ⟨⟩⟩ K ⟨r, h, hK⟩
  change laws_szExternalS a0 left0 = some r at h
  unfold laws_szExternalS at h
  conv => whnf
  refine vIfD h (fun h => ?_) (fun h => ?_)
  · conv => whnf
    cases h
    exact hK
  · conv => whnf
    cases h
    exact hK
theorem w_laws_szStringS : SoundC Tryz.prog 49 c_laws_szStringS := by
  refine fn_sound tab_ok gam_nil mixed { loops := [(0, [.reg 1 (.dat (.int .i64)), .reg 5 (.dat (.int .i64))])] } (fn := Tryz.f49) Tryz.func49 (by kernel_rfl) (by kernel_rfl) ?_
  rintro ⟨a0, left0, ⟨⟩⟩ K ⟨r, h, hK⟩
  change laws_szStringS a0 left0 = some r at h
  unfold laws_szStringS at h
  conv => whnf
  refine vIfD h (fun h => ?_) (fun h => ?_)
  · conv => whnf
    cases h
    exact hK
  · conv => whnf
    refine vLoop h ?_
    rintro I0 μ0 ⟨left1, i0, ⟨⟩⟩ zs0 h hI0 hR0
    change laws_szStringS_loop0 a0 left1 i0 = some zs0 at h
    unfold laws_szStringS_loop0 at h
    conv => whnf
    refine vIfD h (fun h => ?_) (fun h => ?_)
    · conv => whnf
      refine vAt h (fun x0 he1a he1b he1x h => ?_)
      conv => whnf
      refine vIfD h (fun h => ?_) (fun h => ?_)
      · conv => whnf
        cases h
        obtain rfl := hR0 _ rfl
        exact hK
      · conv => whnf
        cases h
        exact ⟨⟨rfl, rfl⟩, hI0 _ rfl⟩
    · conv => whnf
      cases h
      obtain rfl := hR0 _ rfl
      exact hK
theorem w_laws_toExternalS (q0 : SoundC Tryz.prog 71 c_laws_toExternal) : SoundC Tryz.prog 32 c_laws_toExternalS := by
  refine fn_sound tab_ok (gam_cons q0 gam_nil) mixed { loops := [(0, [.reg 4 (.dat (.int .i64)), .ent 0 (nat_lit 136) (.flat ti54.ety)])] } (fn := Tryz.f32) Tryz.func32 (by kernel_rfl) (by kernel_rfl) ?_
  rintro ⟨a0, ⟨⟩⟩ K ⟨r, h, hK⟩
  change laws_toExternalS a0 = some r at h
  unfold laws_toExternalS at h
  conv => whnf
  refine vPre h (fun hp0 h => ?_)
  conv => whnf
  refine vPre h (fun hp1 h => ?_)
  conv => whnf
  refine vPre h (fun hp2 h => ?_)
  conv => whnf
  refine vPre h (fun hp3 h => ?_)
  conv => whnf
  refine vLoop h ?_
  rintro I4 μ4 ⟨i0, l0, ⟨⟩⟩ zs4 h hI4 hR4
  change laws_toExternalS_loop0 a0 i0 l0 = some zs4 at h
  unfold laws_toExternalS_loop0 at h
  conv => whnf
  refine vIfD h (fun h => ?_) (fun h => ?_)
  · conv => whnf
    refine vAt h (fun x0 he5a he5b he5x h => ?_)
    conv => whnf
    refine vBind h (fun toExternal0 hb6 h => ?_)
    conv => whnf
    refine vAt h (fun x1 he7a he7b he7x h => ?_)
    conv => whnf
    refine ⟨by kernel_rfl, ?_⟩
    conv => whnf
    refine ⟨by decide, ?_⟩
    conv => whnf
    refine ⟨he7a, he7b, vAgain he7x ?_⟩
    conv => whnf
    cases h
    exact ⟨⟨rfl, rfl⟩, hI4 _ rfl⟩
  · conv => whnf
    cases h
    obtain rfl := hR4 _ rfl
    exact hK
theorem w_laws_toInstance (q0 : SoundC Tryz.prog 120 c_laws_toInt64S) : SoundC Tryz.prog 118 c_laws_toInstance := by
  refine fn_sound tab_ok (gam_cons q0 gam_nil) mixed {} (fn := Tryz.f118) Tryz.func118 (by kernel_rfl) (by kernel_rfl) ?_
  rintro ⟨a0, ⟨⟩⟩ K ⟨r, h, hK⟩
  change laws_toInstance a0 = some r at h
  unfold laws_toInstance at h
  conv => whnf
  refine vBind h (fun toInt64S0 hb0 h => ?_)
  conv => whnf
  cases h
  exact hK
theorem w_slices_ContainsFunc_Simpl_Exception_impl_Exception_at_impl_view_isSetup_c2 (q0 : SoundC Tryz.prog 142 c_slices_IndexFunc_Simpl_Exception_impl_Exception_at_impl_view_isSetup_c2) : SoundC Tryz.prog 87 c_slices_ContainsFunc_Simpl_Exception_impl_Exception_at_impl_view_isSetup_c2 := by
  refine fn_sound tab_ok (gam_cons q0 gam_nil) mixed {} (fn := Tryz.f87) Tryz.func87 (by kernel_rfl) (by kernel_rfl) ?_
  rintro ⟨s0, f0, ⟨⟩⟩ K ⟨r, h, hK⟩
  change slices_ContainsFunc_Simpl_Exception_impl_Exception_at_impl_view_isSetup_c2 s0 f0 = some r at h
  unfold slices_ContainsFunc_Simpl_Exception_impl_Exception_at_impl_view_isSetup_c2 at h
  conv => whnf
  refine vBind h (fun c2_0 hb0 h => ?_)
  conv => whnf
  cases h
  exact hK
theorem w_slices_ContainsFunc_Sint64_int64_at_impl_Design_isInstance_c1 (q0 : SoundC Tryz.prog 195 c_slices_IndexFunc_Sint64_int64_at_impl_Design_isInstance_c1) : SoundC Tryz.prog 166 c_slices_ContainsFunc_Sint64_int64_at_impl_Design_isInstance_c1 := by
  refine fn_sound tab_ok (gam_cons q0 gam_nil) mixed {} (fn := Tryz.f166) Tryz.func166 (by kernel_rfl) (by kernel_rfl) ?_
  rintro ⟨s0, f0, ⟨⟩⟩ K ⟨r, h, hK⟩
  change slices_ContainsFunc_Sint64_int64_at_impl_Design_isInstance_c1 s0 f0 = some r at h
  unfold slices_ContainsFunc_Sint64_int64_at_impl_Design_isInstance_c1 at h
  conv => whnf
  refine vBind h (fun c1_0 hb0 h => ?_)
  conv => whnf
  cases h
  exact hK
theorem w_slices_ContainsFunc_Sint_int_at_impl_IsDesign_c1 (q0 : SoundC Tryz.prog 169 c_slices_IndexFunc_Sint_int_at_impl_IsDesign_c1) : SoundC Tryz.prog 126 c_slices_ContainsFunc_Sint_int_at_impl_IsDesign_c1 := by
  refine fn_sound tab_ok (gam_cons q0 gam_nil) mixed {} (fn := Tryz.f126) Tryz.func126 (by kernel_rfl) (by kernel_rfl) ?_
  rintro ⟨s0, f0, ⟨⟩⟩ K ⟨r, h, hK⟩
  change slices_ContainsFunc_Sint_int_at_impl_IsDesign_c1 s0 f0 = some r at h
  unfold slices_ContainsFunc_Sint_int_at_impl_IsDesign_c1 at h
  conv => whnf
  refine vBind h (fun c1_0 hb0 h => ?_)
  conv => whnf
  cases h
  exact hK
theorem w_slices_IndexFunc_Simpl_Clock_impl_Clock_at_impl_view_isSetup_c1 (q0 : SoundC Tryz.prog 84 c_impl_view_isSetup_c1) : SoundC Tryz.prog 138 c_slices_IndexFunc_Simpl_Clock_impl_Clock_at_impl_view_isSetup_c1 := by
  refine fn_sound tab_ok (gam_cons q0 gam_nil) mixed { loops := [(0, [.reg 8 (.dat (.int .i64))])] } (fn := Tryz.f138) Tryz.func138 (by kernel_rfl) (by kernel_rfl) ?_
  rintro ⟨s0, f0, ⟨⟩⟩ K ⟨r, h, hK⟩
  change slices_IndexFunc_Simpl_Clock_impl_Clock_at_impl_view_isSetup_c1 s0 f0 = some r at h
  unfold slices_IndexFunc_Simpl_Clock_impl_Clock_at_impl_view_isSetup_c1 at h
  conv => whnf
  refine vLoop h ?_
  rintro I0 μ0 ⟨v0, ⟨⟩⟩ zs0 h hI0 hR0
  change slices_IndexFunc_Simpl_Clock_impl_Clock_at_impl_view_isSetup_c1_loop0 s0 f0 v0 = some zs0 at h
  unfold slices_IndexFunc_Simpl_Clock_impl_Clock_at_impl_view_isSetup_c1_loop0 at h
  conv => whnf
  refine vIfD h (fun h => ?_) (fun h => ?_)
  · conv => whnf
    refine vAt h (fun x0 he1a he1b he1x h => ?_)
    conv => whnf
    refine vBind h (fun c1_0 hb2 h => ?_)
    conv => whnf
    refine vIfB h (fun h => ?_) (fun h => ?_)
    · conv => whnf
      cases h
      obtain rfl := hR0 _ rfl
      exact hK
    · conv => whnf
      cases h
      exact ⟨⟨rfl, rfl⟩, hI0 _ rfl⟩
  · conv => whnf
    cases h
    obtain rfl := hR0 _ rfl
    exact hK
theorem w_spec_IsException (q1 : SoundC Tryz.prog 22 c_spec_IsBlock) (q0 : SoundC Tryz.prog 63 c_spec_l22Places) (q2 : SoundC Tryz.prog 60 c_spec_l01In) : SoundC Tryz.prog 26 c_spec_IsException := by
  refine fn_sound tab_ok (gam_cons q1 (gam_cons q0 (gam_cons q2 gam_nil))) mixed {} (fn := Tryz.f26) Tryz.func26 (by kernel_rfl) (by kernel_rfl) ?_
  rintro ⟨b0, e0, ⟨⟩⟩ K ⟨r, h, hK⟩
  change spec_IsException b0 e0 = some r at h
  unfold spec_IsException at h
  conv => whnf
  refine vBind h (fun IsBlock0 hb0 h => ?_)
  conv => whnf
  refine vNot ?_
  refine vIfB h (fun h => ?_) (fun h => ?_)
  · conv => whnf
    refine vBind h (fun l22Places0 hb1 h => ?_)
    conv => whnf
    refine vNot ?_
    refine vIfB h (fun h => ?_) (fun h => ?_)
    · conv => whnf
      refine vBind h (fun l22Places1 hb2 h => ?_)
      conv => whnf
      refine vNot ?_
      refine vIfB h (fun h => ?_) (fun h => ?_)
      · conv => whnf
        refine vBind h (fun l22Places2 hb3 h => ?_)
        conv => whnf
        refine vNots ?_
        refine vIfB h (fun h => ?_) (fun h => ?_)
        · conv => whnf
          refine vIfD h (fun h => ?_) (fun h => ?_)
          · conv => whnf
            cases h
            exact hK
          · conv => whnf
            refine vIfD h (fun h => ?_) (fun h => ?_)
            · conv => whnf
              refine vBind h (fun l01In0 hb4 h => ?_)
              conv => whnf
              cases h
              exact hK
            · conv => whnf
              refine vIfD h (fun h => ?_) (fun h => ?_)
              · conv => whnf
                refine vIfD h (fun h => ?_) (fun h => ?_)
                · conv => whnf
                  refine vBind h (fun l01In0 hb5 h => ?_)
                  conv => whnf
                  cases h
                  exact hK
                · conv => whnf
                  cases h
                  exact hK
              · conv => whnf
                refine vIfD h (fun h => ?_) (fun h => ?_)
                · conv => whnf
                  refine vBind h (fun l01In0 hb6 h => ?_)
                  conv => whnf
                  cases h
                  exact hK
                · conv => whnf
                  cases h
                  exact hK
        · conv => whnf
          cases h
          exact hK
      · conv => whnf
        cases h
        exact hK
    · conv => whnf
      cases h
      exact hK
  · conv => whnf
    cases h
    exact hK
theorem w_spec_IsSetup (q5 : SoundC Tryz.prog 22 c_spec_IsBlock) (q4 : SoundC Tryz.prog 23 c_spec_IsClocks) (q2 : SoundC Tryz.prog 24 c_spec_l31Corners) (q3 : SoundC Tryz.prog 25 c_spec_l05Places) (q1 : SoundC Tryz.prog 26 c_spec_IsException) (q0 : SoundC Tryz.prog 27 c_spec_l31Externals) : SoundC Tryz.prog 7 c_spec_IsSetup := by
  refine fn_sound tab_ok (gam_cons q5 (gam_cons q4 (gam_cons q2 (gam_cons q3 (gam_cons q1 (gam_cons q0 gam_nil)))))) mixed { loops := [(0, [.reg 5 (.dat (.int .i64))]), (2, [.reg 6 (.dat (.int .i64))])], draws := [(6, [0, 1, 0, 7, 15, 31, 0, 64, 192, 448, 1023], .op 0 (.op 1 (.op 2 (.op 3 (.op 4 (.op 5 (.op 6 (.op 7 (.alt 8 (.op 9 (.op 10 (.done))) (.done)))))))))), (11, [0, 0, 2, 0, 14, 30, 63, 127], .op 0 (.op 1 (.op 2 (.op 3 (.op 4 (.op 5 (.alt 6 (.op 7 (.done)) (.done))))))))] } (fn := Tryz.f7) Tryz.func7 (by kernel_rfl) (by kernel_rfl) ?_
  rintro ⟨a0, a1, ⟨⟩⟩ K ⟨r, h, hK⟩
  change spec_IsSetup a0 a1 = some r at h
  unfold spec_IsSetup at h
  conv => whnf
  refine vBind h (fun IsBlock0 hb0 h => ?_)
  conv => whnf
  refine vNot ?_
  refine vIfB h (fun h => ?_) (fun h => ?_)
  · conv => whnf
    refine vBind h (fun IsClocks0 hb1 h => ?_)
    conv => whnf
    refine vNot ?_
    refine vIfB h (fun h => ?_) (fun h => ?_)
    · conv => whnf
      refine vIfDs h (fun h => ?_) (fun h => ?_)
      · conv => whnf
        cases h
        exact hK
      · conv => whnf
        refine vBind h (fun l31Corners0 hb2 h => ?_)
        conv => whnf
        refine vNots ?_
        refine vIfB h (fun h => ?_) (fun h => ?_)
        · conv => whnf
          refine vLoop h ?_
          rintro I3 μ3 ⟨v0, ⟨⟩⟩ zs3 h hI3 hR3
          change spec_IsSetup_loop1 a0 a1 v0 = some zs3 at h
          unfold spec_IsSetup_loop1 at h
          conv => whnf
          refine vIfD h (fun h => ?_) (fun h => ?_)
          · conv => whnf
            refine ⟨by kernel_rfl, ?_⟩
            conv => whnf
            refine vAt h (fun x0 he4a he4b he4x h => ?_)
            conv => whnf
            refine vBind h (fun l05Places0 hb5 h => ?_)
            conv => whnf
            refine vIfD h (fun h => ?_) (fun h => ?_)
            · conv => whnf
              cases h
              obtain rfl := hR3 _ rfl
              exact hK
            · conv => whnf
              cases h
              exact ⟨⟨rfl, rfl⟩, hI3 _ rfl⟩
          · conv => whnf
            refine vLoop h ?_
            rintro I6 μ6 ⟨v1, ⟨⟩⟩ zs6 h hI6 hR6
            change spec_IsSetup_loop0 a0 a1 v1 = some zs6 at h
            unfold spec_IsSetup_loop0 at h
            conv => whnf
            refine vIfD h (fun h => ?_) (fun h => ?_)
            · conv => whnf
              refine ⟨by kernel_rfl, ?_⟩
              conv => whnf
              refine vAt h (fun x0 he7a he7b he7x h => ?_)
              conv => whnf
              refine vBind h (fun IsException0 hb8 h => ?_)
              conv => whnf
              refine vNots ?_
              refine vIfB h (fun h => ?_) (fun h => ?_)
              · conv => whnf
                cases h
                exact ⟨⟨rfl, rfl⟩, hI6 _ rfl⟩
              · conv => whnf
                cases h
                obtain rfl := hR6 _ rfl
                obtain rfl := hR3 _ rfl
                exact hK
            · conv => whnf
              refine vBind h (fun l31Externals0 hb9 h => ?_)
              conv => whnf
              refine vIfB h (fun h => ?_) (fun h => ?_)
              · conv => whnf
                refine vBind h (fun l31Externals1 hb10 h => ?_)
                conv => whnf
                cases h
                obtain rfl := hR6 _ rfl
                obtain rfl := hR3 _ rfl
                exact hK
              · conv => whnf
                cases h
                obtain rfl := hR6 _ rfl
                obtain rfl := hR3 _ rfl
                exact hK
        · conv => whnf
          cases h
          exact hK
    · conv => whnf
      cases h
      exact hK
  · conv => whnf
    cases h
    exact hK
theorem w_spec_l03Kinds : SoundC Tryz.prog 189 c_spec_l03Kinds := by
  refine fn_sound tab_ok gam_nil mixed { loops := [(0, [.reg 4 (.dat (.int .i64)), .ent 1 (nat_lit 2) (.flat ti79.ety)])] } (fn := Tryz.f189) Tryz.func189 (by kernel_rfl) (by kernel_rfl) ?_
  rintro ⟨c0, ⟨⟩⟩ K ⟨r, h, hK⟩
  change spec_l03Kinds c0 = some r at h
  unfold spec_l03Kinds at h
  conv => whnf
  refine ⟨by decide, ?_⟩
  conv => whnf
  refine ⟨by decide, ?_⟩
  conv => whnf
  refine ⟨by decide, ?_⟩
  conv => whnf
  refine ⟨by decide, ?_⟩
  conv => whnf
  refine vLoop h ?_
  rintro I0 μ0 ⟨i0, l0, ⟨⟩⟩ zs0 h hI0 hR0
  change spec_l03Kinds_loop0 c0 i0 l0 = some zs0 at h
  unfold spec_l03Kinds_loop0 at h
  conv => whnf
  refine vIfD h (fun h => ?_) (fun h => ?_)
  · conv => whnf
    refine vAt h (fun x0 he1a he1b he1x h => ?_)
    conv => whnf
    refine vAt h (fun x1 he2a he2b he2x h => ?_)
    conv => whnf
    refine ⟨by kernel_rfl, ?_⟩
    conv => whnf
    refine ⟨he2a, he2b, vAgain he2x ?_⟩
    conv => whnf
    refine ⟨he2a, he2b, vAgain he2x ?_⟩
    conv => whnf
    refine ⟨by kernel_rfl, ?_⟩
    conv => whnf
    refine ⟨by decide, ?_⟩
    conv => whnf
    refine ⟨he2a, he2b, vAgain he2x ?_⟩
    conv => whnf
    cases h
    exact ⟨⟨rfl, rfl⟩, hI0 _ rfl⟩
  · conv => whnf
    cases h
    obtain rfl := hR0 _ rfl
    exact hK
theorem w_spec_l05Places : SoundC Tryz.prog 25 c_spec_l05Places := by
  refine fn_sound tab_ok gam_nil mixed { loops := [(0, [.reg 3 (.own (.ol 129 (.flat (tl05Place)))), .reg 4 (.dat (.int .i64))]), (2, [.reg 3 (.own (.ol 129 (.flat (tl05Place)))), .reg 6 (.dat (.int .i64))]), (4, [.reg 3 (.own (.ol 129 (.flat (tl05Place)))), .reg 7 (.dat (.int .i64))])], draws := [(13, [0, 0, 0, 4, 0, 28, 60, 124, 0, 256, 0, 1792, 3840, 7936, 16128, 32766, 65534, 131071, 262143], .op 0 (.op 1 (.op 2 (.op 3 (.op 4 (.op 5 (.op 6 (.op 7 (.op 8 (.op 9 (.op 10 (.op 11 (.op 12 (.op 13 (.op 14 (.op 15 (.alt 16 (.alt 17 (.op 18 (.done)) (.done)) (.done))))))))))))))))))] } (fn := Tryz.f25) Tryz.func25 (by kernel_rfl) (by kernel_rfl) ?_
  rintro ⟨a0, ⟨⟩⟩ K ⟨r, h, hK⟩
  change spec_l05Places a0 = some r at h
  unfold spec_l05Places at h
  conv => whnf
  refine vLoop h ?_
  rintro I0 μ0 ⟨v0, v1, ⟨⟩⟩ zs0 h hI0 hR0
  change spec_l05Places_loop2 a0 v0 v1 = some zs0 at h
  unfold spec_l05Places_loop2 at h
  conv => whnf
  refine vIfD h (fun h => ?_) (fun h => ?_)
  · conv => whnf
    refine vAt h (fun x0 he1a he1b he1x h => ?_)
    conv => whnf
    refine vLoop h ?_
    rintro I2 μ2 ⟨v2, v3, ⟨⟩⟩ zs2 h hI2 hR2
    change spec_l05Places_loop0 v1 x0 v2 v3 = some zs2 at h
    unfold spec_l05Places_loop0 at h
    conv => whnf
    refine vIfD h (fun h => ?_) (fun h => ?_)
    · conv => whnf
      refine vAt h (fun x1 he3a he3b he3x h => ?_)
      conv => whnf
      refine vPre h (fun hp4 h => ?_)
      conv => whnf
      cases h
      exact ⟨⟨rfl, rfl⟩, hI2 _ rfl⟩
    · conv => whnf
      cases h
      obtain rfl := hR2 _ rfl
      exact ⟨⟨rfl, rfl⟩, hI0 _ rfl⟩
  · conv => whnf
    refine vLoop h ?_
    rintro I5 μ5 ⟨v2, v3, ⟨⟩⟩ zs5 h hI5 hR5
    change spec_l05Places_loop1 a0 v2 v3 = some zs5 at h
    unfold spec_l05Places_loop1 at h
    conv => whnf
    refine vIfD h (fun h => ?_) (fun h => ?_)
    · conv => whnf
      refine ⟨by kernel_rfl, ?_⟩
      conv => whnf
      refine vAt h (fun x0 he6a he6b he6x h => ?_)
      conv => whnf
      refine ⟨he6a, he6b, vAgain he6x ?_⟩
      conv => whnf
      refine vPre h (fun hp7 h => ?_)
      conv => whnf
      cases h
      exact ⟨⟨rfl, rfl⟩, hI5 _ rfl⟩
    · conv => whnf
      cases h
      obtain rfl := hR5 _ rfl
      obtain rfl := hR0 _ rfl
      exact hK
theorem w_spec_l05Sinks (q0 : SoundC Tryz.prog 25 c_spec_l05Places) : SoundC Tryz.prog 57 c_spec_l05Sinks := by
  refine fn_sound tab_ok (gam_cons q0 gam_nil) mixed { loops := [(0, [.reg 5 (.own (.ol 2 (.flat (.int .i64)))), .reg 7 (.dat (.int .i64))])] } (fn := Tryz.f57) Tryz.func57 (by kernel_rfl) (by kernel_rfl) ?_
  rintro ⟨d0, net0, ⟨⟩⟩ K ⟨r, h, hK⟩
  change spec_l05Sinks d0 net0 = some r at h
  unfold spec_l05Sinks at h
  conv => whnf
  refine vBind h (fun l05Places0 hb0 h => ?_)
  conv => whnf
  refine vLoop h ?_
  rintro I1 μ1 ⟨out0, i0, ⟨⟩⟩ zs1 h hI1 hR1
  change spec_l05Sinks_loop0 net0 l05Places0 out0 i0 = some zs1 at h
  unfold spec_l05Sinks_loop0 at h
  conv => whnf
  refine vIfD h (fun h => ?_) (fun h => ?_)
  · conv => whnf
    refine vAt h (fun x0 he2a he2b he2x h => ?_)
    conv => whnf
    refine ⟨by kernel_rfl, ?_⟩
    conv => whnf
    refine ⟨he2a, he2b, vAgain he2x ?_⟩
    conv => whnf
    refine vIfD h (fun h => ?_) (fun h => ?_)
    · conv => whnf
      refine ⟨he2a, he2b, vAgain he2x ?_⟩
      conv => whnf
      refine ⟨by kernel_rfl, ?_⟩
      conv => whnf
      refine ⟨he2a, he2b, vAgain he2x ?_⟩
      conv => whnf
      refine vNots ?_
      refine vIfB h (fun h => ?_) (fun h => ?_)
      · conv => whnf
        cases h
        exact ⟨⟨rfl, rfl⟩, hI1 _ rfl⟩
      · conv => whnf
        refine vPre h (fun hp3 h => ?_)
        conv => whnf
        cases h
        exact ⟨⟨rfl, rfl⟩, hI1 _ rfl⟩
    · conv => whnf
      cases h
      exact ⟨⟨rfl, rfl⟩, hI1 _ rfl⟩
  · conv => whnf
    cases h
    obtain rfl := hR1 _ rfl
    exact hK
theorem wb_spec_l14Of (rec0 : (List TClock) → Int → Option Tl14Wave) (hrec : SoundC Tryz.prog 61 (cb_spec_l14Of rec0)) : SoundC Tryz.prog 61 (cb_spec_l14Of (spec_l14Of_body rec0)) := by
  refine fn_sound tab_ok (gam_cons hrec gam_nil) mixed {} (fn := Tryz.f61) Tryz.func61 (by kernel_rfl) (by kernel_rfl) ?_
  rintro ⟨list0, k0, ⟨⟩⟩ K ⟨r, h, hK⟩
  change spec_l14Of_body rec0 list0 k0 = some r at h
  unfold spec_l14Of_body at h
  conv => whnf
  refine vAt h (fun x0 he0a he0b he0x h => ?_)
  conv => whnf
  refine vIfD h (fun h => ?_) (fun h => ?_)
  · conv => whnf
    cases h
    exact hK
  · conv => whnf
    refine vBind h (fun r0 hb1 h => ?_)
    conv => whnf
    refine vIfD h (fun h => ?_) (fun h => ?_)
    · conv => whnf
      refine ⟨by decide, ?_⟩
      conv => whnf
      refine vIfB h (fun h => ?_) (fun h => ?_)
      · conv => whnf
        cases h
        exact hK
      · conv => whnf
        cases h
        exact hK
    · conv => whnf
      refine vIfB h (fun h => ?_) (fun h => ?_)
      · conv => whnf
        cases h
        exact hK
      · conv => whnf
        cases h
        exact hK
theorem w_spec_l14Of : SoundC Tryz.prog 61 c_spec_l14Of := by
  have hn : ∀ n, SoundC Tryz.prog 61 (cb_spec_l14Of (spec_l14Of_n n)) := by
    intro n
    induction n with
    | zero =>
      refine fn_sound tab_ok gam_nil mixed {} (fn := Tryz.f61) Tryz.func61 (by kernel_rfl) (by kernel_rfl) ?_
      rintro ⟨list0, k0, ⟨⟩⟩ K ⟨r, h, hK⟩
      cases h
    | succ n ih => exact wb_spec_l14Of _ ih
  refine ⟨(hn 0).1, ?_⟩
  rintro w S vs ⟨list0, k0, ⟨⟩⟩ fp K h1 h2 h3 h4 ⟨r, h, hK⟩
  obtain ⟨n, hr⟩ := recM_some h
  exact (hn n).2 w S vs _ fp K h1 h2 h3 h4 ⟨r, hr, hK⟩
theorem w_spec_l31Corners (q0 : SoundC Tryz.prog 62 c_spec_IsCorner) : SoundC Tryz.prog 24 c_spec_l31Corners := by
  refine fn_sound tab_ok (gam_cons q0 gam_nil) mixed { loops := [(0, [.reg 3 (.dat (.int .i64))]), (2, [.reg 4 (.dat (.int .i64))])], draws := [(9, [0, 0, 3, 7, 15, 0, 0, 96, 224, 480, 1023], .op 0 (.op 1 (.op 2 (.op 3 (.op 4 (.op 5 (.op 6 (.op 7 (.op 8 (.op 9 (.op 10 (.done))))))))))))] } (fn := Tryz.f24) Tryz.func24 (by kernel_rfl) (by kernel_rfl) ?_
  rintro ⟨list0, ⟨⟩⟩ K ⟨r, h, hK⟩
  change spec_l31Corners list0 = some r at h
  unfold spec_l31Corners at h
  conv => whnf
  refine vLoop h ?_
  rintro I0 μ0 ⟨i0, ⟨⟩⟩ zs0 h hI0 hR0
  change spec_l31Corners_loop1 list0 i0 = some zs0 at h
  unfold spec_l31Corners_loop1 at h
  conv => whnf
  refine vIfD h (fun h => ?_) (fun h => ?_)
  · conv => whnf
    refine vAt h (fun x0 he1a he1b he1x h => ?_)
    conv => whnf
    refine vBind h (fun IsCorner0 hb2 h => ?_)
    conv => whnf
    refine vNots ?_
    refine vIfB h (fun h => ?_) (fun h => ?_)
    · conv => whnf
      refine vLoop h ?_
      rintro I3 μ3 ⟨k0, ⟨⟩⟩ zs3 h hI3 hR3
      change spec_l31Corners_loop0 list0 i0 x0 k0 = some zs3 at h
      unfold spec_l31Corners_loop0 at h
      conv => whnf
      refine vIfD h (fun h => ?_) (fun h => ?_)
      · conv => whnf
        refine ⟨by kernel_rfl, ?_⟩
        conv => whnf
        refine vAt h (fun x1 he4a he4b he4x h => ?_)
        conv => whnf
        refine ⟨he1a, he1b, vAgain he1x ?_⟩
        conv => whnf
        refine vIfD h (fun h => ?_) (fun h => ?_)
        · conv => whnf
          cases h
          obtain rfl := hR3 _ rfl
          obtain rfl := hR0 _ rfl
          exact hK
        · conv => whnf
          cases h
          exact ⟨⟨rfl, rfl⟩, hI3 _ rfl⟩
      · conv => whnf
        cases h
        obtain rfl := hR3 _ rfl
        exact ⟨⟨rfl, rfl⟩, hI0 _ rfl⟩
    · conv => whnf
      cases h
      obtain rfl := hR0 _ rfl
      exact hK
  · conv => whnf
    cases h
    obtain rfl := hR0 _ rfl
    exact hK
end Go.Proofs.YtmlloomodhhefaaGreatDoor
