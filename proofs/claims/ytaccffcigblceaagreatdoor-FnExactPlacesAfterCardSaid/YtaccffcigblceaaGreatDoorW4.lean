/-
  The functions keep their contracts, if what they call does. Printed by program.
-/
import Derived.Test.YtaccffcigblceaaGreatDoorM
import Derived.KernelRfl
namespace Go.Proofs.YtaccffcigblceaaGreatDoor
open Go Go.Sx
set_option maxRecDepth 100000
set_option linter.unusedVariables false
set_option linter.unusedSimpArgs false
theorem w_impl_Block_canUnbuffer (q0 : SoundC Tryz.prog 236 c_impl_length_string) (q1 : SoundC Tryz.prog 211 c_impl_isBuffer) : SoundC Tryz.prog 215 c_impl_Block_canUnbuffer := by
  refine fn_sound tab_ok (gam_cons q0 (gam_cons q1 gam_nil)) mixed { draws := [(6, [0, 1, 3, 0, 8, 31, 63, 127, 255, 511, 1023, 2047, 4095, 8191, 1023, 32767, 65535, 131071, 262143, 524287, 1048575, 2097151, 262143, 8388607, 16777215, 33554431, 67108863, 134217727, 67108863, 536870911, 1073741823, 67108863, 2214592511, 8589934591, 17179869183], .op 0 (.op 1 (.op 2 (.op 3 (.op 4 (.op 5 (.op 6 (.alt 7 (.op 8 (.op 9 (.op 10 (.op 11 (.op 12 (.op 13 (.op 14 (.op 15 (.op 16 (.op 17 (.op 18 (.op 19 (.op 20 (.op 21 (.op 22 (.op 23 (.op 24 (.op 25 (.op 26 (.op 27 (.op 28 (.op 29 (.op 30 (.op 31 (.op 32 (.op 33 (.op 34 (.done)))))))))))))))))))))))))))) (.done)))))))))] } (fn := Tryz.f215) Tryz.func215 (by kernel_rfl) (by kernel_rfl) ?_
  rintro ⟨a0, ⟨⟩⟩ K ⟨r, h, hK⟩
  change impl_Block_canUnbuffer a0 = some r at h
  unfold impl_Block_canUnbuffer at h
  conv => whnf
  refine vIfD h (fun h => ?_) (fun h => ?_)
  · conv => whnf
    cases h
    exact hK
  · conv => whnf
    refine vAt h (fun x0 he0a he0b he0x h => ?_)
    conv => whnf
    refine vBind h (fun string0 hb1 h => ?_)
    conv => whnf
    refine ⟨by kernel_rfl, ?_⟩
    conv => whnf
    refine vAt h (fun x1 he2a he2b he2x h => ?_)
    conv => whnf
    refine vBind h (fun isBuffer0 hb3 h => ?_)
    conv => whnf
    refine vNot ?_
    refine vIfB h (fun h => ?_) (fun h => ?_)
    · conv => whnf
      refine vAt h (fun x2 he4a he4b he4x h => ?_)
      conv => whnf
      refine vNot ?_
      refine vIfD h (fun h => ?_) (fun h => ?_)
      · conv => whnf
        refine vAt h (fun x3 he5a he5b he5x h => ?_)
        conv => whnf
        refine vIfDs h (fun h => ?_) (fun h => ?_)
        · conv => whnf
          cases h
          exact hK
        · conv => whnf
          refine vAt h (fun x4 he6a he6b he6x h => ?_)
          conv => whnf
          refine vNots ?_
          refine vIfD h (fun h => ?_) (fun h => ?_)
          · conv => whnf
            refine vAt h (fun x5 he7a he7b he7x h => ?_)
            conv => whnf
            refine vIfD h (fun h => ?_) (fun h => ?_)
            · conv => whnf
              refine vIfD h (fun h => ?_) (fun h => ?_)
              · conv => whnf
                refine vAt h (fun x6 he8a he8b he8x h => ?_)
                conv => whnf
                cases h
                exact hK
              · conv => whnf
                cases h
                exact hK
            · conv => whnf
              cases h
              exact hK
          · conv => whnf
            cases h
            exact hK
      · conv => whnf
        cases h
        exact hK
    · conv => whnf
      cases h
      exact hK
theorem w_impl_Cell_has (q0 : SoundC Tryz.prog 276 c_slices_ContainsFunc_Simpl_Arc_impl_Arc_at_impl_Cell_has_c1) : SoundC Tryz.prog 279 c_impl_Cell_has := by
  refine fn_sound tab_ok (gam_cons q0 gam_nil) mixed {} (fn := Tryz.f279) Tryz.func279 (by kernel_rfl) (by kernel_rfl) ?_
  rintro ⟨c0, kind0, ⟨⟩⟩ K ⟨r, h, hK⟩
  change impl_Cell_has c0 kind0 = some r at h
  unfold impl_Cell_has at h
  conv => whnf
  refine vBind h (fun c1_0 hb0 h => ?_)
  conv => whnf
  cases h
  exact hK
theorem w_impl_Cell_isArc (q4 : SoundC Tryz.prog 287 c_impl_isCheck) (q3 : SoundC Tryz.prog 288 c_impl_areTables) (q2 : SoundC Tryz.prog 289 c_impl_Cell_clock) (q0 : SoundC Tryz.prog 290 c_impl_Cell_isInput) (q1 : SoundC Tryz.prog 278 c_impl_Cell_output) (q5 : SoundC Tryz.prog 171 c_impl_within) : SoundC Tryz.prog 275 c_impl_Cell_isArc := by
  refine fn_sound tab_ok (gam_cons q4 (gam_cons q3 (gam_cons q2 (gam_cons q0 (gam_cons q1 (gam_cons q5 gam_nil)))))) mixed { draws := [(2, [0, 1, 3, 7, 15, 31, 63, 127, 255, 511, 1023, 2047, 4095, 8191, 16383, 32767, 65535, 32767, 163839, 524287, 1048575, 2097151, 4194303, 8388607, 16777215, 33554431, 67108863, 134217727, 134217727, 402653183, 1073741823, 2147483647, 4294967295, 8589934591, 17179869183, 8589934591, 42949672959, 137438953471, 274877906943, 549755813887], .op 0 (.op 1 (.op 2 (.op 3 (.op 4 (.op 5 (.op 6 (.op 7 (.op 8 (.op 9 (.op 10 (.op 11 (.alt 12 (.op 13 (.op 14 (.op 15 (.op 16 (.op 17 (.alt 18 (.op 19 (.op 20 (.op 21 (.op 22 (.op 23 (.op 24 (.op 25 (.op 26 (.op 27 (.op 28 (.op 29 (.alt 30 (.op 31 (.op 32 (.op 33 (.op 34 (.op 35 (.op 36 (.op 37 (.op 38 (.op 39 (.done)))))))))) (.done))))))))))))) (.done))))))) (.done)))))))))))))), (3, [0, 1, 3, 7, 15, 31, 63, 127, 255, 511, 1023, 2047, 4095, 2047, 10239, 32767, 65535, 131071, 262143, 262143, 786431, 2097151, 4194303, 8388607], .op 0 (.op 1 (.alt 2 (.op 3 (.op 4 (.op 5 (.op 6 (.alt 7 (.op 8 (.op 9 (.op 10 (.op 11 (.op 12 (.op 13 (.alt 14 (.op 15 (.op 16 (.op 17 (.op 18 (.op 19 (.op 20 (.alt 21 (.op 22 (.op 23 (.done))) (.done)))))))) (.done)))))))) (.done)))))) (.done))))] } (fn := Tryz.f275) Tryz.func275 (by kernel_rfl) (by kernel_rfl) ?_
  rintro ⟨a0, a1, ⟨⟩⟩ K ⟨r, h, hK⟩
  change impl_Cell_isArc a0 a1 = some r at h
  unfold impl_Cell_isArc at h
  conv => whnf
  refine vBind h (fun isCheck0 hb0 h => ?_)
  conv => whnf
  refine vIfB h (fun h => ?_) (fun h => ?_)
  · conv => whnf
    refine ⟨by kernel_rfl, ?_⟩
    conv => whnf
    refine vIfD h (fun h => ?_) (fun h => ?_)
    · conv => whnf
      refine vIfD h (fun h => ?_) (fun h => ?_)
      · conv => whnf
        refine vBind h (fun areTables0 hb1 h => ?_)
        conv => whnf
        refine vIfB h (fun h => ?_) (fun h => ?_)
        · conv => whnf
          refine vBind h (fun clock0 hb2 h => ?_)
          conv => whnf
          refine vIfD h (fun h => ?_) (fun h => ?_)
          · conv => whnf
            refine vIfD h (fun h => ?_) (fun h => ?_)
            · conv => whnf
              refine vBind h (fun isInput0 hb3 h => ?_)
              conv => whnf
              refine vIfB h (fun h => ?_) (fun h => ?_)
              · conv => whnf
                cases h
                exact hK
              · conv => whnf
                cases h
                exact hK
            · conv => whnf
              cases h
              exact hK
          · conv => whnf
            cases h
            exact hK
        · conv => whnf
          cases h
          exact hK
      · conv => whnf
        cases h
        exact hK
    · conv => whnf
      cases h
      exact hK
  · conv => whnf
    refine ⟨by kernel_rfl, ?_⟩
    conv => whnf
    refine vBind h (fun areTables0 hb4 h => ?_)
    conv => whnf
    refine vNot ?_
    refine vIfB h (fun h => ?_) (fun h => ?_)
    · conv => whnf
      refine vBind h (fun areTables1 hb5 h => ?_)
      conv => whnf
      refine vNot ?_
      refine vIfB h (fun h => ?_) (fun h => ?_)
      · conv => whnf
        refine vBind h (fun output0 hb6 h => ?_)
        conv => whnf
        refine vNot ?_
        refine vIfD h (fun h => ?_) (fun h => ?_)
        · conv => whnf
          refine vBind h (fun isInput0 hb7 h => ?_)
          conv => whnf
          refine vNots ?_
          refine vIfB h (fun h => ?_) (fun h => ?_)
          · conv => whnf
            refine vIfD h (fun h => ?_) (fun h => ?_)
            · conv => whnf
              refine vAt h (fun x0 he8a he8b he8x h => ?_)
              conv => whnf
              refine vNots ?_
              refine vIfB h (fun h => ?_) (fun h => ?_)
              · conv => whnf
                cases h
                exact hK
              · conv => whnf
                refine vBind h (fun within0 hb9 h => ?_)
                conv => whnf
                cases h
                exact hK
            · conv => whnf
              refine vIfD h (fun h => ?_) (fun h => ?_)
              · conv => whnf
                refine vIfD h (fun h => ?_) (fun h => ?_)
                · conv => whnf
                  refine vAt h (fun x0 he10a he10b he10x h => ?_)
                  conv => whnf
                  refine vIfB h (fun h => ?_) (fun h => ?_)
                  · conv => whnf
                    cases h
                    exact hK
                  · conv => whnf
                    cases h
                    exact hK
                · conv => whnf
                  cases h
                  exact hK
              · conv => whnf
                refine vIfD h (fun h => ?_) (fun h => ?_)
                · conv => whnf
                  refine vAt h (fun x0 he11a he11b he11x h => ?_)
                  conv => whnf
                  refine vIfB h (fun h => ?_) (fun h => ?_)
                  · conv => whnf
                    cases h
                    exact hK
                  · conv => whnf
                    cases h
                    exact hK
                · conv => whnf
                  cases h
                  exact hK
          · conv => whnf
            cases h
            exact hK
        · conv => whnf
          cases h
          exact hK
      · conv => whnf
        cases h
        exact hK
    · conv => whnf
      cases h
      exact hK
theorem w_impl_Edit_placesAfter (q0 : SoundC Tryz.prog 101 c_impl_length_impl_Instance) (q1 : SoundC Tryz.prog 102 c_impl_Design_places) : SoundC Tryz.prog 46 c_impl_Edit_placesAfter := by
  refine fn_sound tab_ok (gam_cons q0 (gam_cons q1 gam_nil)) mixed { loops := [(0, [.reg 5 (.own (.ol 2 (.flat (.int .i64)))), .reg 19 (.dat (.int .i64))])] } (fn := Tryz.f46) Tryz.func46 (by kernel_rfl) (by kernel_rfl) ?_
  rintro ⟨e0, b0, ⟨⟩⟩ K ⟨r, h, hK⟩
  change impl_Edit_placesAfter e0 b0 = some r at h
  unfold impl_Edit_placesAfter at h
  conv => whnf
  refine vBind h (fun Instance0 hb0 h => ?_)
  conv => whnf
  refine vBind h (fun places0 hb1 h => ?_)
  conv => whnf
  refine vLoop h ?_
  rintro I2 μ2 ⟨out0, v0, ⟨⟩⟩ zs2 h hI2 hR2
  change impl_Edit_placesAfter_loop0 e0 Instance0 places0 out0 v0 = some zs2 at h
  unfold impl_Edit_placesAfter_loop0 at h
  conv => whnf
  refine vIfD h (fun h => ?_) (fun h => ?_)
  · conv => whnf
    refine vAt h (fun x0 he3a he3b he3x h => ?_)
    conv => whnf
    refine ⟨by kernel_rfl, ?_⟩
    conv => whnf
    refine ⟨he3a, he3b, vAgain he3x ?_⟩
    conv => whnf
    refine vIfD h (fun h => ?_) (fun h => ?_)
    · conv => whnf
      refine vIfD h (fun h => ?_) (fun h => ?_)
      · conv => whnf
        refine vPre h (fun hp4 h => ?_)
        conv => whnf
        cases h
        exact ⟨⟨rfl, rfl⟩, hI2 _ rfl⟩
      · conv => whnf
        refine vIfD h (fun h => ?_) (fun h => ?_)
        · conv => whnf
          refine vIfD h (fun h => ?_) (fun h => ?_)
          · conv => whnf
            refine vPre h (fun hp5 h => ?_)
            conv => whnf
            cases h
            exact ⟨⟨rfl, rfl⟩, hI2 _ rfl⟩
          · conv => whnf
            refine vIfD h (fun h => ?_) (fun h => ?_)
            · conv => whnf
              refine vIfD h (fun h => ?_) (fun h => ?_)
              · conv => whnf
                refine vPre h (fun hp6 h => ?_)
                conv => whnf
                cases h
                exact ⟨⟨rfl, rfl⟩, hI2 _ rfl⟩
              · conv => whnf
                refine vPre h (fun hp7 h => ?_)
                conv => whnf
                cases h
                exact ⟨⟨rfl, rfl⟩, hI2 _ rfl⟩
            · conv => whnf
              refine vPre h (fun hp8 h => ?_)
              conv => whnf
              cases h
              exact ⟨⟨rfl, rfl⟩, hI2 _ rfl⟩
        · conv => whnf
          refine vIfD h (fun h => ?_) (fun h => ?_)
          · conv => whnf
            refine vIfD h (fun h => ?_) (fun h => ?_)
            · conv => whnf
              refine vPre h (fun hp9 h => ?_)
              conv => whnf
              cases h
              exact ⟨⟨rfl, rfl⟩, hI2 _ rfl⟩
            · conv => whnf
              refine vPre h (fun hp10 h => ?_)
              conv => whnf
              cases h
              exact ⟨⟨rfl, rfl⟩, hI2 _ rfl⟩
          · conv => whnf
            refine vPre h (fun hp11 h => ?_)
            conv => whnf
            cases h
            exact ⟨⟨rfl, rfl⟩, hI2 _ rfl⟩
    · conv => whnf
      refine vIfD h (fun h => ?_) (fun h => ?_)
      · conv => whnf
        refine vIfD h (fun h => ?_) (fun h => ?_)
        · conv => whnf
          refine vPre h (fun hp12 h => ?_)
          conv => whnf
          cases h
          exact ⟨⟨rfl, rfl⟩, hI2 _ rfl⟩
        · conv => whnf
          refine vIfD h (fun h => ?_) (fun h => ?_)
          · conv => whnf
            refine vIfD h (fun h => ?_) (fun h => ?_)
            · conv => whnf
              refine vPre h (fun hp13 h => ?_)
              conv => whnf
              cases h
              exact ⟨⟨rfl, rfl⟩, hI2 _ rfl⟩
            · conv => whnf
              refine vPre h (fun hp14 h => ?_)
              conv => whnf
              cases h
              exact ⟨⟨rfl, rfl⟩, hI2 _ rfl⟩
          · conv => whnf
            refine vPre h (fun hp15 h => ?_)
            conv => whnf
            cases h
            exact ⟨⟨rfl, rfl⟩, hI2 _ rfl⟩
      · conv => whnf
        refine vIfD h (fun h => ?_) (fun h => ?_)
        · conv => whnf
          refine vIfD h (fun h => ?_) (fun h => ?_)
          · conv => whnf
            refine vPre h (fun hp16 h => ?_)
            conv => whnf
            cases h
            exact ⟨⟨rfl, rfl⟩, hI2 _ rfl⟩
          · conv => whnf
            refine vPre h (fun hp17 h => ?_)
            conv => whnf
            cases h
            exact ⟨⟨rfl, rfl⟩, hI2 _ rfl⟩
        · conv => whnf
          refine vPre h (fun hp18 h => ?_)
          conv => whnf
          cases h
          exact ⟨⟨rfl, rfl⟩, hI2 _ rfl⟩
  · conv => whnf
    cases h
    obtain rfl := hR2 _ rfl
    exact hK
theorem w_impl_IsLibrary (q1 : SoundC Tryz.prog 233 c_impl_IsCell) (q0 : SoundC Tryz.prog 221 c_impl_areNames) : SoundC Tryz.prog 198 c_impl_IsLibrary := by
  refine fn_sound tab_ok (gam_cons q1 (gam_cons q0 gam_nil)) mixed { loops := [(0, [.reg 3 (.own (.ol 9 (.flat (.str)))), .reg 9 (.dat (.int .i64))])] } (fn := Tryz.f198) Tryz.func198 (by kernel_rfl) (by kernel_rfl) ?_
  rintro ⟨l0, ⟨⟩⟩ K ⟨r, h, hK⟩
  change impl_IsLibrary l0 = some r at h
  unfold impl_IsLibrary at h
  conv => whnf
  refine vLoop h ?_
  rintro I0 μ0 ⟨names0, v0, ⟨⟩⟩ zs0 h hI0 hR0
  change impl_IsLibrary_loop0 l0 names0 v0 = some zs0 at h
  unfold impl_IsLibrary_loop0 at h
  conv => whnf
  refine vIfD h (fun h => ?_) (fun h => ?_)
  · conv => whnf
    refine vAt h (fun x0 he1a he1b he1x h => ?_)
    conv => whnf
    refine vBind h (fun IsCell0 hb2 h => ?_)
    conv => whnf
    refine vNots ?_
    refine vIfB h (fun h => ?_) (fun h => ?_)
    · conv => whnf
      refine vPre h (fun hp3 h => ?_)
      conv => whnf
      cases h
      exact ⟨⟨rfl, rfl⟩, hI0 _ rfl⟩
    · conv => whnf
      cases h
      obtain rfl := hR0 _ rfl
      exact hK
  · conv => whnf
    refine vIfD h (fun h => ?_) (fun h => ?_)
    · conv => whnf
      refine vBind h (fun areNames0 hb4 h => ?_)
      conv => whnf
      cases h
      obtain rfl := hR0 _ rfl
      exact hK
    · conv => whnf
      cases h
      obtain rfl := hR0 _ rfl
      exact hK
theorem w_impl_PlacesAfter (q1 : SoundC Tryz.prog 45 c_impl_EditCode) (q0 : SoundC Tryz.prog 46 c_impl_Edit_placesAfter) : SoundC Tryz.prog 11 c_impl_PlacesAfter := by
  refine fn_sound tab_ok (gam_cons q1 (gam_cons q0 gam_nil)) mixed {} (fn := Tryz.f11) Tryz.func11 (by kernel_rfl) (by kernel_rfl) ?_
  rintro ⟨b0, e0, ⟨⟩⟩ K ⟨r, h, hK⟩
  change impl_PlacesAfter b0 e0 = some r at h
  unfold impl_PlacesAfter at h
  conv => whnf
  refine vBind h (fun EditCode0 hb0 h => ?_)
  conv => whnf
  refine vNots ?_
  refine vIfD h (fun h => ?_) (fun h => ?_)
  · conv => whnf
    refine vBind h (fun placesAfter0 hb1 h => ?_)
    conv => whnf
    cases h
    exact hK
  · conv => whnf
    cases h
    exact hK
theorem w_impl_Wire_isTree (q0 : SoundC Tryz.prog 171 c_impl_within) : SoundC Tryz.prog 204 c_impl_Wire_isTree := by
  refine fn_sound tab_ok (gam_cons q0 gam_nil) mixed { loops := [(0, [.reg 8 (.dat (.int .i64))])] } (fn := Tryz.f204) Tryz.func204 (by kernel_rfl) (by kernel_rfl) ?_
  rintro ⟨w0, ⟨⟩⟩ K ⟨r, h, hK⟩
  change impl_Wire_isTree w0 = some r at h
  unfold impl_Wire_isTree at h
  conv => whnf
  refine vLoop h ?_
  rintro I0 μ0 ⟨v0, ⟨⟩⟩ zs0 h hI0 hR0
  change impl_Wire_isTree_loop0 w0 v0 = some zs0 at h
  unfold impl_Wire_isTree_loop0 at h
  conv => whnf
  refine vIfD h (fun h => ?_) (fun h => ?_)
  · conv => whnf
    refine vAt h (fun x0 he1a he1b he1x h => ?_)
    conv => whnf
    refine vIfD h (fun h => ?_) (fun h => ?_)
    · conv => whnf
      refine vNot ?_
      refine vIfD h (fun h => ?_) (fun h => ?_)
      · conv => whnf
        refine vAt h (fun x1 he2a he2b he2x h => ?_)
        conv => whnf
        refine vNot ?_
        refine vIfD h (fun h => ?_) (fun h => ?_)
        · conv => whnf
          refine vIfD h (fun h => ?_) (fun h => ?_)
          · conv => whnf
            refine vBind h (fun within0 hb3 h => ?_)
            conv => whnf
            refine vNots ?_
            refine vIfB h (fun h => ?_) (fun h => ?_)
            · conv => whnf
              cases h
              exact ⟨⟨rfl, rfl⟩, hI0 _ rfl⟩
            · conv => whnf
              cases h
              obtain rfl := hR0 _ rfl
              exact hK
          · conv => whnf
            cases h
            exact ⟨⟨rfl, rfl⟩, hI0 _ rfl⟩
        · conv => whnf
          cases h
          obtain rfl := hR0 _ rfl
          exact hK
      · conv => whnf
        cases h
        obtain rfl := hR0 _ rfl
        exact hK
    · conv => whnf
      refine vIfD h (fun h => ?_) (fun h => ?_)
      · conv => whnf
        refine vBind h (fun within0 hb4 h => ?_)
        conv => whnf
        refine vNots ?_
        refine vIfB h (fun h => ?_) (fun h => ?_)
        · conv => whnf
          cases h
          exact ⟨⟨rfl, rfl⟩, hI0 _ rfl⟩
        · conv => whnf
          cases h
          obtain rfl := hR0 _ rfl
          exact hK
      · conv => whnf
        cases h
        exact ⟨⟨rfl, rfl⟩, hI0 _ rfl⟩
  · conv => whnf
    cases h
    obtain rfl := hR0 _ rfl
    exact hK
theorem w_impl_areNames (q1 : SoundC Tryz.prog 212 c_impl_isName) (q0 : SoundC Tryz.prog 250 c_slices_Contains_Sstring_string) : SoundC Tryz.prog 221 c_impl_areNames := by
  refine fn_sound tab_ok (gam_cons q1 (gam_cons q0 gam_nil)) mixed { loops := [(0, [.reg 7 (.dat (.int .i64))])] } (fn := Tryz.f221) Tryz.func221 (by kernel_rfl) (by kernel_rfl) ?_
  rintro ⟨list0, ⟨⟩⟩ K ⟨r, h, hK⟩
  change impl_areNames list0 = some r at h
  unfold impl_areNames at h
  conv => whnf
  refine vLoop h ?_
  rintro I0 μ0 ⟨v0, ⟨⟩⟩ zs0 h hI0 hR0
  change impl_areNames_loop0 list0 v0 = some zs0 at h
  unfold impl_areNames_loop0 at h
  conv => whnf
  refine vIfD h (fun h => ?_) (fun h => ?_)
  · conv => whnf
    refine vAt h (fun x0 he1a he1b he1x h => ?_)
    conv => whnf
    refine vBind h (fun isName0 hb2 h => ?_)
    conv => whnf
    refine vNot ?_
    refine vIfB h (fun h => ?_) (fun h => ?_)
    · conv => whnf
      refine ⟨by decide, ?_⟩
      conv => whnf
      refine vPre h (fun hp3 h => ?_)
      conv => whnf
      refine vPre h (fun hp4 h => ?_)
      conv => whnf
      refine vBind h (fun string0 hb5 h => ?_)
      conv => whnf
      refine vIfB h (fun h => ?_) (fun h => ?_)
      · conv => whnf
        cases h
        obtain rfl := hR0 _ rfl
        exact hK
      · conv => whnf
        cases h
        exact ⟨⟨rfl, rfl⟩, hI0 _ rfl⟩
    · conv => whnf
      cases h
      obtain rfl := hR0 _ rfl
      exact hK
  · conv => whnf
    cases h
    obtain rfl := hR0 _ rfl
    exact hK
theorem w_impl_areTables (q0 : SoundC Tryz.prog 297 c_slices_ContainsFunc_Simpl_Table_impl_Table_at_impl_areTables_c1) : SoundC Tryz.prog 288 c_impl_areTables := by
  refine fn_sound tab_ok (gam_cons q0 gam_nil) mixed {} (fn := Tryz.f288) Tryz.func288 (by kernel_rfl) (by kernel_rfl) ?_
  rintro ⟨list0, positive0, ⟨⟩⟩ K ⟨r, h, hK⟩
  change impl_areTables list0 positive0 = some r at h
  unfold impl_areTables at h
  conv => whnf
  refine vIfD h (fun h => ?_) (fun h => ?_)
  · conv => whnf
    refine vBind h (fun c1_0 hb0 h => ?_)
    conv => whnf
    cases h
    exact hK
  · conv => whnf
    cases h
    exact hK
theorem w_impl_isAxis (q0 : SoundC Tryz.prog 117 c_impl_length_int64) (q3 : SoundC Tryz.prog 171 c_impl_within) (q2 : SoundC Tryz.prog 205 c_impl_areWithin) (q1 : SoundC Tryz.prog 225 c_impl_isIncreasing) : SoundC Tryz.prog 308 c_impl_isAxis := by
  refine fn_sound tab_ok (gam_cons q0 (gam_cons q3 (gam_cons q2 (gam_cons q1 gam_nil)))) mixed {} (fn := Tryz.f308) Tryz.func308 (by kernel_rfl) (by kernel_rfl) ?_
  rintro ⟨list0, ⟨⟩⟩ K ⟨r, h, hK⟩
  change impl_isAxis list0 = some r at h
  unfold impl_isAxis at h
  conv => whnf
  refine vBind h (fun int64_0 hb0 h => ?_)
  conv => whnf
  refine vBind h (fun within0 hb1 h => ?_)
  conv => whnf
  refine vIfB h (fun h => ?_) (fun h => ?_)
  · conv => whnf
    refine vBind h (fun areWithin0 hb2 h => ?_)
    conv => whnf
    refine vIfB h (fun h => ?_) (fun h => ?_)
    · conv => whnf
      refine vBind h (fun isIncreasing0 hb3 h => ?_)
      conv => whnf
      cases h
      exact hK
    · conv => whnf
      cases h
      exact hK
  · conv => whnf
    cases h
    exact hK
theorem w_impl_isBuffer : SoundC Tryz.prog 211 c_impl_isBuffer := by
  refine fn_sound tab_ok gam_nil mixed {} (fn := Tryz.f211) Tryz.func211 (by kernel_rfl) (by kernel_rfl) ?_
  rintro ⟨c0, ⟨⟩⟩ K ⟨r, h, hK⟩
  change impl_isBuffer c0 = some r at h
  unfold impl_isBuffer at h
  conv => whnf
  refine vIfD h (fun h => ?_) (fun h => ?_)
  · conv => whnf
    cases h
    exact hK
  · conv => whnf
    cases h
    exact hK
theorem w_impl_length_int64 : SoundC Tryz.prog 117 c_impl_length_int64 := by
  refine fn_sound tab_ok gam_nil mixed {} (fn := Tryz.f117) Tryz.func117 (by kernel_rfl) (by kernel_rfl) ?_
  rintro ⟨list0, ⟨⟩⟩ K ⟨r, h, hK⟩
  change impl_length_int64 list0 = some r at h
  unfold impl_length_int64 at h
  conv => whnf
  cases h
  exact hK
theorem w_impl_length_string : SoundC Tryz.prog 236 c_impl_length_string := by
  refine fn_sound tab_ok gam_nil mixed {} (fn := Tryz.f236) Tryz.func236 (by kernel_rfl) (by kernel_rfl) ?_
  rintro ⟨list0, ⟨⟩⟩ K ⟨r, h, hK⟩
  change impl_length_string list0 = some r at h
  unfold impl_length_string at h
  conv => whnf
  cases h
  exact hK
theorem w_laws_eqCellS (q0 : SoundC Tryz.prog 161 c_laws_eqCell) : SoundC Tryz.prog 103 c_laws_eqCellS := by
  refine fn_sound tab_ok (gam_cons q0 gam_nil) mixed { loops := [(0, [.reg 5 (.dat (.int .i64))])], draws := [(6, [0, 0, 3, 7, 0, 0, 48, 112, 255, 511], .op 0 (.op 1 (.op 2 (.op 3 (.op 4 (.op 5 (.op 6 (.op 7 (.alt 8 (.op 9 (.done)) (.done))))))))))] } (fn := Tryz.f103) Tryz.func103 (by kernel_rfl) (by kernel_rfl) ?_
  rintro ⟨a0, b0, ⟨⟩⟩ K ⟨r, h, hK⟩
  change laws_eqCellS a0 b0 = some r at h
  unfold laws_eqCellS at h
  conv => whnf
  refine vNots ?_
  refine vIfD h (fun h => ?_) (fun h => ?_)
  · conv => whnf
    refine vLoop h ?_
    rintro I0 μ0 ⟨i0, ⟨⟩⟩ zs0 h hI0 hR0
    change laws_eqCellS_loop0 a0 b0 i0 = some zs0 at h
    unfold laws_eqCellS_loop0 at h
    conv => whnf
    refine vIfD h (fun h => ?_) (fun h => ?_)
    · conv => whnf
      refine ⟨by kernel_rfl, ?_⟩
      conv => whnf
      refine vAt h (fun x0 he1a he1b he1x h => ?_)
      conv => whnf
      refine vAt h (fun x1 he2a he2b he2x h => ?_)
      conv => whnf
      refine vBind h (fun eqCell0 hb3 h => ?_)
      conv => whnf
      refine vNots ?_
      refine vIfB h (fun h => ?_) (fun h => ?_)
      · conv => whnf
        cases h
        exact ⟨⟨rfl, rfl⟩, hI0 _ rfl⟩
      · conv => whnf
        cases h
        obtain rfl := hR0 _ rfl
        exact hK
    · conv => whnf
      cases h
      obtain rfl := hR0 _ rfl
      exact hK
  · conv => whnf
    cases h
    exact hK
theorem w_laws_eqTable (q0 : SoundC Tryz.prog 12 c_laws_eqInt64S) : SoundC Tryz.prog 285 c_laws_eqTable := by
  refine fn_sound tab_ok (gam_cons q0 gam_nil) mixed {} (fn := Tryz.f285) Tryz.func285 (by kernel_rfl) (by kernel_rfl) ?_
  rintro ⟨a0, b0, ⟨⟩⟩ K ⟨r, h, hK⟩
  change laws_eqTable a0 b0 = some r at h
  unfold laws_eqTable at h
  conv => whnf
  refine vBind h (fun eqInt64S0 hb0 h => ?_)
  conv => whnf
  refine vNots ?_
  refine vIfB h (fun h => ?_) (fun h => ?_)
  · conv => whnf
    refine vBind h (fun eqInt64S1 hb1 h => ?_)
    conv => whnf
    refine vNots ?_
    refine vIfB h (fun h => ?_) (fun h => ?_)
    · conv => whnf
      refine vBind h (fun eqInt64S2 hb2 h => ?_)
      conv => whnf
      refine vNots ?_
      refine vIfB h (fun h => ?_) (fun h => ?_)
      · conv => whnf
        cases h
        exact hK
      · conv => whnf
        cases h
        exact hK
    · conv => whnf
      cases h
      exact hK
  · conv => whnf
    cases h
    exact hK
theorem w_laws_eqWire (q0 : SoundC Tryz.prog 12 c_laws_eqInt64S) : SoundC Tryz.prog 50 c_laws_eqWire := by
  refine fn_sound tab_ok (gam_cons q0 gam_nil) mixed {} (fn := Tryz.f50) Tryz.func50 (by kernel_rfl) (by kernel_rfl) ?_
  rintro ⟨a0, b0, ⟨⟩⟩ K ⟨r, h, hK⟩
  change laws_eqWire a0 b0 = some r at h
  unfold laws_eqWire at h
  conv => whnf
  refine vBind h (fun eqInt64S0 hb0 h => ?_)
  conv => whnf
  refine vNots ?_
  refine vIfB h (fun h => ?_) (fun h => ?_)
  · conv => whnf
    refine vBind h (fun eqInt64S1 hb1 h => ?_)
    conv => whnf
    refine vNots ?_
    refine vIfB h (fun h => ?_) (fun h => ?_)
    · conv => whnf
      refine vBind h (fun eqInt64S2 hb2 h => ?_)
      conv => whnf
      refine vNots ?_
      refine vIfB h (fun h => ?_) (fun h => ?_)
      · conv => whnf
        refine vBind h (fun eqInt64S3 hb3 h => ?_)
        conv => whnf
        refine vNots ?_
        refine vIfB h (fun h => ?_) (fun h => ?_)
        · conv => whnf
          cases h
          exact hK
        · conv => whnf
          cases h
          exact hK
      · conv => whnf
        cases h
        exact hK
    · conv => whnf
      cases h
      exact hK
  · conv => whnf
    cases h
    exact hK
theorem w_laws_markPinS (q0 : SoundC Tryz.prog 141 c_laws_markText) : SoundC Tryz.prog 164 c_laws_markPinS := by
  refine fn_sound tabD_ok (gam_cons q0 gam_nil) mixed { loops := [(0, [.reg 1 (.dat (.int .i64)), .reg 5 (.dat (.int .i64)), .ent 0 (nat_lit 285) (.flat tPin)])] } (fn := Tryz.f164) Tryz.func164 (by kernel_rfl) (by kernel_rfl) ?_
  rintro ⟨a0, k0, ⟨⟩⟩ K ⟨r, h, hK⟩
  change laws_markPinS a0 k0 = some r at h
  unfold laws_markPinS at h
  conv => whnf
  refine vLoop h ?_
  rintro I0 μ0 ⟨k1, i0, l0, ⟨⟩⟩ zs0 h hI0 hR0
  change laws_markPinS_loop0 k1 i0 l0 = some zs0 at h
  unfold laws_markPinS_loop0 at h
  conv => whnf
  refine vIfD h (fun h => ?_) (fun h => ?_)
  · conv => whnf
    refine vBind h (fun markText0 hb1 h => ?_)
    conv => whnf
    refine vAt h (fun x0 he2a he2b he2x h => ?_)
    conv => whnf
    refine ⟨by kernel_rfl, ?_⟩
    conv => whnf
    refine ⟨by decide, ?_⟩
    conv => whnf
    refine ⟨he2a, he2b, vAgain he2x ?_⟩
    conv => whnf
    refine vAt h (fun x1 he3a he3b he3x h => ?_)
    conv => whnf
    refine ⟨by kernel_rfl, ?_⟩
    conv => whnf
    refine ⟨by decide, ?_⟩
    conv => whnf
    refine ⟨he3a, he3b, vAgain he3x ?_⟩
    conv => whnf
    refine vAt h (fun x2 he4a he4b he4x h => ?_)
    conv => whnf
    refine ⟨by kernel_rfl, ?_⟩
    conv => whnf
    refine ⟨by decide, ?_⟩
    conv => whnf
    refine ⟨he4a, he4b, vAgain he4x ?_⟩
    conv => whnf
    refine ⟨by decide, ?_⟩
    conv => whnf
    refine vAt h (fun x3 he5a he5b he5x h => ?_)
    conv => whnf
    refine ⟨by kernel_rfl, ?_⟩
    conv => whnf
    refine ⟨by decide, ?_⟩
    conv => whnf
    refine ⟨he5a, he5b, vAgain he5x ?_⟩
    conv => whnf
    cases h
    exact ⟨⟨rfl, rfl⟩, hI0 _ rfl⟩
  · conv => whnf
    cases h
    obtain rfl := hR0 _ rfl
    exact hK
theorem w_laws_markTableS (q0 : SoundC Tryz.prog 17 c_laws_markInt64S) : SoundC Tryz.prog 218 c_laws_markTableS := by
  refine fn_sound tabD_ok (gam_cons q0 gam_nil) mixed { loops := [(0, [.reg 1 (.dat (.int .i64)), .reg 5 (.dat (.int .i64)), .ent 0 (nat_lit 329) (Dp.pair (Dp.ol (2 : Go.TypeId) (Dp.flat (Ty.int IntKind.i64))) (Dp.pair (Dp.ol (2 : Go.TypeId) (Dp.flat (Ty.int IntKind.i64))) (Dp.pair (Dp.ol (2 : Go.TypeId) (Dp.flat (Ty.int IntKind.i64))) (Dp.flat Ty.unit))))])] } (fn := Tryz.f218) Tryz.func218 (by kernel_rfl) (by kernel_rfl) ?_
  rintro ⟨a0, k0, ⟨⟩⟩ K ⟨r, h, hK⟩
  change laws_markTableS a0 k0 = some r at h
  unfold laws_markTableS at h
  conv => whnf
  intro fp0
  conv => whnf
  refine vLoop h ?_
  rintro I1 μ1 ⟨k1, i0, l0, ⟨⟩⟩ zs1 h hI1 hR1
  change laws_markTableS_loop0 k1 i0 l0 = some zs1 at h
  unfold laws_markTableS_loop0 at h
  conv => whnf
  intro fp2
  conv => whnf
  refine vIfD h (fun h => ?_) (fun h => ?_)
  · conv => whnf
    refine vAt h (fun x0 he3a he3b he3x h => ?_)
    conv => whnf
    refine ⟨he3a, he3b, vAgain he3x ?_⟩
    conv => whnf
    intro fp4
    conv => whnf
    refine vBind h (fun markInt64S0 hb5 h => ?_)
    conv => whnf
    refine ⟨he3a, he3b, vAgain he3x ?_⟩
    conv => whnf
    refine .inl ⟨rfl, ?_⟩
    conv => whnf
    refine vBind h (fun markInt64S1 hb6 h => ?_)
    conv => whnf
    refine ⟨he3a, he3b, vAgain he3x ?_⟩
    conv => whnf
    refine .inl ⟨rfl, ?_⟩
    conv => whnf
    refine vBind h (fun markInt64S2 hb7 h => ?_)
    conv => whnf
    cases h
    exact ⟨⟨rfl, rfl⟩, hI1 _ rfl⟩
  · conv => whnf
    cases h
    obtain rfl := hR1 _ rfl
    exact hK
theorem w_laws_szEdit (q0 : SoundC Tryz.prog 38 c_laws_szWire) : SoundC Tryz.prog 7 c_laws_szEdit := by
  refine fn_sound tab_ok (gam_cons q0 gam_nil) mixed {} (fn := Tryz.f7) Tryz.func7 (by kernel_rfl) (by kernel_rfl) ?_
  rintro ⟨a0, left0, ⟨⟩⟩ K ⟨r, h, hK⟩
  change laws_szEdit a0 left0 = some r at h
  unfold laws_szEdit at h
  conv => whnf
  refine vIfD h (fun h => ?_) (fun h => ?_)
  · conv => whnf
    cases h
    exact hK
  · conv => whnf
    refine vBind h (fun szWire0 hb0 h => ?_)
    conv => whnf
    refine vIfD h (fun h => ?_) (fun h => ?_)
    · conv => whnf
      cases h
      exact hK
    · conv => whnf
      cases h
      exact hK
theorem w_laws_szStringS : SoundC Tryz.prog 86 c_laws_szStringS := by
  refine fn_sound tab_ok gam_nil mixed { loops := [(0, [.reg 1 (.dat (.int .i64)), .reg 5 (.dat (.int .i64))])] } (fn := Tryz.f86) Tryz.func86 (by kernel_rfl) (by kernel_rfl) ?_
  rintro ⟨a0, left0, ⟨⟩⟩ K ⟨r, h, hK⟩
  change laws_szStringS a0 left0 = some r at h
  unfold laws_szStringS at h
  conv => whnf
  refine vIfD h (fun h => ?_) (fun h => ?_)
  · conv => whnf
    cases h
    exact hK
  · conv => whnf
    refine vLoop h ?_
    rintro I0 μ0 ⟨left1, i0, ⟨⟩⟩ zs0 h hI0 hR0
    change laws_szStringS_loop0 a0 left1 i0 = some zs0 at h
    unfold laws_szStringS_loop0 at h
    conv => whnf
    refine vIfD h (fun h => ?_) (fun h => ?_)
    · conv => whnf
      refine vAt h (fun x0 he1a he1b he1x h => ?_)
      conv => whnf
      refine vIfD h (fun h => ?_) (fun h => ?_)
      · conv => whnf
        cases h
        obtain rfl := hR0 _ rfl
        exact hK
      · conv => whnf
        cases h
        exact ⟨⟨rfl, rfl⟩, hI0 _ rfl⟩
    · conv => whnf
      cases h
      obtain rfl := hR0 _ rfl
      exact hK
theorem w_laws_toBlock (q0 : SoundC Tryz.prog 41 c_laws_toLibrary) (q1 : SoundC Tryz.prog 42 c_laws_toDesign) (q2 : SoundC Tryz.prog 43 c_laws_toWireS) : SoundC Tryz.prog 9 c_laws_toBlock := by
  refine fn_sound tabD_ok (gam_cons q0 (gam_cons q1 (gam_cons q2 gam_nil))) mixed {} (fn := Tryz.f9) Tryz.func9 (by kernel_rfl) (by kernel_rfl) ?_
  rintro ⟨a0, ⟨⟩⟩ K ⟨r, h, hK⟩
  change laws_toBlock a0 = some r at h
  unfold laws_toBlock at h
  conv => whnf
  refine vBind h (fun toLibrary0 hb0 h => ?_)
  conv => whnf
  intro fp1
  conv => whnf
  refine vBind h (fun toDesign0 hb2 h => ?_)
  conv => whnf
  intro fp3
  conv => whnf
  refine vBind h (fun toWireS0 hb4 h => ?_)
  conv => whnf
  intro fp5
  conv => whnf
  cases h
  exact hK
theorem w_laws_toStringS : SoundC Tryz.prog 96 c_laws_toStringS := by
  refine fn_sound tab_ok gam_nil mixed { loops := [(0, [.reg 4 (.dat (.int .i64)), .ent 0 (nat_lit 9) (.flat ti26.ety)])] } (fn := Tryz.f96) Tryz.func96 (by kernel_rfl) (by kernel_rfl) ?_
  rintro ⟨a0, ⟨⟩⟩ K ⟨r, h, hK⟩
  change laws_toStringS a0 = some r at h
  unfold laws_toStringS at h
  conv => whnf
  refine vPre h (fun hp0 h => ?_)
  conv => whnf
  refine vPre h (fun hp1 h => ?_)
  conv => whnf
  refine vPre h (fun hp2 h => ?_)
  conv => whnf
  refine vPre h (fun hp3 h => ?_)
  conv => whnf
  refine vLoop h ?_
  rintro I4 μ4 ⟨i0, l0, ⟨⟩⟩ zs4 h hI4 hR4
  change laws_toStringS_loop0 a0 i0 l0 = some zs4 at h
  unfold laws_toStringS_loop0 at h
  conv => whnf
  refine vIfD h (fun h => ?_) (fun h => ?_)
  · conv => whnf
    refine vAt h (fun x0 he5a he5b he5x h => ?_)
    conv => whnf
    refine vAt h (fun x1 he6a he6b he6x h => ?_)
    conv => whnf
    refine ⟨by kernel_rfl, ?_⟩
    conv => whnf
    refine ⟨by decide, ?_⟩
    conv => whnf
    refine ⟨he6a, he6b, vAgain he6x ?_⟩
    conv => whnf
    cases h
    exact ⟨⟨rfl, rfl⟩, hI4 _ rfl⟩
  · conv => whnf
    cases h
    obtain rfl := hR4 _ rfl
    exact hK
theorem w_laws_toTable (q0 : SoundC Tryz.prog 98 c_laws_toInt64S) : SoundC Tryz.prog 273 c_laws_toTable := by
  refine fn_sound tab_ok (gam_cons q0 gam_nil) mixed {} (fn := Tryz.f273) Tryz.func273 (by kernel_rfl) (by kernel_rfl) ?_
  rintro ⟨a0, ⟨⟩⟩ K ⟨r, h, hK⟩
  change laws_toTable a0 = some r at h
  unfold laws_toTable at h
  conv => whnf
  refine vBind h (fun toInt64S0 hb0 h => ?_)
  conv => whnf
  refine vBind h (fun toInt64S1 hb1 h => ?_)
  conv => whnf
  refine vBind h (fun toInt64S2 hb2 h => ?_)
  conv => whnf
  cases h
  exact hK
theorem w_laws_toTableS (q0 : SoundC Tryz.prog 273 c_laws_toTable) : SoundC Tryz.prog 256 c_laws_toTableS := by
  refine fn_sound tabD_ok (gam_cons q0 gam_nil) mixed { loops := [(0, [.reg 4 (.dat (.int .i64)), .ent 0 (nat_lit 329) dTable])] } (fn := Tryz.f256) Tryz.func256 (by kernel_rfl) (by kernel_rfl) ?_
  rintro ⟨a0, ⟨⟩⟩ K ⟨r, h, hK⟩
  change laws_toTableS a0 = some r at h
  unfold laws_toTableS at h
  conv => whnf
  refine vPre h (fun hp0 h => ?_)
  conv => whnf
  refine vPre h (fun hp1 h => ?_)
  conv => whnf
  refine vPre h (fun hp2 h => ?_)
  conv => whnf
  refine vPre h (fun hp3 h => ?_)
  conv => whnf
  intro fp4
  conv => whnf
  refine vLoop h ?_
  rintro I5 μ5 ⟨i0, l0, ⟨⟩⟩ zs5 h hI5 hR5
  change laws_toTableS_loop0 a0 i0 l0 = some zs5 at h
  unfold laws_toTableS_loop0 at h
  conv => whnf
  intro fp6
  conv => whnf
  refine vIfD h (fun h => ?_) (fun h => ?_)
  · conv => whnf
    refine vAt h (fun x0 he7a he7b he7x h => ?_)
    conv => whnf
    refine vBind h (fun toTable0 hb8 h => ?_)
    conv => whnf
    refine vAt h (fun x1 he9a he9b he9x h => ?_)
    conv => whnf
    refine ⟨he9a, he9b, vAgain he9x ?_⟩
    conv => whnf
    intro fp10
    conv => whnf
    cases h
    exact ⟨⟨rfl, rfl⟩, hI5 _ rfl⟩
  · conv => whnf
    cases h
    obtain rfl := hR5 _ rfl
    exact hK
theorem w_slices_IndexFunc_Simpl_Arc_impl_Arc_at_impl_Cell_areArcs_c1 (q0 : SoundC Tryz.prog 277 c_impl_Cell_areArcs_c1) : SoundC Tryz.prog 291 c_slices_IndexFunc_Simpl_Arc_impl_Arc_at_impl_Cell_areArcs_c1 := by
  refine fn_sound tab_ok (gam_cons q0 gam_nil) mixed { loops := [(0, [.reg 8 (.dat (.int .i64))])] } (fn := Tryz.f291) Tryz.func291 (by kernel_rfl) (by kernel_rfl) ?_
  rintro ⟨s0, f0, ⟨⟩⟩ K ⟨r, h, hK⟩
  change slices_IndexFunc_Simpl_Arc_impl_Arc_at_impl_Cell_areArcs_c1 s0 f0 = some r at h
  unfold slices_IndexFunc_Simpl_Arc_impl_Arc_at_impl_Cell_areArcs_c1 at h
  conv => whnf
  refine vLoop h ?_
  rintro I0 μ0 ⟨v0, ⟨⟩⟩ zs0 h hI0 hR0
  change slices_IndexFunc_Simpl_Arc_impl_Arc_at_impl_Cell_areArcs_c1_loop0 s0 f0 v0 = some zs0 at h
  unfold slices_IndexFunc_Simpl_Arc_impl_Arc_at_impl_Cell_areArcs_c1_loop0 at h
  conv => whnf
  refine vIfD h (fun h => ?_) (fun h => ?_)
  · conv => whnf
    refine vAt h (fun x0 he1a he1b he1x h => ?_)
    conv => whnf
    refine vBind h (fun c1_0 hb2 h => ?_)
    conv => whnf
    refine vIfB h (fun h => ?_) (fun h => ?_)
    · conv => whnf
      cases h
      obtain rfl := hR0 _ rfl
      exact hK
    · conv => whnf
      cases h
      exact ⟨⟨rfl, rfl⟩, hI0 _ rfl⟩
  · conv => whnf
    cases h
    obtain rfl := hR0 _ rfl
    exact hK
theorem w_slices_IndexFunc_Simpl_Arc_impl_Arc_at_impl_Cell_has_c1 (q0 : SoundC Tryz.prog 292 c_impl_Cell_has_c1) : SoundC Tryz.prog 291 c_slices_IndexFunc_Simpl_Arc_impl_Arc_at_impl_Cell_has_c1 := by
  refine fn_sound tab_ok (gam_cons q0 gam_nil) mixed { loops := [(0, [.reg 8 (.dat (.int .i64))])] } (fn := Tryz.f291) Tryz.func291 (by kernel_rfl) (by kernel_rfl) ?_
  rintro ⟨s0, f0, ⟨⟩⟩ K ⟨r, h, hK⟩
  change slices_IndexFunc_Simpl_Arc_impl_Arc_at_impl_Cell_has_c1 s0 f0 = some r at h
  unfold slices_IndexFunc_Simpl_Arc_impl_Arc_at_impl_Cell_has_c1 at h
  conv => whnf
  refine vLoop h ?_
  rintro I0 μ0 ⟨v0, ⟨⟩⟩ zs0 h hI0 hR0
  change slices_IndexFunc_Simpl_Arc_impl_Arc_at_impl_Cell_has_c1_loop0 s0 f0 v0 = some zs0 at h
  unfold slices_IndexFunc_Simpl_Arc_impl_Arc_at_impl_Cell_has_c1_loop0 at h
  conv => whnf
  refine vIfD h (fun h => ?_) (fun h => ?_)
  · conv => whnf
    refine vAt h (fun x0 he1a he1b he1x h => ?_)
    conv => whnf
    refine vBind h (fun c1_0 hb2 h => ?_)
    conv => whnf
    refine vIfB h (fun h => ?_) (fun h => ?_)
    · conv => whnf
      cases h
      obtain rfl := hR0 _ rfl
      exact hK
    · conv => whnf
      cases h
      exact ⟨⟨rfl, rfl⟩, hI0 _ rfl⟩
  · conv => whnf
    cases h
    obtain rfl := hR0 _ rfl
    exact hK
theorem w_spec_EditCode (q3 : SoundC Tryz.prog 89 c_spec_IsBlock) (q0 : SoundC Tryz.prog 90 c_spec_l08Blank) (q1 : SoundC Tryz.prog 91 c_spec_l08Range) (q2 : SoundC Tryz.prog 92 c_spec_l08State) : SoundC Tryz.prog 39 c_spec_EditCode := by
  refine fn_sound tab_ok (gam_cons q3 (gam_cons q0 (gam_cons q1 (gam_cons q2 gam_nil)))) mixed {} (fn := Tryz.f39) Tryz.func39 (by kernel_rfl) (by kernel_rfl) ?_
  rintro ⟨b0, e0, ⟨⟩⟩ K ⟨r, h, hK⟩
  change spec_EditCode b0 e0 = some r at h
  unfold spec_EditCode at h
  conv => whnf
  refine vBind h (fun IsBlock0 hb0 h => ?_)
  conv => whnf
  refine vNots ?_
  refine vIfB h (fun h => ?_) (fun h => ?_)
  · conv => whnf
    refine vBind h (fun l08Blank0 hb1 h => ?_)
    conv => whnf
    refine vNot ?_
    refine vIfB h (fun h => ?_) (fun h => ?_)
    · conv => whnf
      refine vBind h (fun l08Range0 hb2 h => ?_)
      conv => whnf
      refine vNots ?_
      refine vIfB h (fun h => ?_) (fun h => ?_)
      · conv => whnf
        refine vBind h (fun l08State0 hb3 h => ?_)
        conv => whnf
        refine vNots ?_
        refine vIfB h (fun h => ?_) (fun h => ?_)
        · conv => whnf
          refine vIfD h (fun h => ?_) (fun h => ?_)
          · conv => whnf
            refine vIfDs h (fun h => ?_) (fun h => ?_)
            · conv => whnf
              cases h
              exact hK
            · conv => whnf
              refine vIfD h (fun h => ?_) (fun h => ?_)
              · conv => whnf
                cases h
                exact hK
              · conv => whnf
                cases h
                exact hK
          · conv => whnf
            cases h
            exact hK
        · conv => whnf
          cases h
          exact hK
      · conv => whnf
        cases h
        exact hK
    · conv => whnf
      cases h
      exact hK
  · conv => whnf
    cases h
    exact hK
theorem w_spec_InstanceNamed : SoundC Tryz.prog 151 c_spec_InstanceNamed := by
  refine fn_sound tab_ok gam_nil mixed { loops := [(0, [.reg 5 (.dat (.int .i64))])] } (fn := Tryz.f151) Tryz.func151 (by kernel_rfl) (by kernel_rfl) ?_
  rintro ⟨d0, name0, ⟨⟩⟩ K ⟨r, h, hK⟩
  change spec_InstanceNamed d0 name0 = some r at h
  unfold spec_InstanceNamed at h
  conv => whnf
  refine vLoop h ?_
  rintro I0 μ0 ⟨i0, ⟨⟩⟩ zs0 h hI0 hR0
  change spec_InstanceNamed_loop0 d0 name0 i0 = some zs0 at h
  unfold spec_InstanceNamed_loop0 at h
  conv => whnf
  refine vIfD h (fun h => ?_) (fun h => ?_)
  · conv => whnf
    refine vAt h (fun x0 he1a he1b he1x h => ?_)
    conv => whnf
    refine vIfD h (fun h => ?_) (fun h => ?_)
    · conv => whnf
      cases h
      obtain rfl := hR0 _ rfl
      exact hK
    · conv => whnf
      cases h
      exact ⟨⟨rfl, rfl⟩, hI0 _ rfl⟩
  · conv => whnf
    cases h
    obtain rfl := hR0 _ rfl
    exact hK
theorem w_spec_NetNamed (q0 : SoundC Tryz.prog 194 c_spec_l04Index) : SoundC Tryz.prog 152 c_spec_NetNamed := by
  refine fn_sound tab_ok (gam_cons q0 gam_nil) mixed {} (fn := Tryz.f152) Tryz.func152 (by kernel_rfl) (by kernel_rfl) ?_
  rintro ⟨d0, name0, ⟨⟩⟩ K ⟨r, h, hK⟩
  change spec_NetNamed d0 name0 = some r at h
  unfold spec_NetNamed at h
  conv => whnf
  refine vBind h (fun l04Index0 hb0 h => ?_)
  conv => whnf
  cases h
  exact hK
theorem w_spec_l03Pins (q0 : SoundC Tryz.prog 150 c_spec_l03Name) (q1 : SoundC Tryz.prog 112 c_spec_l01In) : SoundC Tryz.prog 253 c_spec_l03Pins := by
  refine fn_sound tab_ok (gam_cons q0 (gam_cons q1 gam_nil)) mixed { loops := [(0, [.reg 5 (.dat (.int .i64)), .reg 6 (.dat (.int .i64))]), (2, [.reg 8 (.dat (.int .i64))])], draws := [(12, [0, 1, 0, 7, 15, 31, 0, 64, 255], .op 0 (.op 1 (.op 2 (.op 3 (.op 4 (.op 5 (.op 6 (.op 7 (.op 8 (.done))))))))))] } (fn := Tryz.f253) Tryz.func253 (by kernel_rfl) (by kernel_rfl) ?_
  rintro ⟨a0, ⟨⟩⟩ K ⟨r, h, hK⟩
  change spec_l03Pins a0 = some r at h
  unfold spec_l03Pins at h
  conv => whnf
  refine vIfDs h (fun h => ?_) (fun h => ?_)
  · conv => whnf
    cases h
    exact hK
  · conv => whnf
    refine vIfD h (fun h => ?_) (fun h => ?_)
    · conv => whnf
      cases h
      exact hK
    · conv => whnf
      refine vLoop h ?_
      rintro I0 μ0 ⟨v0, v1, ⟨⟩⟩ zs0 h hI0 hR0
      change spec_l03Pins_loop1 a0 v0 v1 = some zs0 at h
      unfold spec_l03Pins_loop1 at h
      conv => whnf
      refine vIfD h (fun h => ?_) (fun h => ?_)
      · conv => whnf
        refine vAt h (fun x0 he1a he1b he1x h => ?_)
        conv => whnf
        refine vLoop h ?_
        rintro I2 μ2 ⟨v2, ⟨⟩⟩ zs2 h hI2 hR2
        change spec_l03Pins_loop0 a0 v0 v1 x0 v2 = some zs2 at h
        unfold spec_l03Pins_loop0 at h
        conv => whnf
        refine vIfD h (fun h => ?_) (fun h => ?_)
        · conv => whnf
          refine ⟨by kernel_rfl, ?_⟩
          conv => whnf
          refine vAt h (fun x1 he3a he3b he3x h => ?_)
          conv => whnf
          refine vIfD h (fun h => ?_) (fun h => ?_)
          · conv => whnf
            cases h
            obtain rfl := hR2 _ rfl
            obtain rfl := hR0 _ rfl
            exact hK
          · conv => whnf
            cases h
            exact ⟨⟨rfl, rfl⟩, hI2 _ rfl⟩
        · conv => whnf
          refine vBind h (fun l03Name0 hb4 h => ?_)
          conv => whnf
          refine vNot ?_
          refine vIfB h (fun h => ?_) (fun h => ?_)
          · conv => whnf
            refine vBind h (fun l01In0 hb5 h => ?_)
            conv => whnf
            refine vNots ?_
            refine vIfB h (fun h => ?_) (fun h => ?_)
            · conv => whnf
              refine vIfD h (fun h => ?_) (fun h => ?_)
              · conv => whnf
                refine vNot ?_
                refine vIfD h (fun h => ?_) (fun h => ?_)
                · conv => whnf
                  refine vNot ?_
                  refine vIfD h (fun h => ?_) (fun h => ?_)
                  · conv => whnf
                    refine vIfBs h (fun h => ?_) (fun h => ?_)
                    · conv => whnf
                      cases h
                      obtain rfl := hR2 _ rfl
                      obtain rfl := hR0 _ rfl
                      exact hK
                    · conv => whnf
                      refine vIfD h (fun h => ?_) (fun h => ?_)
                      · conv => whnf
                        refine vNots ?_
                        refine vIfD h (fun h => ?_) (fun h => ?_)
                        · conv => whnf
                          refine vIfB h (fun h => ?_) (fun h => ?_)
                          · conv => whnf
                            cases h
                            obtain rfl := hR2 _ rfl
                            exact ⟨⟨rfl, rfl⟩, hI0 _ rfl⟩
                          · conv => whnf
                            cases h
                            obtain rfl := hR2 _ rfl
                            exact ⟨⟨rfl, rfl⟩, hI0 _ rfl⟩
                        · conv => whnf
                          cases h
                          obtain rfl := hR2 _ rfl
                          obtain rfl := hR0 _ rfl
                          exact hK
                      · conv => whnf
                        refine vIfB h (fun h => ?_) (fun h => ?_)
                        · conv => whnf
                          cases h
                          obtain rfl := hR2 _ rfl
                          exact ⟨⟨rfl, rfl⟩, hI0 _ rfl⟩
                        · conv => whnf
                          cases h
                          obtain rfl := hR2 _ rfl
                          exact ⟨⟨rfl, rfl⟩, hI0 _ rfl⟩
                  · conv => whnf
                    cases h
                    obtain rfl := hR2 _ rfl
                    obtain rfl := hR0 _ rfl
                    exact hK
                · conv => whnf
                  cases h
                  obtain rfl := hR2 _ rfl
                  obtain rfl := hR0 _ rfl
                  exact hK
              · conv => whnf
                refine vIfD h (fun h => ?_) (fun h => ?_)
                · conv => whnf
                  refine vNots ?_
                  refine vIfD h (fun h => ?_) (fun h => ?_)
                  · conv => whnf
                    refine vIfB h (fun h => ?_) (fun h => ?_)
                    · conv => whnf
                      cases h
                      obtain rfl := hR2 _ rfl
                      exact ⟨⟨rfl, rfl⟩, hI0 _ rfl⟩
                    · conv => whnf
                      cases h
                      obtain rfl := hR2 _ rfl
                      exact ⟨⟨rfl, rfl⟩, hI0 _ rfl⟩
                  · conv => whnf
                    cases h
                    obtain rfl := hR2 _ rfl
                    obtain rfl := hR0 _ rfl
                    exact hK
                · conv => whnf
                  refine vIfB h (fun h => ?_) (fun h => ?_)
                  · conv => whnf
                    cases h
                    obtain rfl := hR2 _ rfl
                    exact ⟨⟨rfl, rfl⟩, hI0 _ rfl⟩
                  · conv => whnf
                    cases h
                    obtain rfl := hR2 _ rfl
                    exact ⟨⟨rfl, rfl⟩, hI0 _ rfl⟩
            · conv => whnf
              cases h
              obtain rfl := hR2 _ rfl
              obtain rfl := hR0 _ rfl
              exact hK
          · conv => whnf
            cases h
            obtain rfl := hR2 _ rfl
            obtain rfl := hR0 _ rfl
            exact hK
      · conv => whnf
        cases h
        obtain rfl := hR0 _ rfl
        exact hK
theorem w_spec_l08Bare : SoundC Tryz.prog 195 c_spec_l08Bare := by
  refine fn_sound tab_ok gam_nil mixed {} (fn := Tryz.f195) Tryz.func195 (by kernel_rfl) (by kernel_rfl) ?_
  rintro ⟨w0, ⟨⟩⟩ K ⟨r, h, hK⟩
  change spec_l08Bare w0 = some r at h
  unfold spec_l08Bare at h
  conv => whnf
  refine vIfD h (fun h => ?_) (fun h => ?_)
  · conv => whnf
    refine vAt h (fun x0 he0a he0b he0x h => ?_)
    conv => whnf
    cases h
    exact hK
  · conv => whnf
    cases h
    exact hK
end Go.Proofs.YtaccffcigblceaaGreatDoor
