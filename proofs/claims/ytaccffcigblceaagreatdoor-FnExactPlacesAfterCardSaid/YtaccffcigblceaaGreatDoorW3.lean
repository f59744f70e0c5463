/-
  The functions keep their contracts, if what they call does. Printed by program.
-/
import Derived.Test.YtaccffcigblceaaGreatDoorM
import Derived.KernelRfl
namespace Go.Proofs.YtaccffcigblceaaGreatDoor
open Go Go.Sx
set_option maxRecDepth 100000
set_option linter.unusedVariables false
set_option linter.unusedSimpArgs false
theorem w_impl_Design_isInstance_c1 (q0 : SoundC Tryz.prog 201 c_impl_Design_isNet) : SoundC Tryz.prog 235 c_impl_Design_isInstance_c1 := by
  refine fn_sound tab_ok (gam_cons q0 gam_nil) mixed {} (fn := Tryz.f235) Tryz.func235 (by kernel_rfl) (by kernel_rfl) ?_
  rintro ⟨net0, a0, ⟨⟩⟩ K ⟨r, h, hK⟩
  change impl_Design_isInstance_c1 net0 a0 = some r at h
  unfold impl_Design_isInstance_c1 at h
  conv => whnf
  refine vBind h (fun isNet0 hb0 h => ?_)
  conv => whnf
  cases h
  exact hK
theorem w_impl_Design_places : SoundC Tryz.prog 102 c_impl_Design_places := by
  refine fn_sound tab_ok gam_nil mixed { loops := [(0, [.reg 3 (.own (.ol 181 (.flat (tplace)))), .reg 13 (.dat (.int .i64))]), (2, [.reg 3 (.own (.ol 181 (.flat (tplace)))), .reg 21 (.dat (.int .i64))]), (4, [.reg 3 (.own (.ol 181 (.flat (tplace)))), .reg 44 (.dat (.int .i64))])] } (fn := Tryz.f102) Tryz.func102 (by kernel_rfl) (by kernel_rfl) ?_
  rintro ⟨d0, ⟨⟩⟩ K ⟨r, h, hK⟩
  change impl_Design_places d0 = some r at h
  unfold impl_Design_places at h
  conv => whnf
  refine vLoop h ?_
  rintro I0 μ0 ⟨list0, v0, ⟨⟩⟩ zs0 h hI0 hR0
  change impl_Design_places_loop2 d0 list0 v0 = some zs0 at h
  unfold impl_Design_places_loop2 at h
  conv => whnf
  refine vIfD h (fun h => ?_) (fun h => ?_)
  · conv => whnf
    refine vAt h (fun x0 he1a he1b he1x h => ?_)
    conv => whnf
    refine vLoop h ?_
    rintro I2 μ2 ⟨list1, v1, ⟨⟩⟩ zs2 h hI2 hR2
    change impl_Design_places_loop0 v0 x0 list1 v1 = some zs2 at h
    unfold impl_Design_places_loop0 at h
    conv => whnf
    refine vIfD h (fun h => ?_) (fun h => ?_)
    · conv => whnf
      refine vAt h (fun x1 he3a he3b he3x h => ?_)
      conv => whnf
      refine vPre h (fun hp4 h => ?_)
      conv => whnf
      cases h
      exact ⟨⟨rfl, rfl⟩, hI2 _ rfl⟩
    · conv => whnf
      cases h
      obtain rfl := hR2 _ rfl
      exact ⟨⟨rfl, rfl⟩, hI0 _ rfl⟩
  · conv => whnf
    refine vLoop h ?_
    rintro I5 μ5 ⟨list1, v1, ⟨⟩⟩ zs5 h hI5 hR5
    change impl_Design_places_loop1 d0 list1 v1 = some zs5 at h
    unfold impl_Design_places_loop1 at h
    conv => whnf
    refine vIfD h (fun h => ?_) (fun h => ?_)
    · conv => whnf
      refine vAt h (fun x0 he6a he6b he6x h => ?_)
      conv => whnf
      refine vPre h (fun hp7 h => ?_)
      conv => whnf
      cases h
      exact ⟨⟨rfl, rfl⟩, hI5 _ rfl⟩
    · conv => whnf
      cases h
      obtain rfl := hR5 _ rfl
      obtain rfl := hR0 _ rfl
      exact hK
theorem w_impl_IsCell (q3 : SoundC Tryz.prog 212 c_impl_isName) (q2 : SoundC Tryz.prog 257 c_impl_arePins) (q1 : SoundC Tryz.prog 258 c_impl_Cell_areArcs) (q4 : SoundC Tryz.prog 171 c_impl_within) (q0 : SoundC Tryz.prog 259 c_impl_Cell_isOfKind) : SoundC Tryz.prog 233 c_impl_IsCell := by
  refine fn_sound tab_ok (gam_cons q3 (gam_cons q2 (gam_cons q1 (gam_cons q4 (gam_cons q0 gam_nil))))) mixed {} (fn := Tryz.f233) Tryz.func233 (by kernel_rfl) (by kernel_rfl) ?_
  rintro ⟨c0, ⟨⟩⟩ K ⟨r, h, hK⟩
  change impl_IsCell c0 = some r at h
  unfold impl_IsCell at h
  conv => whnf
  refine vBind h (fun isName0 hb0 h => ?_)
  conv => whnf
  refine vIfB h (fun h => ?_) (fun h => ?_)
  · conv => whnf
    refine vBind h (fun arePins0 hb1 h => ?_)
    conv => whnf
    refine vIfB h (fun h => ?_) (fun h => ?_)
    · conv => whnf
      refine vBind h (fun areArcs0 hb2 h => ?_)
      conv => whnf
      refine vIfB h (fun h => ?_) (fun h => ?_)
      · conv => whnf
        refine vBind h (fun within0 hb3 h => ?_)
        conv => whnf
        refine vIfB h (fun h => ?_) (fun h => ?_)
        · conv => whnf
          refine vBind h (fun within1 hb4 h => ?_)
          conv => whnf
          refine vIfB h (fun h => ?_) (fun h => ?_)
          · conv => whnf
            refine vBind h (fun isOfKind0 hb5 h => ?_)
            conv => whnf
            cases h
            exact hK
          · conv => whnf
            cases h
            exact hK
        · conv => whnf
          cases h
          exact hK
      · conv => whnf
        cases h
        exact hK
    · conv => whnf
      cases h
      exact hK
  · conv => whnf
    cases h
    exact hK
theorem w_impl_IsWire (q0 : SoundC Tryz.prog 117 c_impl_length_int64) (q3 : SoundC Tryz.prog 171 c_impl_within) (q1 : SoundC Tryz.prog 204 c_impl_Wire_isTree) (q2 : SoundC Tryz.prog 205 c_impl_areWithin) : SoundC Tryz.prog 158 c_impl_IsWire := by
  refine fn_sound tab_ok (gam_cons q0 (gam_cons q3 (gam_cons q1 (gam_cons q2 gam_nil)))) mixed {} (fn := Tryz.f158) Tryz.func158 (by kernel_rfl) (by kernel_rfl) ?_
  rintro ⟨w0, sinks0, ⟨⟩⟩ K ⟨r, h, hK⟩
  change impl_IsWire w0 sinks0 = some r at h
  unfold impl_IsWire at h
  conv => whnf
  refine vBind h (fun int64_0 hb0 h => ?_)
  conv => whnf
  refine vBind h (fun within0 hb1 h => ?_)
  conv => whnf
  refine vIfB h (fun h => ?_) (fun h => ?_)
  · conv => whnf
    refine vBind h (fun int64_1 hb2 h => ?_)
    conv => whnf
    refine vIfD h (fun h => ?_) (fun h => ?_)
    · conv => whnf
      refine vBind h (fun int64_2 hb3 h => ?_)
      conv => whnf
      refine vIfD h (fun h => ?_) (fun h => ?_)
      · conv => whnf
        refine vBind h (fun isTree0 hb4 h => ?_)
        conv => whnf
        refine vIfB h (fun h => ?_) (fun h => ?_)
        · conv => whnf
          refine vBind h (fun areWithin0 hb5 h => ?_)
          conv => whnf
          refine vIfB h (fun h => ?_) (fun h => ?_)
          · conv => whnf
            refine vBind h (fun areWithin1 hb6 h => ?_)
            conv => whnf
            refine vIfB h (fun h => ?_) (fun h => ?_)
            · conv => whnf
              refine vBind h (fun int64_3 hb7 h => ?_)
              conv => whnf
              refine vIfD h (fun h => ?_) (fun h => ?_)
              · conv => whnf
                refine vBind h (fun areWithin2 hb8 h => ?_)
                conv => whnf
                cases h
                exact hK
              · conv => whnf
                cases h
                exact hK
            · conv => whnf
              cases h
              exact hK
          · conv => whnf
            cases h
            exact hK
        · conv => whnf
          cases h
          exact hK
      · conv => whnf
        cases h
        exact hK
    · conv => whnf
      cases h
      exact hK
  · conv => whnf
    cases h
    exact hK
theorem w_impl_areWithin (q0 : SoundC Tryz.prog 234 c_slices_ContainsFunc_Sint64_int64_at_impl_areWithin_c1) : SoundC Tryz.prog 205 c_impl_areWithin := by
  refine fn_sound tab_ok (gam_cons q0 gam_nil) mixed {} (fn := Tryz.f205) Tryz.func205 (by kernel_rfl) (by kernel_rfl) ?_
  rintro ⟨list0, low0, high0, ⟨⟩⟩ K ⟨r, h, hK⟩
  change impl_areWithin list0 low0 high0 = some r at h
  unfold impl_areWithin at h
  conv => whnf
  refine vBind h (fun c1_0 hb0 h => ?_)
  conv => whnf
  cases h
  exact hK
theorem w_impl_length_impl_place : SoundC Tryz.prog 208 c_impl_length_impl_place := by
  refine fn_sound tab_ok gam_nil mixed {} (fn := Tryz.f208) Tryz.func208 (by kernel_rfl) (by kernel_rfl) ?_
  rintro ⟨list0, ⟨⟩⟩ K ⟨r, h, hK⟩
  change impl_length_impl_place list0 = some r at h
  unfold impl_length_impl_place at h
  conv => whnf
  cases h
  exact hK
theorem w_laws_FnExactPlacesAfter (q7 : SoundC Tryz.prog 6 c_laws_szBlock) (q10 : SoundC Tryz.prog 7 c_laws_szEdit) (q8 : SoundC Tryz.prog 9 c_laws_toBlock) (q11 : SoundC Tryz.prog 10 c_laws_toEdit) (q0 : SoundC Tryz.prog 8 c_spec_PlacesAfter) (q1 : SoundC Tryz.prog 11 c_impl_PlacesAfter) (q5 : SoundC Tryz.prog 12 c_laws_eqInt64S) (q9 : SoundC Tryz.prog 13 c_laws_eqBlock) (q12 : SoundC Tryz.prog 14 c_laws_eqEdit) (q4 : SoundC Tryz.prog 15 c_laws_markBlock) (q6 : SoundC Tryz.prog 16 c_laws_markEdit) (q2 : SoundC Tryz.prog 17 c_laws_markInt64S) (q3 : SoundC Tryz.prog 18 c_laws_heldInt64S) : SoundC Tryz.prog 3 c_laws_FnExactPlacesAfter := by
  refine fn_sound tab_ok (gam_cons q7 (gam_cons q10 (gam_cons q8 (gam_cons q11 (gam_cons q0 (gam_cons q1 (gam_cons q5 (gam_cons q9 (gam_cons q12 (gam_cons q4 (gam_cons q6 (gam_cons q2 (gam_cons q3 gam_nil))))))))))))) mixed { draws := [(8, [0, 1, 0, 7, 15, 31, 63, 63, 127, 511], .op 0 (.op 2 (.alt 1 (.alt 3 (.alt 4 (.op 5 (.op 6 (.op 7 (.op 8 (.op 9 (.done)))))) (.done)) (.done)) (.done)))), (14, [0, 0, 2, 7, 15], .op 0 (.op 1 (.alt 2 (.alt 3 (.op 4 (.done)) (.done)) (.done)))), (16, [0, 0, 2, 7, 15], .op 0 (.op 1 (.alt 2 (.alt 3 (.op 4 (.done)) (.done)) (.done)))), (31, [0, 1, 0, 7, 15, 31, 63, 63, 127, 511], .op 0 (.op 2 (.alt 1 (.alt 3 (.alt 4 (.op 5 (.op 6 (.op 7 (.op 8 (.op 9 (.done)))))) (.done)) (.done)) (.done))))] } (fn := Tryz.f3) Tryz.func3 (by kernel_rfl) (by kernel_rfl) ?_
  rintro ⟨a0, a1, ⟨⟩⟩ K ⟨r, h, hK⟩
  change laws_FnExactPlacesAfter a0 a1 = some r at h
  unfold laws_FnExactPlacesAfter at h
  conv => whnf
  refine vBind h (fun szBlock0 hb0 h => ?_)
  conv => whnf
  refine vIfD h (fun h => ?_) (fun h => ?_)
  · conv => whnf
    cases h
    exact hK
  · conv => whnf
    refine vBind h (fun szEdit0 hb1 h => ?_)
    conv => whnf
    refine vIfD h (fun h => ?_) (fun h => ?_)
    · conv => whnf
      cases h
      exact hK
    · conv => whnf
      refine ⟨by kernel_rfl, ?_⟩
      conv => whnf
      refine vBind h (fun toBlock0 hb2 h => ?_)
      conv => whnf
      intro fp3
      conv => whnf
      intro fp4
      conv => whnf
      intro fp5
      conv => whnf
      refine vBind h (fun toEdit0 hb6 h => ?_)
      conv => whnf
      refine vBind h (fun PlacesAfter0 hb7 h => ?_)
      conv => whnf
      refine ⟨_, hb2, ?_⟩
      conv => whnf
      intro fp8
      conv => whnf
      intro fp9
      conv => whnf
      intro fp10
      conv => whnf
      refine ⟨_, hb6, ?_⟩
      conv => whnf
      refine vBind h (fun PlacesAfter1 hb11 h => ?_)
      conv => whnf
      refine vBind h (fun eqInt64S0 hb12 h => ?_)
      conv => whnf
      refine vNot ?_
      refine vIfB h (fun h => ?_) (fun h => ?_)
      · conv => whnf
        refine vNots ?_
        refine vIfD h (fun h => ?_) (fun h => ?_)
        · conv => whnf
          refine ⟨by kernel_rfl, ?_⟩
          conv => whnf
          refine ⟨_, hb2, ?_⟩
          conv => whnf
          intro fp13
          conv => whnf
          intro fp14
          conv => whnf
          intro fp15
          conv => whnf
          refine vBind h (fun eqBlock0 hb16 h => ?_)
          conv => whnf
          refine vNots ?_
          refine vIfB h (fun h => ?_) (fun h => ?_)
          · conv => whnf
            refine ⟨by kernel_rfl, ?_⟩
            conv => whnf
            refine ⟨_, hb6, ?_⟩
            conv => whnf
            refine vBind h (fun eqEdit0 hb17 h => ?_)
            conv => whnf
            refine vNots ?_
            refine vIfB h (fun h => ?_) (fun h => ?_)
            · conv => whnf
              refine vBind h (fun markBlock0 hb18 h => ?_)
              conv => whnf
              intro fp19
              conv => whnf
              intro fp20
              conv => whnf
              intro fp21
              conv => whnf
              refine vBind h (fun markEdit0 hb22 h => ?_)
              conv => whnf
              refine vIfDs h (fun h => ?_) (fun h => ?_)
              · conv => whnf
                cases h
                exact hK
              · conv => whnf
                refine ⟨_, hb12, ?_⟩
                conv => whnf
                refine vNot ?_
                refine vIfB h (fun h => ?_) (fun h => ?_)
                · conv => whnf
                  refine vNots ?_
                  refine vIfD h (fun h => ?_) (fun h => ?_)
                  · conv => whnf
                    refine vBind h (fun markInt64S0 hb23 h => ?_)
                    conv => whnf
                    refine vBind h (fun heldInt64S0 hb24 h => ?_)
                    conv => whnf
                    refine vIfD h (fun h => ?_) (fun h => ?_)
                    · conv => whnf
                      cases h
                      exact hK
                    · conv => whnf
                      refine vNots ?_
                      refine vIfD h (fun h => ?_) (fun h => ?_)
                      · conv => whnf
                        refine ⟨by kernel_rfl, ?_⟩
                        conv => whnf
                        refine ⟨_, hb2, ?_⟩
                        conv => whnf
                        intro fp25
                        conv => whnf
                        intro fp26
                        conv => whnf
                        intro fp27
                        conv => whnf
                        refine ⟨_, hb6, ?_⟩
                        conv => whnf
                        refine ⟨_, hb11, ?_⟩
                        conv => whnf
                        refine ⟨_, hb12, ?_⟩
                        conv => whnf
                        refine vNot ?_
                        refine vIfB h (fun h => ?_) (fun h => ?_)
                        · conv => whnf
                          refine vNots ?_
                          refine vIfD h (fun h => ?_) (fun h => ?_)
                          · conv => whnf
                            refine ⟨_, hb24, ?_⟩
                            conv => whnf
                            refine vIfD h (fun h => ?_) (fun h => ?_)
                            · conv => whnf
                              cases h
                              exact hK
                            · conv => whnf
                              refine vNots ?_
                              refine vIfD h (fun h => ?_) (fun h => ?_)
                              · conv => whnf
                                cases h
                                exact hK
                              · conv => whnf
                                cases h
                                exact hK
                          · conv => whnf
                            cases h
                            exact hK
                        · conv => whnf
                          cases h
                          exact hK
                      · conv => whnf
                        cases h
                        exact hK
                  · conv => whnf
                    cases h
                    exact hK
                · conv => whnf
                  cases h
                  exact hK
            · conv => whnf
              cases h
              exact hK
          · conv => whnf
            cases h
            exact hK
        · conv => whnf
          cases h
          exact hK
      · conv => whnf
        cases h
        exact hK
theorem w_laws_eqInstance (q0 : SoundC Tryz.prog 12 c_laws_eqInt64S) : SoundC Tryz.prog 162 c_laws_eqInstance := by
  refine fn_sound tab_ok (gam_cons q0 gam_nil) mixed {} (fn := Tryz.f162) Tryz.func162 (by kernel_rfl) (by kernel_rfl) ?_
  rintro ⟨a0, b0, ⟨⟩⟩ K ⟨r, h, hK⟩
  change laws_eqInstance a0 b0 = some r at h
  unfold laws_eqInstance at h
  conv => whnf
  refine vNots ?_
  refine vIfD h (fun h => ?_) (fun h => ?_)
  · conv => whnf
    refine vNots ?_
    refine vIfD h (fun h => ?_) (fun h => ?_)
    · conv => whnf
      refine vBind h (fun eqInt64S0 hb0 h => ?_)
      conv => whnf
      refine vNots ?_
      refine vIfB h (fun h => ?_) (fun h => ?_)
      · conv => whnf
        cases h
        exact hK
      · conv => whnf
        cases h
        exact hK
    · conv => whnf
      cases h
      exact hK
  · conv => whnf
    cases h
    exact hK
theorem w_laws_eqPinS (q0 : SoundC Tryz.prog 247 c_laws_eqPin) : SoundC Tryz.prog 216 c_laws_eqPinS := by
  refine fn_sound tab_ok (gam_cons q0 gam_nil) mixed { loops := [(0, [.reg 5 (.dat (.int .i64))])], draws := [(6, [0, 0, 3, 7, 0, 0, 48, 112, 255, 511], .op 0 (.op 1 (.op 2 (.op 3 (.op 4 (.op 5 (.op 6 (.op 7 (.alt 8 (.op 9 (.done)) (.done))))))))))] } (fn := Tryz.f216) Tryz.func216 (by kernel_rfl) (by kernel_rfl) ?_
  rintro ⟨a0, b0, ⟨⟩⟩ K ⟨r, h, hK⟩
  change laws_eqPinS a0 b0 = some r at h
  unfold laws_eqPinS at h
  conv => whnf
  refine vNots ?_
  refine vIfD h (fun h => ?_) (fun h => ?_)
  · conv => whnf
    refine vLoop h ?_
    rintro I0 μ0 ⟨i0, ⟨⟩⟩ zs0 h hI0 hR0
    change laws_eqPinS_loop0 a0 b0 i0 = some zs0 at h
    unfold laws_eqPinS_loop0 at h
    conv => whnf
    refine vIfD h (fun h => ?_) (fun h => ?_)
    · conv => whnf
      refine ⟨by kernel_rfl, ?_⟩
      conv => whnf
      refine vAt h (fun x0 he1a he1b he1x h => ?_)
      conv => whnf
      refine vAt h (fun x1 he2a he2b he2x h => ?_)
      conv => whnf
      refine vBind h (fun eqPin0 hb3 h => ?_)
      conv => whnf
      refine vNots ?_
      refine vIfB h (fun h => ?_) (fun h => ?_)
      · conv => whnf
        cases h
        exact ⟨⟨rfl, rfl⟩, hI0 _ rfl⟩
      · conv => whnf
        cases h
        obtain rfl := hR0 _ rfl
        exact hK
    · conv => whnf
      cases h
      obtain rfl := hR0 _ rfl
      exact hK
  · conv => whnf
    cases h
    exact hK
theorem w_laws_eqPort : SoundC Tryz.prog 163 c_laws_eqPort := by
  refine fn_sound tab_ok gam_nil mixed {} (fn := Tryz.f163) Tryz.func163 (by kernel_rfl) (by kernel_rfl) ?_
  rintro ⟨a0, b0, ⟨⟩⟩ K ⟨r, h, hK⟩
  change laws_eqPort a0 b0 = some r at h
  unfold laws_eqPort at h
  conv => whnf
  refine vNots ?_
  refine vIfD h (fun h => ?_) (fun h => ?_)
  · conv => whnf
    refine vNots ?_
    refine vIfD h (fun h => ?_) (fun h => ?_)
    · conv => whnf
      refine vNots ?_
      refine vIfD h (fun h => ?_) (fun h => ?_)
      · conv => whnf
        cases h
        exact hK
      · conv => whnf
        cases h
        exact hK
    · conv => whnf
      cases h
      exact hK
  · conv => whnf
    cases h
    exact hK
theorem w_laws_eqStringS : SoundC Tryz.prog 105 c_laws_eqStringS := by
  refine fn_sound tab_ok gam_nil mixed { loops := [(0, [.reg 5 (.dat (.int .i64))])], draws := [(6, [0, 0, 3, 7, 0, 0, 48, 112, 255], .op 0 (.op 1 (.op 2 (.op 3 (.op 4 (.op 5 (.op 6 (.op 7 (.op 8 (.done))))))))))] } (fn := Tryz.f105) Tryz.func105 (by kernel_rfl) (by kernel_rfl) ?_
  rintro ⟨a0, b0, ⟨⟩⟩ K ⟨r, h, hK⟩
  change laws_eqStringS a0 b0 = some r at h
  unfold laws_eqStringS at h
  conv => whnf
  refine vNots ?_
  refine vIfD h (fun h => ?_) (fun h => ?_)
  · conv => whnf
    refine vLoop h ?_
    rintro I0 μ0 ⟨i0, ⟨⟩⟩ zs0 h hI0 hR0
    change laws_eqStringS_loop0 a0 b0 i0 = some zs0 at h
    unfold laws_eqStringS_loop0 at h
    conv => whnf
    refine vIfD h (fun h => ?_) (fun h => ?_)
    · conv => whnf
      refine ⟨by kernel_rfl, ?_⟩
      conv => whnf
      refine vAt h (fun x0 he1a he1b he1x h => ?_)
      conv => whnf
      refine vAt h (fun x1 he2a he2b he2x h => ?_)
      conv => whnf
      refine vNots ?_
      refine vIfD h (fun h => ?_) (fun h => ?_)
      · conv => whnf
        cases h
        exact ⟨⟨rfl, rfl⟩, hI0 _ rfl⟩
      · conv => whnf
        cases h
        obtain rfl := hR0 _ rfl
        exact hK
    · conv => whnf
      cases h
      obtain rfl := hR0 _ rfl
      exact hK
  · conv => whnf
    cases h
    exact hK
theorem w_laws_heldInt64S : SoundC Tryz.prog 18 c_laws_heldInt64S := by
  refine fn_sound tab_ok gam_nil mixed { loops := [(0, [.reg 1 (.dat (.int .i64)), .reg 5 (.dat (.int .i64))])] } (fn := Tryz.f18) Tryz.func18 (by kernel_rfl) (by kernel_rfl) ?_
  rintro ⟨a0, k0, ⟨⟩⟩ K ⟨r, h, hK⟩
  change laws_heldInt64S a0 k0 = some r at h
  unfold laws_heldInt64S at h
  conv => whnf
  refine vLoop h ?_
  rintro I0 μ0 ⟨k1, i0, ⟨⟩⟩ zs0 h hI0 hR0
  change laws_heldInt64S_loop0 a0 k1 i0 = some zs0 at h
  unfold laws_heldInt64S_loop0 at h
  conv => whnf
  refine vIfD h (fun h => ?_) (fun h => ?_)
  · conv => whnf
    refine vAt h (fun x0 he1a he1b he1x h => ?_)
    conv => whnf
    refine vNots ?_
    refine vIfD h (fun h => ?_) (fun h => ?_)
    · conv => whnf
      cases h
      exact ⟨⟨rfl, rfl⟩, hI0 _ rfl⟩
    · conv => whnf
      cases h
      obtain rfl := hR0 _ rfl
      exact hK
  · conv => whnf
    cases h
    obtain rfl := hR0 _ rfl
    exact hK
theorem w_laws_markInstanceS (q1 : SoundC Tryz.prog 141 c_laws_markText) (q0 : SoundC Tryz.prog 17 c_laws_markInt64S) : SoundC Tryz.prog 108 c_laws_markInstanceS := by
  refine fn_sound tabD_ok (gam_cons q1 (gam_cons q0 gam_nil)) mixed { loops := [(0, [.reg 1 (.dat (.int .i64)), .reg 5 (.dat (.int .i64)), .ent 0 (nat_lit 177) (Dp.pair (Dp.flat Ty.str) (Dp.pair (Dp.flat (Ty.int IntKind.i64)) (Dp.pair (Dp.ol (2 : Go.TypeId) (Dp.flat (Ty.int IntKind.i64))) (Dp.flat Ty.unit))))])] } (fn := Tryz.f108) Tryz.func108 (by kernel_rfl) (by kernel_rfl) ?_
  rintro ⟨a0, k0, ⟨⟩⟩ K ⟨r, h, hK⟩
  change laws_markInstanceS a0 k0 = some r at h
  unfold laws_markInstanceS at h
  conv => whnf
  intro fp0
  conv => whnf
  refine vLoop h ?_
  rintro I1 μ1 ⟨k1, i0, l0, ⟨⟩⟩ zs1 h hI1 hR1
  change laws_markInstanceS_loop0 k1 i0 l0 = some zs1 at h
  unfold laws_markInstanceS_loop0 at h
  conv => whnf
  intro fp2
  conv => whnf
  refine vIfD h (fun h => ?_) (fun h => ?_)
  · conv => whnf
    refine vBind h (fun markText0 hb3 h => ?_)
    conv => whnf
    refine vAt h (fun x0 he4a he4b he4x h => ?_)
    conv => whnf
    refine ⟨he4a, he4b, vAgain he4x ?_⟩
    conv => whnf
    intro fp5
    conv => whnf
    refine ⟨he4a, he4b, vAgain he4x ?_⟩
    conv => whnf
    refine .inl ⟨rfl, ?_⟩
    conv => whnf
    refine ⟨he4a, he4b, vAgain he4x ?_⟩
    conv => whnf
    refine .inl ⟨rfl, ?_⟩
    conv => whnf
    refine vBind h (fun markInt64S0 hb6 h => ?_)
    conv => whnf
    cases h
    exact ⟨⟨rfl, rfl⟩, hI1 _ rfl⟩
  · conv => whnf
    cases h
    obtain rfl := hR1 _ rfl
    exact hK
theorem w_laws_markPortS (q0 : SoundC Tryz.prog 141 c_laws_markText) : SoundC Tryz.prog 110 c_laws_markPortS := by
  refine fn_sound tabD_ok (gam_cons q0 gam_nil) mixed { loops := [(0, [.reg 1 (.dat (.int .i64)), .reg 5 (.dat (.int .i64)), .ent 0 (nat_lit 256) (.flat tPort)])] } (fn := Tryz.f110) Tryz.func110 (by kernel_rfl) (by kernel_rfl) ?_
  rintro ⟨a0, k0, ⟨⟩⟩ K ⟨r, h, hK⟩
  change laws_markPortS a0 k0 = some r at h
  unfold laws_markPortS at h
  conv => whnf
  refine vLoop h ?_
  rintro I0 μ0 ⟨k1, i0, l0, ⟨⟩⟩ zs0 h hI0 hR0
  change laws_markPortS_loop0 k1 i0 l0 = some zs0 at h
  unfold laws_markPortS_loop0 at h
  conv => whnf
  refine vIfD h (fun h => ?_) (fun h => ?_)
  · conv => whnf
    refine vBind h (fun markText0 hb1 h => ?_)
    conv => whnf
    refine vAt h (fun x0 he2a he2b he2x h => ?_)
    conv => whnf
    refine ⟨by kernel_rfl, ?_⟩
    conv => whnf
    refine ⟨by decide, ?_⟩
    conv => whnf
    refine ⟨he2a, he2b, vAgain he2x ?_⟩
    conv => whnf
    refine vAt h (fun x1 he3a he3b he3x h => ?_)
    conv => whnf
    refine ⟨by kernel_rfl, ?_⟩
    conv => whnf
    refine ⟨by decide, ?_⟩
    conv => whnf
    refine ⟨he3a, he3b, vAgain he3x ?_⟩
    conv => whnf
    refine vAt h (fun x2 he4a he4b he4x h => ?_)
    conv => whnf
    refine ⟨by kernel_rfl, ?_⟩
    conv => whnf
    refine ⟨by decide, ?_⟩
    conv => whnf
    refine ⟨he4a, he4b, vAgain he4x ?_⟩
    conv => whnf
    cases h
    exact ⟨⟨rfl, rfl⟩, hI0 _ rfl⟩
  · conv => whnf
    cases h
    obtain rfl := hR0 _ rfl
    exact hK
theorem w_laws_markStringS (q0 : SoundC Tryz.prog 141 c_laws_markText) : SoundC Tryz.prog 109 c_laws_markStringS := by
  refine fn_sound tabD_ok (gam_cons q0 gam_nil) mixed { loops := [(0, [.reg 1 (.dat (.int .i64)), .reg 5 (.dat (.int .i64)), .ent 0 (nat_lit 9) (.flat Ty.str)])] } (fn := Tryz.f109) Tryz.func109 (by kernel_rfl) (by kernel_rfl) ?_
  rintro ⟨a0, k0, ⟨⟩⟩ K ⟨r, h, hK⟩
  change laws_markStringS a0 k0 = some r at h
  unfold laws_markStringS at h
  conv => whnf
  refine vLoop h ?_
  rintro I0 μ0 ⟨k1, i0, l0, ⟨⟩⟩ zs0 h hI0 hR0
  change laws_markStringS_loop0 k1 i0 l0 = some zs0 at h
  unfold laws_markStringS_loop0 at h
  conv => whnf
  refine vIfD h (fun h => ?_) (fun h => ?_)
  · conv => whnf
    refine vBind h (fun markText0 hb1 h => ?_)
    conv => whnf
    refine vAt h (fun x0 he2a he2b he2x h => ?_)
    conv => whnf
    refine ⟨by kernel_rfl, ?_⟩
    conv => whnf
    refine ⟨by decide, ?_⟩
    conv => whnf
    refine ⟨he2a, he2b, vAgain he2x ?_⟩
    conv => whnf
    cases h
    exact ⟨⟨rfl, rfl⟩, hI0 _ rfl⟩
  · conv => whnf
    cases h
    obtain rfl := hR0 _ rfl
    exact hK
theorem w_laws_markText : SoundC Tryz.prog 141 c_laws_markText := by
  refine fn_sound tab_ok gam_nil mixed { loops := [(0, [.reg 0 (.dat (.int .i64)), .reg 3 (.dat (.str))])] } (fn := Tryz.f141) Tryz.func141 (by kernel_rfl) (by kernel_rfl) ?_
  rintro ⟨k0, ⟨⟩⟩ K ⟨r, h, hK⟩
  change laws_markText k0 = some r at h
  unfold laws_markText at h
  conv => whnf
  refine vIfD h (fun h => ?_) (fun h => ?_)
  · conv => whnf
    cases h
    exact hK
  · conv => whnf
    refine vLoop h ?_
    rintro I0 μ0 ⟨k1, out0, ⟨⟩⟩ zs0 h hI0 hR0
    change laws_markText_loop0 k1 out0 = some zs0 at h
    unfold laws_markText_loop0 at h
    conv => whnf
    refine vIfD h (fun h => ?_) (fun h => ?_)
    · conv => whnf
      refine ⟨by decide, ?_⟩
      conv => whnf
      refine vPre h (fun hp1 h => ?_)
      conv => whnf
      refine ⟨by decide, ?_⟩
      conv => whnf
      cases h
      exact ⟨⟨rfl, rfl⟩, hI0 _ rfl⟩
    · conv => whnf
      refine vPre h (fun hp2 h => ?_)
      conv => whnf
      cases h
      obtain rfl := hR0 _ rfl
      exact hK
theorem w_laws_markWire (q0 : SoundC Tryz.prog 17 c_laws_markInt64S) : SoundC Tryz.prog 54 c_laws_markWire := by
  refine fn_sound tabD_ok (gam_cons q0 gam_nil) mixed {} (fn := Tryz.f54) Tryz.func54 (by kernel_rfl) (by kernel_rfl) ?_
  rintro ⟨a0, k0, ⟨⟩⟩ K ⟨r, h, hK⟩
  change laws_markWire a0 k0 = some r at h
  unfold laws_markWire at h
  conv => whnf
  refine vBind h (fun markInt64S0 hb0 h => ?_)
  conv => whnf
  refine vBind h (fun markInt64S1 hb1 h => ?_)
  conv => whnf
  refine vBind h (fun markInt64S2 hb2 h => ?_)
  conv => whnf
  refine vBind h (fun markInt64S3 hb3 h => ?_)
  conv => whnf
  cases h
  exact hK
theorem w_laws_szLibrary (q0 : SoundC Tryz.prog 84 c_laws_szCellS) : SoundC Tryz.prog 35 c_laws_szLibrary := by
  refine fn_sound tab_ok (gam_cons q0 gam_nil) mixed {} (fn := Tryz.f35) Tryz.func35 (by kernel_rfl) (by kernel_rfl) ?_
  rintro ⟨a0, left0, ⟨⟩⟩ K ⟨r, h, hK⟩
  change laws_szLibrary a0 left0 = some r at h
  unfold laws_szLibrary at h
  conv => whnf
  refine vBind h (fun szCellS0 hb0 h => ?_)
  conv => whnf
  refine vIfD h (fun h => ?_) (fun h => ?_)
  · conv => whnf
    cases h
    exact hK
  · conv => whnf
    cases h
    exact hK
theorem w_laws_szPin : SoundC Tryz.prog 228 c_laws_szPin := by
  refine fn_sound tab_ok gam_nil mixed {} (fn := Tryz.f228) Tryz.func228 (by kernel_rfl) (by kernel_rfl) ?_
  rintro ⟨a0, left0, ⟨⟩⟩ K ⟨r, h, hK⟩
  change laws_szPin a0 left0 = some r at h
  unfold laws_szPin at h
  conv => whnf
  refine vIfD h (fun h => ?_) (fun h => ?_)
  · conv => whnf
    cases h
    exact hK
  · conv => whnf
    cases h
    exact hK
theorem w_laws_szPortS (q0 : SoundC Tryz.prog 144 c_laws_szPort) : SoundC Tryz.prog 87 c_laws_szPortS := by
  refine fn_sound tab_ok (gam_cons q0 gam_nil) mixed { loops := [(0, [.reg 1 (.dat (.int .i64)), .reg 5 (.dat (.int .i64))])] } (fn := Tryz.f87) Tryz.func87 (by kernel_rfl) (by kernel_rfl) ?_
  rintro ⟨a0, left0, ⟨⟩⟩ K ⟨r, h, hK⟩
  change laws_szPortS a0 left0 = some r at h
  unfold laws_szPortS at h
  conv => whnf
  refine vIfD h (fun h => ?_) (fun h => ?_)
  · conv => whnf
    cases h
    exact hK
  · conv => whnf
    refine vLoop h ?_
    rintro I0 μ0 ⟨left1, i0, ⟨⟩⟩ zs0 h hI0 hR0
    change laws_szPortS_loop0 a0 left1 i0 = some zs0 at h
    unfold laws_szPortS_loop0 at h
    conv => whnf
    refine vIfD h (fun h => ?_) (fun h => ?_)
    · conv => whnf
      refine vAt h (fun x0 he1a he1b he1x h => ?_)
      conv => whnf
      refine vBind h (fun szPort0 hb2 h => ?_)
      conv => whnf
      refine vIfD h (fun h => ?_) (fun h => ?_)
      · conv => whnf
        cases h
        obtain rfl := hR0 _ rfl
        exact hK
      · conv => whnf
        cases h
        exact ⟨⟨rfl, rfl⟩, hI0 _ rfl⟩
    · conv => whnf
      cases h
      obtain rfl := hR0 _ rfl
      exact hK
theorem w_laws_toCell (q1 : SoundC Tryz.prog 196 c_laws_toPinS) (q2 : SoundC Tryz.prog 197 c_laws_toArcS) (q0 : SoundC Tryz.prog 98 c_laws_toInt64S) : SoundC Tryz.prog 154 c_laws_toCell := by
  refine fn_sound tabD_ok (gam_cons q1 (gam_cons q2 (gam_cons q0 gam_nil))) mixed {} (fn := Tryz.f154) Tryz.func154 (by kernel_rfl) (by kernel_rfl) ?_
  rintro ⟨a0, ⟨⟩⟩ K ⟨r, h, hK⟩
  change laws_toCell a0 = some r at h
  unfold laws_toCell at h
  conv => whnf
  refine vBind h (fun toPinS0 hb0 h => ?_)
  conv => whnf
  refine vBind h (fun toArcS0 hb1 h => ?_)
  conv => whnf
  intro fp2
  conv => whnf
  refine vBind h (fun toInt64S0 hb3 h => ?_)
  conv => whnf
  cases h
  exact hK
theorem w_laws_toInt64S : SoundC Tryz.prog 98 c_laws_toInt64S := by
  refine fn_sound tab_ok gam_nil mixed { loops := [(0, [.reg 4 (.dat (.int .i64)), .ent 0 (nat_lit 2) (.flat ti33.ety)])] } (fn := Tryz.f98) Tryz.func98 (by kernel_rfl) (by kernel_rfl) ?_
  rintro ⟨a0, ⟨⟩⟩ K ⟨r, h, hK⟩
  change laws_toInt64S a0 = some r at h
  unfold laws_toInt64S at h
  conv => whnf
  refine vPre h (fun hp0 h => ?_)
  conv => whnf
  refine vPre h (fun hp1 h => ?_)
  conv => whnf
  refine vPre h (fun hp2 h => ?_)
  conv => whnf
  refine vPre h (fun hp3 h => ?_)
  conv => whnf
  refine vLoop h ?_
  rintro I4 μ4 ⟨i0, l0, ⟨⟩⟩ zs4 h hI4 hR4
  change laws_toInt64S_loop0 a0 i0 l0 = some zs4 at h
  unfold laws_toInt64S_loop0 at h
  conv => whnf
  refine vIfD h (fun h => ?_) (fun h => ?_)
  · conv => whnf
    refine vAt h (fun x0 he5a he5b he5x h => ?_)
    conv => whnf
    refine vAt h (fun x1 he6a he6b he6x h => ?_)
    conv => whnf
    refine ⟨by kernel_rfl, ?_⟩
    conv => whnf
    refine ⟨by decide, ?_⟩
    conv => whnf
    refine ⟨he6a, he6b, vAgain he6x ?_⟩
    conv => whnf
    cases h
    exact ⟨⟨rfl, rfl⟩, hI4 _ rfl⟩
  · conv => whnf
    cases h
    obtain rfl := hR4 _ rfl
    exact hK
theorem w_laws_toPin : SoundC Tryz.prog 231 c_laws_toPin := by
  refine fn_sound tab_ok gam_nil mixed {} (fn := Tryz.f231) Tryz.func231 (by kernel_rfl) (by kernel_rfl) ?_
  rintro ⟨a0, ⟨⟩⟩ K ⟨r, h, hK⟩
  change laws_toPin a0 = some r at h
  unfold laws_toPin at h
  conv => whnf
  cases h
  exact hK
theorem w_laws_toPinS (q0 : SoundC Tryz.prog 231 c_laws_toPin) : SoundC Tryz.prog 196 c_laws_toPinS := by
  refine fn_sound tab_ok (gam_cons q0 gam_nil) mixed { loops := [(0, [.reg 4 (.dat (.int .i64)), .ent 0 (nat_lit 285) (.flat ti249.ety)])] } (fn := Tryz.f196) Tryz.func196 (by kernel_rfl) (by kernel_rfl) ?_
  rintro ⟨a0, ⟨⟩⟩ K ⟨r, h, hK⟩
  change laws_toPinS a0 = some r at h
  unfold laws_toPinS at h
  conv => whnf
  refine vPre h (fun hp0 h => ?_)
  conv => whnf
  refine vPre h (fun hp1 h => ?_)
  conv => whnf
  refine vPre h (fun hp2 h => ?_)
  conv => whnf
  refine vPre h (fun hp3 h => ?_)
  conv => whnf
  refine vLoop h ?_
  rintro I4 μ4 ⟨i0, l0, ⟨⟩⟩ zs4 h hI4 hR4
  change laws_toPinS_loop0 a0 i0 l0 = some zs4 at h
  unfold laws_toPinS_loop0 at h
  conv => whnf
  refine vIfD h (fun h => ?_) (fun h => ?_)
  · conv => whnf
    refine vAt h (fun x0 he5a he5b he5x h => ?_)
    conv => whnf
    refine vBind h (fun toPin0 hb6 h => ?_)
    conv => whnf
    refine vAt h (fun x1 he7a he7b he7x h => ?_)
    conv => whnf
    refine ⟨by kernel_rfl, ?_⟩
    conv => whnf
    refine ⟨by decide, ?_⟩
    conv => whnf
    refine ⟨he7a, he7b, vAgain he7x ?_⟩
    conv => whnf
    cases h
    exact ⟨⟨rfl, rfl⟩, hI4 _ rfl⟩
  · conv => whnf
    cases h
    obtain rfl := hR4 _ rfl
    exact hK
theorem w_laws_toPort : SoundC Tryz.prog 156 c_laws_toPort := by
  refine fn_sound tab_ok gam_nil mixed {} (fn := Tryz.f156) Tryz.func156 (by kernel_rfl) (by kernel_rfl) ?_
  rintro ⟨a0, ⟨⟩⟩ K ⟨r, h, hK⟩
  change laws_toPort a0 = some r at h
  unfold laws_toPort at h
  conv => whnf
  cases h
  exact hK
theorem w_slices_ContainsFunc_Simpl_Arc_impl_Arc_at_impl_Cell_areArcs_c1 (q0 : SoundC Tryz.prog 291 c_slices_IndexFunc_Simpl_Arc_impl_Arc_at_impl_Cell_areArcs_c1) : SoundC Tryz.prog 276 c_slices_ContainsFunc_Simpl_Arc_impl_Arc_at_impl_Cell_areArcs_c1 := by
  refine fn_sound tab_ok (gam_cons q0 gam_nil) mixed {} (fn := Tryz.f276) Tryz.func276 (by kernel_rfl) (by kernel_rfl) ?_
  rintro ⟨s0, f0, ⟨⟩⟩ K ⟨r, h, hK⟩
  change slices_ContainsFunc_Simpl_Arc_impl_Arc_at_impl_Cell_areArcs_c1 s0 f0 = some r at h
  unfold slices_ContainsFunc_Simpl_Arc_impl_Arc_at_impl_Cell_areArcs_c1 at h
  conv => whnf
  refine vBind h (fun c1_0 hb0 h => ?_)
  conv => whnf
  cases h
  exact hK
theorem w_slices_Equal_Sint64_int64 : SoundC Tryz.prog 261 c_slices_Equal_Sint64_int64 := by
  refine fn_sound tab_ok gam_nil mixed { loops := [(0, [.reg 13 (.dat (.int .i64))])], draws := [(6, [0, 0, 3, 7, 0, 0, 48, 112, 255], .op 0 (.op 1 (.op 2 (.op 3 (.op 4 (.op 5 (.op 6 (.op 7 (.op 8 (.done))))))))))] } (fn := Tryz.f261) Tryz.func261 (by kernel_rfl) (by kernel_rfl) ?_
  rintro ⟨s1_0, s2_0, ⟨⟩⟩ K ⟨r, h, hK⟩
  change slices_Equal_Sint64_int64 s1_0 s2_0 = some r at h
  unfold slices_Equal_Sint64_int64 at h
  conv => whnf
  refine vNots ?_
  refine vIfD h (fun h => ?_) (fun h => ?_)
  · conv => whnf
    refine vLoop h ?_
    rintro I0 μ0 ⟨v0, ⟨⟩⟩ zs0 h hI0 hR0
    change slices_Equal_Sint64_int64_loop0 s1_0 s2_0 v0 = some zs0 at h
    unfold slices_Equal_Sint64_int64_loop0 at h
    conv => whnf
    refine vIfD h (fun h => ?_) (fun h => ?_)
    · conv => whnf
      refine ⟨by kernel_rfl, ?_⟩
      conv => whnf
      refine vAt h (fun x0 he1a he1b he1x h => ?_)
      conv => whnf
      refine vAt h (fun x1 he2a he2b he2x h => ?_)
      conv => whnf
      refine vNots ?_
      refine vIfD h (fun h => ?_) (fun h => ?_)
      · conv => whnf
        cases h
        exact ⟨⟨rfl, rfl⟩, hI0 _ rfl⟩
      · conv => whnf
        cases h
        obtain rfl := hR0 _ rfl
        exact hK
    · conv => whnf
      cases h
      obtain rfl := hR0 _ rfl
      exact hK
  · conv => whnf
    cases h
    exact hK
theorem w_slices_IndexFunc_Sint64_int64_at_impl_areWithin_c1 (q0 : SoundC Tryz.prog 238 c_impl_areWithin_c1) : SoundC Tryz.prog 260 c_slices_IndexFunc_Sint64_int64_at_impl_areWithin_c1 := by
  refine fn_sound tab_ok (gam_cons q0 gam_nil) mixed { loops := [(0, [.reg 8 (.dat (.int .i64))])] } (fn := Tryz.f260) Tryz.func260 (by kernel_rfl) (by kernel_rfl) ?_
  rintro ⟨s0, f0, ⟨⟩⟩ K ⟨r, h, hK⟩
  change slices_IndexFunc_Sint64_int64_at_impl_areWithin_c1 s0 f0 = some r at h
  unfold slices_IndexFunc_Sint64_int64_at_impl_areWithin_c1 at h
  conv => whnf
  refine vLoop h ?_
  rintro I0 μ0 ⟨v0, ⟨⟩⟩ zs0 h hI0 hR0
  change slices_IndexFunc_Sint64_int64_at_impl_areWithin_c1_loop0 s0 f0 v0 = some zs0 at h
  unfold slices_IndexFunc_Sint64_int64_at_impl_areWithin_c1_loop0 at h
  conv => whnf
  refine vIfD h (fun h => ?_) (fun h => ?_)
  · conv => whnf
    refine vAt h (fun x0 he1a he1b he1x h => ?_)
    conv => whnf
    refine vBind h (fun c1_0 hb2 h => ?_)
    conv => whnf
    refine vIfB h (fun h => ?_) (fun h => ?_)
    · conv => whnf
      cases h
      obtain rfl := hR0 _ rfl
      exact hK
    · conv => whnf
      cases h
      exact ⟨⟨rfl, rfl⟩, hI0 _ rfl⟩
  · conv => whnf
    cases h
    obtain rfl := hR0 _ rfl
    exact hK
theorem w_spec_IsWire (q0 : SoundC Tryz.prog 112 c_spec_l01In) : SoundC Tryz.prog 146 c_spec_IsWire := by
  refine fn_sound tab_ok (gam_cons q0 gam_nil) mixed { loops := [(0, [.reg 6 (.dat (.int .i64))]), (2, [.reg 7 (.dat (.int .i64))])] } (fn := Tryz.f146) Tryz.func146 (by kernel_rfl) (by kernel_rfl) ?_
  rintro ⟨a0, a1, ⟨⟩⟩ K ⟨r, h, hK⟩
  change spec_IsWire a0 a1 = some r at h
  unfold spec_IsWire at h
  conv => whnf
  refine vIfDs h (fun h => ?_) (fun h => ?_)
  · conv => whnf
    cases h
    exact hK
  · conv => whnf
    refine vIfDs h (fun h => ?_) (fun h => ?_)
    · conv => whnf
      cases h
      exact hK
    · conv => whnf
      refine vNot ?_
      refine vIfD h (fun h => ?_) (fun h => ?_)
      · conv => whnf
        refine vNot ?_
        refine vIfD h (fun h => ?_) (fun h => ?_)
        · conv => whnf
          refine vNots ?_
          refine vIfD h (fun h => ?_) (fun h => ?_)
          · conv => whnf
            refine vLoop h ?_
            rintro I0 μ0 ⟨v0, ⟨⟩⟩ zs0 h hI0 hR0
            change spec_IsWire_loop1 a0 v0 = some zs0 at h
            unfold spec_IsWire_loop1 at h
            conv => whnf
            refine vIfD h (fun h => ?_) (fun h => ?_)
            · conv => whnf
              refine vAt h (fun x0 he1a he1b he1x h => ?_)
              conv => whnf
              refine vBind h (fun l01In0 hb2 h => ?_)
              conv => whnf
              refine vNot ?_
              refine vIfB h (fun h => ?_) (fun h => ?_)
              · conv => whnf
                refine vAt h (fun x1 he3a he3b he3x h => ?_)
                conv => whnf
                refine vBind h (fun l01In1 hb4 h => ?_)
                conv => whnf
                refine vNots ?_
                refine vIfB h (fun h => ?_) (fun h => ?_)
                · conv => whnf
                  refine vIfD h (fun h => ?_) (fun h => ?_)
                  · conv => whnf
                    refine vAt h (fun x2 he5a he5b he5x h => ?_)
                    conv => whnf
                    refine vNot ?_
                    refine vIfD h (fun h => ?_) (fun h => ?_)
                    · conv => whnf
                      refine ⟨he3a, he3b, vAgain he3x ?_⟩
                      conv => whnf
                      refine vNot ?_
                      refine vIfD h (fun h => ?_) (fun h => ?_)
                      · conv => whnf
                        refine vIfD h (fun h => ?_) (fun h => ?_)
                        · conv => whnf
                          refine ⟨he5a, he5b, vAgain he5x ?_⟩
                          conv => whnf
                          refine vBind h (fun l01In2 hb6 h => ?_)
                          conv => whnf
                          refine vNots ?_
                          refine vIfB h (fun h => ?_) (fun h => ?_)
                          · conv => whnf
                            cases h
                            exact ⟨⟨rfl, rfl⟩, hI0 _ rfl⟩
                          · conv => whnf
                            cases h
                            obtain rfl := hR0 _ rfl
                            exact hK
                        · conv => whnf
                          cases h
                          exact ⟨⟨rfl, rfl⟩, hI0 _ rfl⟩
                      · conv => whnf
                        cases h
                        obtain rfl := hR0 _ rfl
                        exact hK
                    · conv => whnf
                      cases h
                      obtain rfl := hR0 _ rfl
                      exact hK
                  · conv => whnf
                    refine vIfD h (fun h => ?_) (fun h => ?_)
                    · conv => whnf
                      refine vAt h (fun x2 he7a he7b he7x h => ?_)
                      conv => whnf
                      refine vBind h (fun l01In2 hb8 h => ?_)
                      conv => whnf
                      refine vNots ?_
                      refine vIfB h (fun h => ?_) (fun h => ?_)
                      · conv => whnf
                        cases h
                        exact ⟨⟨rfl, rfl⟩, hI0 _ rfl⟩
                      · conv => whnf
                        cases h
                        obtain rfl := hR0 _ rfl
                        exact hK
                    · conv => whnf
                      cases h
                      exact ⟨⟨rfl, rfl⟩, hI0 _ rfl⟩
                · conv => whnf
                  cases h
                  obtain rfl := hR0 _ rfl
                  exact hK
              · conv => whnf
                cases h
                obtain rfl := hR0 _ rfl
                exact hK
            · conv => whnf
              refine vLoop h ?_
              rintro I9 μ9 ⟨v1, ⟨⟩⟩ zs9 h hI9 hR9
              change spec_IsWire_loop0 a0 v1 = some zs9 at h
              unfold spec_IsWire_loop0 at h
              conv => whnf
              refine vIfD h (fun h => ?_) (fun h => ?_)
              · conv => whnf
                refine vAt h (fun x0 he10a he10b he10x h => ?_)
                conv => whnf
                refine vBind h (fun l01In0 hb11 h => ?_)
                conv => whnf
                refine vNots ?_
                refine vIfB h (fun h => ?_) (fun h => ?_)
                · conv => whnf
                  cases h
                  exact ⟨⟨rfl, rfl⟩, hI9 _ rfl⟩
                · conv => whnf
                  cases h
                  obtain rfl := hR9 _ rfl
                  obtain rfl := hR0 _ rfl
                  exact hK
              · conv => whnf
                cases h
                obtain rfl := hR9 _ rfl
                obtain rfl := hR0 _ rfl
                exact hK
          · conv => whnf
            cases h
            exact hK
        · conv => whnf
          cases h
          exact hK
      · conv => whnf
        cases h
        exact hK
theorem w_spec_l01In : SoundC Tryz.prog 112 c_spec_l01In := by
  refine fn_sound tab_ok gam_nil mixed {} (fn := Tryz.f112) Tryz.func112 (by kernel_rfl) (by kernel_rfl) ?_
  rintro ⟨n0, low0, high0, ⟨⟩⟩ K ⟨r, h, hK⟩
  change spec_l01In n0 low0 high0 = some r at h
  unfold spec_l01In at h
  conv => whnf
  refine vIfD h (fun h => ?_) (fun h => ?_)
  · conv => whnf
    cases h
    exact hK
  · conv => whnf
    cases h
    exact hK
theorem w_spec_l03Name : SoundC Tryz.prog 150 c_spec_l03Name := by
  refine fn_sound tab_ok gam_nil mixed { loops := [(0, [.reg 3 (.dat (.int .i64))])] } (fn := Tryz.f150) Tryz.func150 (by kernel_rfl) (by kernel_rfl) ?_
  rintro ⟨s0, ⟨⟩⟩ K ⟨r, h, hK⟩
  change spec_l03Name s0 = some r at h
  unfold spec_l03Name at h
  conv => whnf
  refine vLoop h ?_
  rintro I0 μ0 ⟨i0, ⟨⟩⟩ zs0 h hI0 hR0
  change spec_l03Name_loop0 s0 i0 = some zs0 at h
  unfold spec_l03Name_loop0 at h
  conv => whnf
  refine vIfD h (fun h => ?_) (fun h => ?_)
  · conv => whnf
    refine vAt h (fun x0 he1a he1b he1x h => ?_)
    conv => whnf
    refine vIfD h (fun h => ?_) (fun h => ?_)
    · conv => whnf
      refine ⟨he1a, he1b, vAgain he1x ?_⟩
      conv => whnf
      refine ⟨he1a, he1b, vAgain he1x ?_⟩
      conv => whnf
      refine vIfD h (fun h => ?_) (fun h => ?_)
      · conv => whnf
        refine ⟨he1a, he1b, vAgain he1x ?_⟩
        conv => whnf
        refine vNots ?_
        refine vIfD h (fun h => ?_) (fun h => ?_)
        · conv => whnf
          cases h
          exact ⟨⟨rfl, rfl⟩, hI0 _ rfl⟩
        · conv => whnf
          refine vIfD h (fun h => ?_) (fun h => ?_)
          · conv => whnf
            refine vNots ?_
            refine vIfD h (fun h => ?_) (fun h => ?_)
            · conv => whnf
              cases h
              exact ⟨⟨rfl, rfl⟩, hI0 _ rfl⟩
            · conv => whnf
              cases h
              obtain rfl := hR0 _ rfl
              exact hK
          · conv => whnf
            cases h
            obtain rfl := hR0 _ rfl
            exact hK
      · conv => whnf
        refine vNots ?_
        refine vIfD h (fun h => ?_) (fun h => ?_)
        · conv => whnf
          cases h
          exact ⟨⟨rfl, rfl⟩, hI0 _ rfl⟩
        · conv => whnf
          cases h
          obtain rfl := hR0 _ rfl
          exact hK
    · conv => whnf
      refine ⟨he1a, he1b, vAgain he1x ?_⟩
      conv => whnf
      refine vIfD h (fun h => ?_) (fun h => ?_)
      · conv => whnf
        refine ⟨he1a, he1b, vAgain he1x ?_⟩
        conv => whnf
        refine vIfD h (fun h => ?_) (fun h => ?_)
        · conv => whnf
          refine vNots ?_
          refine vIfD h (fun h => ?_) (fun h => ?_)
          · conv => whnf
            cases h
            exact ⟨⟨rfl, rfl⟩, hI0 _ rfl⟩
          · conv => whnf
            cases h
            obtain rfl := hR0 _ rfl
            exact hK
        · conv => whnf
          cases h
          obtain rfl := hR0 _ rfl
          exact hK
      · conv => whnf
        cases h
        obtain rfl := hR0 _ rfl
        exact hK
  · conv => whnf
    refine vIfD h (fun h => ?_) (fun h => ?_)
    · conv => whnf
      cases h
      obtain rfl := hR0 _ rfl
      exact hK
    · conv => whnf
      cases h
      obtain rfl := hR0 _ rfl
      exact hK
theorem w_spec_l08Range (q0 : SoundC Tryz.prog 93 c_spec_l05Places) (q1 : SoundC Tryz.prog 112 c_spec_l01In) : SoundC Tryz.prog 91 c_spec_l08Range := by
  refine fn_sound tab_ok (gam_cons q0 (gam_cons q1 gam_nil)) mixed { draws := [(9, [0, 1, 0, 4, 15, 31, 63, 127, 63, 319, 1023, 2047, 4095, 8191, 16383, 8191, 40959, 8191, 139263, 499711, 1023999, 2072575, 4169727, 8364031, 16777215, 33554431, 67108863], .op 0 (.op 1 (.op 2 (.op 3 (.alt 4 (.op 5 (.op 6 (.op 7 (.op 8 (.op 9 (.alt 10 (.op 11 (.op 12 (.op 13 (.op 14 (.op 15 (.op 16 (.op 17 (.op 18 (.op 19 (.op 20 (.op 21 (.op 22 (.op 23 (.alt 24 (.op 25 (.op 26 (.done))) (.done))))))))))))))) (.done))))))) (.done))))))] } (fn := Tryz.f91) Tryz.func91 (by kernel_rfl) (by kernel_rfl) ?_
  rintro ⟨a0, a1, ⟨⟩⟩ K ⟨r, h, hK⟩
  change spec_l08Range a0 a1 = some r at h
  unfold spec_l08Range at h
  conv => whnf
  refine vBind h (fun l05Places0 hb0 h => ?_)
  conv => whnf
  refine vIfD h (fun h => ?_) (fun h => ?_)
  · conv => whnf
    refine vIfD h (fun h => ?_) (fun h => ?_)
    · conv => whnf
      refine vBind h (fun l01In0 hb1 h => ?_)
      conv => whnf
      refine vIfB h (fun h => ?_) (fun h => ?_)
      · conv => whnf
        refine vBind h (fun l01In1 hb2 h => ?_)
        conv => whnf
        cases h
        exact hK
      · conv => whnf
        cases h
        exact hK
    · conv => whnf
      refine vIfD h (fun h => ?_) (fun h => ?_)
      · conv => whnf
        refine ⟨by kernel_rfl, ?_⟩
        conv => whnf
        refine vBind h (fun l01In0 hb3 h => ?_)
        conv => whnf
        refine vIfB h (fun h => ?_) (fun h => ?_)
        · conv => whnf
          refine vBind h (fun l01In1 hb4 h => ?_)
          conv => whnf
          refine vIfB h (fun h => ?_) (fun h => ?_)
          · conv => whnf
            refine vAt h (fun x0 he5a he5b he5x h => ?_)
            conv => whnf
            refine vBind h (fun l01In2 hb6 h => ?_)
            conv => whnf
            cases h
            exact hK
          · conv => whnf
            cases h
            exact hK
        · conv => whnf
          cases h
          exact hK
      · conv => whnf
        refine vIfD h (fun h => ?_) (fun h => ?_)
        · conv => whnf
          refine vBind h (fun l01In0 hb7 h => ?_)
          conv => whnf
          cases h
          exact hK
        · conv => whnf
          cases h
          exact hK
  · conv => whnf
    refine vIfD h (fun h => ?_) (fun h => ?_)
    · conv => whnf
      refine vBind h (fun l01In0 hb8 h => ?_)
      conv => whnf
      refine vIfB h (fun h => ?_) (fun h => ?_)
      · conv => whnf
        refine vBind h (fun l01In1 hb9 h => ?_)
        conv => whnf
        cases h
        exact hK
      · conv => whnf
        cases h
        exact hK
    · conv => whnf
      refine vIfD h (fun h => ?_) (fun h => ?_)
      · conv => whnf
        refine ⟨by kernel_rfl, ?_⟩
        conv => whnf
        refine vBind h (fun l01In0 hb10 h => ?_)
        conv => whnf
        refine vIfB h (fun h => ?_) (fun h => ?_)
        · conv => whnf
          refine vBind h (fun l01In1 hb11 h => ?_)
          conv => whnf
          refine vIfB h (fun h => ?_) (fun h => ?_)
          · conv => whnf
            refine vAt h (fun x0 he12a he12b he12x h => ?_)
            conv => whnf
            refine vBind h (fun l01In2 hb13 h => ?_)
            conv => whnf
            cases h
            exact hK
          · conv => whnf
            cases h
            exact hK
        · conv => whnf
          cases h
          exact hK
      · conv => whnf
        refine vIfD h (fun h => ?_) (fun h => ?_)
        · conv => whnf
          refine vBind h (fun l01In0 hb14 h => ?_)
          conv => whnf
          cases h
          exact hK
        · conv => whnf
          cases h
          exact hK
end Go.Proofs.YtaccffcigblceaaGreatDoor
