/-
  The functions keep their contracts, if what they call does. Printed by program.
-/
import Derived.Test.YtenpdmpfepgkjaaGreatDoorM
import Derived.KernelRfl
namespace Go.Proofs.YtenpdmpfepgkjaaGreatDoor
open Go Go.Sx
set_option maxRecDepth 100000
set_option linter.unusedVariables false
set_option linter.unusedSimpArgs false
set_option maxRecDepth 100000 in
theorem w_impl_Cell_clock (k_slices_IndexFunc_Simpl_Pin_impl_Pin_at_impl_Cell_clock_c1' : SoundC Tryz.prog 221 c_slices_IndexFunc_Simpl_Pin_impl_Pin_at_impl_Cell_clock_c1) : SoundC Tryz.prog 207 c_impl_Cell_clock := by
  refine fn_sound tab_ok (gam_cons k_slices_IndexFunc_Simpl_Pin_impl_Pin_at_impl_Cell_clock_c1' gam_nil) mixed {} (fn := Tryz.f207) Tryz.func207 (by kernel_rfl) (by kernel_rfl) ?_
  rintro ⟨c0, ⟨⟩⟩ K ⟨r, h, hK⟩
  change impl_Cell_clock c0 = some r at h
  unfold impl_Cell_clock at h
  conv => whnf
  refine vBind h (fun c1_0 hb0 h => ?_)
  conv => whnf
  cases h
  exact hK
set_option maxRecDepth 100000 in
theorem w_impl_Cell_isArc (k_impl_isCheck' : SoundC Tryz.prog 205 c_impl_isCheck) (k_impl_areTables' : SoundC Tryz.prog 206 c_impl_areTables) (k_impl_Cell_clock' : SoundC Tryz.prog 207 c_impl_Cell_clock) (k_impl_Cell_isInput' : SoundC Tryz.prog 208 c_impl_Cell_isInput) (k_impl_Cell_output' : SoundC Tryz.prog 189 c_impl_Cell_output) (k_impl_within' : SoundC Tryz.prog 109 c_impl_within) : SoundC Tryz.prog 186 c_impl_Cell_isArc := by
  refine fn_sound tab_ok (gam_cons k_impl_isCheck' (gam_cons k_impl_areTables' (gam_cons k_impl_Cell_clock' (gam_cons k_impl_Cell_isInput' (gam_cons k_impl_Cell_output' (gam_cons k_impl_within' gam_nil)))))) mixed { draws := [(2, [0, 1, 3, 7, 15, 31, 63, 127, 255, 511, 1023, 2047, 4095, 8191, 16383, 32767, 65535, 32767, 163839, 524287, 1048575, 2097151, 4194303, 8388607, 16777215, 33554431, 67108863, 134217727, 134217727, 402653183, 1073741823, 2147483647, 4294967295, 8589934591, 17179869183, 8589934591, 42949672959, 137438953471, 274877906943, 549755813887], .op 0 (.op 1 (.op 2 (.op 3 (.op 4 (.op 5 (.op 6 (.op 7 (.op 8 (.op 9 (.op 10 (.op 11 (.alt 12 (.op 13 (.op 14 (.op 15 (.op 16 (.op 17 (.alt 18 (.op 19 (.op 20 (.op 21 (.op 22 (.op 23 (.op 24 (.op 25 (.op 26 (.op 27 (.op 28 (.op 29 (.alt 30 (.op 31 (.op 32 (.op 33 (.op 34 (.op 35 (.op 36 (.op 37 (.op 38 (.op 39 (.done)))))))))) (.done))))))))))))) (.done))))))) (.done)))))))))))))), (3, [0, 1, 3, 7, 15, 31, 63, 127, 255, 511, 1023, 2047, 4095, 2047, 10239, 32767, 65535, 131071, 262143, 262143, 786431, 2097151, 4194303, 8388607], .op 0 (.op 1 (.alt 2 (.op 3 (.op 4 (.op 5 (.op 6 (.alt 7 (.op 8 (.op 9 (.op 10 (.op 11 (.op 12 (.op 13 (.alt 14 (.op 15 (.op 16 (.op 17 (.op 18 (.op 19 (.op 20 (.alt 21 (.op 22 (.op 23 (.done))) (.done)))))))) (.done)))))))) (.done)))))) (.done))))] } (fn := Tryz.f186) Tryz.func186 (by kernel_rfl) (by kernel_rfl) ?_
  rintro ⟨a0, a1, ⟨⟩⟩ K ⟨r, h, hK⟩
  change impl_Cell_isArc a0 a1 = some r at h
  unfold impl_Cell_isArc at h
  conv => whnf
  refine vBind h (fun isCheck0 hb0 h => ?_)
  conv => whnf
  refine vIfB h (fun h => ?_) (fun h => ?_)
  · conv => whnf
    refine ⟨by kernel_rfl, ?_⟩
    conv => whnf
    refine vIfD h (fun h => ?_) (fun h => ?_)
    · conv => whnf
      refine vIfD h (fun h => ?_) (fun h => ?_)
      · conv => whnf
        refine vBind h (fun areTables0 hb1 h => ?_)
        conv => whnf
        refine vIfB h (fun h => ?_) (fun h => ?_)
        · conv => whnf
          refine vBind h (fun clock0 hb2 h => ?_)
          conv => whnf
          refine vIfD h (fun h => ?_) (fun h => ?_)
          · conv => whnf
            refine vIfD h (fun h => ?_) (fun h => ?_)
            · conv => whnf
              refine vBind h (fun isInput0 hb3 h => ?_)
              conv => whnf
              refine vIfB h (fun h => ?_) (fun h => ?_)
              · conv => whnf
                cases h
                exact hK
              · conv => whnf
                cases h
                exact hK
            · conv => whnf
              cases h
              exact hK
          · conv => whnf
            cases h
            exact hK
        · conv => whnf
          cases h
          exact hK
      · conv => whnf
        cases h
        exact hK
    · conv => whnf
      cases h
      exact hK
  · conv => whnf
    refine ⟨by kernel_rfl, ?_⟩
    conv => whnf
    refine vBind h (fun areTables0 hb4 h => ?_)
    conv => whnf
    refine vNot ?_
    refine vIfB h (fun h => ?_) (fun h => ?_)
    · conv => whnf
      refine vBind h (fun areTables1 hb5 h => ?_)
      conv => whnf
      refine vNot ?_
      refine vIfB h (fun h => ?_) (fun h => ?_)
      · conv => whnf
        refine vBind h (fun output0 hb6 h => ?_)
        conv => whnf
        refine vNot ?_
        refine vIfD h (fun h => ?_) (fun h => ?_)
        · conv => whnf
          refine vBind h (fun isInput0 hb7 h => ?_)
          conv => whnf
          refine vNots ?_
          refine vIfB h (fun h => ?_) (fun h => ?_)
          · conv => whnf
            refine vIfD h (fun h => ?_) (fun h => ?_)
            · conv => whnf
              refine vAt h (fun x0 he8a he8b he8x h => ?_)
              conv => whnf
              refine vNots ?_
              refine vIfB h (fun h => ?_) (fun h => ?_)
              · conv => whnf
                cases h
                exact hK
              · conv => whnf
                refine vBind h (fun within0 hb9 h => ?_)
                conv => whnf
                cases h
                exact hK
            · conv => whnf
              refine vIfD h (fun h => ?_) (fun h => ?_)
              · conv => whnf
                refine vIfD h (fun h => ?_) (fun h => ?_)
                · conv => whnf
                  refine vAt h (fun x0 he10a he10b he10x h => ?_)
                  conv => whnf
                  refine vIfB h (fun h => ?_) (fun h => ?_)
                  · conv => whnf
                    cases h
                    exact hK
                  · conv => whnf
                    cases h
                    exact hK
                · conv => whnf
                  cases h
                  exact hK
              · conv => whnf
                refine vIfD h (fun h => ?_) (fun h => ?_)
                · conv => whnf
                  refine vAt h (fun x0 he11a he11b he11x h => ?_)
                  conv => whnf
                  refine vIfB h (fun h => ?_) (fun h => ?_)
                  · conv => whnf
                    cases h
                    exact hK
                  · conv => whnf
                    cases h
                    exact hK
                · conv => whnf
                  cases h
                  exact hK
          · conv => whnf
            cases h
            exact hK
        · conv => whnf
          cases h
          exact hK
      · conv => whnf
        cases h
        exact hK
    · conv => whnf
      cases h
      exact hK
set_option maxRecDepth 100000 in
theorem w_impl_IsWire (k_impl_length_int64' : SoundC Tryz.prog 103 c_impl_length_int64) (k_impl_within' : SoundC Tryz.prog 109 c_impl_within) (k_impl_Wire_isTree' : SoundC Tryz.prog 140 c_impl_Wire_isTree) (k_impl_areWithin' : SoundC Tryz.prog 60 c_impl_areWithin) : SoundC Tryz.prog 101 c_impl_IsWire := by
  refine fn_sound tab_ok (gam_cons k_impl_length_int64' (gam_cons k_impl_within' (gam_cons k_impl_Wire_isTree' (gam_cons k_impl_areWithin' gam_nil)))) mixed {} (fn := Tryz.f101) Tryz.func101 (by kernel_rfl) (by kernel_rfl) ?_
  rintro ⟨w0, sinks0, ⟨⟩⟩ K ⟨r, h, hK⟩
  change impl_IsWire w0 sinks0 = some r at h
  unfold impl_IsWire at h
  conv => whnf
  refine vBind h (fun int64_0 hb0 h => ?_)
  conv => whnf
  refine vBind h (fun within0 hb1 h => ?_)
  conv => whnf
  refine vIfB h (fun h => ?_) (fun h => ?_)
  · conv => whnf
    refine vBind h (fun int64_1 hb2 h => ?_)
    conv => whnf
    refine vIfD h (fun h => ?_) (fun h => ?_)
    · conv => whnf
      refine vBind h (fun int64_2 hb3 h => ?_)
      conv => whnf
      refine vIfD h (fun h => ?_) (fun h => ?_)
      · conv => whnf
        refine vBind h (fun isTree0 hb4 h => ?_)
        conv => whnf
        refine vIfB h (fun h => ?_) (fun h => ?_)
        · conv => whnf
          refine vBind h (fun areWithin0 hb5 h => ?_)
          conv => whnf
          refine vIfB h (fun h => ?_) (fun h => ?_)
          · conv => whnf
            refine vBind h (fun areWithin1 hb6 h => ?_)
            conv => whnf
            refine vIfB h (fun h => ?_) (fun h => ?_)
            · conv => whnf
              refine vBind h (fun int64_3 hb7 h => ?_)
              conv => whnf
              refine vIfD h (fun h => ?_) (fun h => ?_)
              · conv => whnf
                refine vBind h (fun areWithin2 hb8 h => ?_)
                conv => whnf
                cases h
                exact hK
              · conv => whnf
                cases h
                exact hK
            · conv => whnf
              cases h
              exact hK
          · conv => whnf
            cases h
            exact hK
        · conv => whnf
          cases h
          exact hK
      · conv => whnf
        cases h
        exact hK
    · conv => whnf
      cases h
      exact hK
  · conv => whnf
    cases h
    exact hK
set_option maxRecDepth 100000 in
theorem w_impl_length_string : SoundC Tryz.prog 161 c_impl_length_string := by
  refine fn_sound tab_ok gam_nil mixed {} (fn := Tryz.f161) Tryz.func161 (by kernel_rfl) (by kernel_rfl) ?_
  rintro ⟨list0, ⟨⟩⟩ K ⟨r, h, hK⟩
  change impl_length_string list0 = some r at h
  unfold impl_length_string at h
  conv => whnf
  cases h
  exact hK
set_option maxRecDepth 100000 in
theorem w_impl_view_graphOf : SoundC Tryz.prog 59 c_impl_view_graphOf := by
  refine fn_sound tab_ok gam_nil mixed { loops := [(0, [.reg 23 (.dat (.int .i64)), .ent 0 (nat_lit 4) (.flat ti73.ety)]), (2, [.reg 35 (.dat (.int .i64)), .ent 0 (nat_lit 4) (.flat ti73.ety)])] } (fn := Tryz.f59) Tryz.func59 (by kernel_rfl) (by kernel_rfl) ?_
  rintro ⟨v0, broken0, ⟨⟩⟩ K ⟨r, h, hK⟩
  change impl_view_graphOf v0 broken0 = some r at h
  unfold impl_view_graphOf at h
  conv => whnf
  refine vPre h (fun hp0 h => ?_)
  conv => whnf
  refine vPre h (fun hp1 h => ?_)
  conv => whnf
  refine vPre h (fun hp2 h => ?_)
  conv => whnf
  refine vPre h (fun hp3 h => ?_)
  conv => whnf
  refine vLoop h ?_
  rintro I4 μ4 ⟨v1, l0, ⟨⟩⟩ zs4 h hI4 hR4
  change impl_view_graphOf_loop1 v0 broken0 v1 l0 = some zs4 at h
  unfold impl_view_graphOf_loop1 at h
  conv => whnf
  refine vIfD h (fun h => ?_) (fun h => ?_)
  · conv => whnf
    refine vAt h (fun x0 he5a he5b he5x h => ?_)
    conv => whnf
    refine ⟨by kernel_rfl, ?_⟩
    conv => whnf
    refine ⟨by decide, ?_⟩
    conv => whnf
    refine ⟨he5a, he5b, vAgain he5x ?_⟩
    conv => whnf
    cases h
    exact ⟨⟨rfl, rfl⟩, hI4 _ rfl⟩
  · conv => whnf
    refine vLoop h ?_
    rintro I6 μ6 ⟨v2, l1, ⟨⟩⟩ zs6 h hI6 hR6
    change impl_view_graphOf_loop0 v0 broken0 v2 l1 = some zs6 at h
    unfold impl_view_graphOf_loop0 at h
    conv => whnf
    refine vIfD h (fun h => ?_) (fun h => ?_)
    · conv => whnf
      refine vAt h (fun x0 he7a he7b he7x h => ?_)
      conv => whnf
      refine vAt h (fun x1 he8a he8b he8x h => ?_)
      conv => whnf
      refine ⟨by kernel_rfl, ?_⟩
      conv => whnf
      refine ⟨by decide, ?_⟩
      conv => whnf
      refine ⟨he8a, he8b, vAgain he8x ?_⟩
      conv => whnf
      cases h
      exact ⟨⟨rfl, rfl⟩, hI6 _ rfl⟩
    · conv => whnf
      cases h
      obtain rfl := hR6 _ rfl
      obtain rfl := hR4 _ rfl
      exact hK
set_option maxRecDepth 100000 in
theorem w_impl_view_nodes (k_impl_length_impl_place' : SoundC Tryz.prog 110 c_impl_length_impl_place) : SoundC Tryz.prog 61 c_impl_view_nodes := by
  refine fn_sound tab_ok (gam_cons k_impl_length_impl_place' gam_nil) mixed {} (fn := Tryz.f61) Tryz.func61 (by kernel_rfl) (by kernel_rfl) ?_
  rintro ⟨v0, ⟨⟩⟩ K ⟨r, h, hK⟩
  change impl_view_nodes v0 = some r at h
  unfold impl_view_nodes at h
  conv => whnf
  refine vBind h (fun place0 hb0 h => ?_)
  conv => whnf
  cases h
  exact hK
set_option maxRecDepth 100000 in
theorem w_impl_within : SoundC Tryz.prog 109 c_impl_within := by
  refine fn_sound tab_ok gam_nil mixed {} (fn := Tryz.f109) Tryz.func109 (by kernel_rfl) (by kernel_rfl) ?_
  rintro ⟨x0, low0, high0, ⟨⟩⟩ K ⟨r, h, hK⟩
  change impl_within x0 low0 high0 = some r at h
  unfold impl_within at h
  conv => whnf
  refine vIfD h (fun h => ?_) (fun h => ?_)
  · conv => whnf
    cases h
    exact hK
  · conv => whnf
    cases h
    exact hK
set_option maxRecDepth 100000 in
theorem w_laws_FnExactConeOf (k_laws_szBlock' : SoundC Tryz.prog 12 c_laws_szBlock) (k_laws_toBlock' : SoundC Tryz.prog 13 c_laws_toBlock) (k_laws_toInt64S' : SoundC Tryz.prog 14 c_laws_toInt64S) (k_spec_ConeOf' : SoundC Tryz.prog 8 c_spec_ConeOf) (k_impl_ConeOf' : SoundC Tryz.prog 7 c_impl_ConeOf) (k_laws_eqInt64S' : SoundC Tryz.prog 15 c_laws_eqInt64S) (k_laws_eqBlock' : SoundC Tryz.prog 16 c_laws_eqBlock) (k_laws_markBlock' : SoundC Tryz.prog 17 c_laws_markBlock) (k_laws_markInt64S' : SoundC Tryz.prog 18 c_laws_markInt64S) (k_laws_heldInt64S' : SoundC Tryz.prog 19 c_laws_heldInt64S) : SoundC Tryz.prog 4 c_laws_FnExactConeOf := by
  refine fn_sound tab_ok (gam_cons k_laws_szBlock' (gam_cons k_laws_toBlock' (gam_cons k_laws_toInt64S' (gam_cons k_spec_ConeOf' (gam_cons k_impl_ConeOf' (gam_cons k_laws_eqInt64S' (gam_cons k_laws_eqBlock' (gam_cons k_laws_markBlock' (gam_cons k_laws_markInt64S' (gam_cons k_laws_heldInt64S' gam_nil)))))))))) mixed { draws := [(16, [0, 0, 2, 7, 15], .op 0 (.op 1 (.alt 2 (.alt 3 (.op 4 (.done)) (.done)) (.done))))] } (fn := Tryz.f4) Tryz.func4 (by kernel_rfl) (by kernel_rfl) ?_
  rintro ⟨a0, a1, a2, ⟨⟩⟩ K ⟨r, h, hK⟩
  change laws_FnExactConeOf a0 a1 a2 = some r at h
  unfold laws_FnExactConeOf at h
  conv => whnf
  refine vIfD h (fun h => ?_) (fun h => ?_)
  · conv => whnf
    cases h
    exact hK
  · conv => whnf
    refine vIfD h (fun h => ?_) (fun h => ?_)
    · conv => whnf
      cases h
      exact hK
    · conv => whnf
      refine vBind h (fun szBlock0 hb0 h => ?_)
      conv => whnf
      refine vIfD h (fun h => ?_) (fun h => ?_)
      · conv => whnf
        cases h
        exact hK
      · conv => whnf
        refine vBind h (fun toBlock0 hb1 h => ?_)
        conv => whnf
        intro fp2
        conv => whnf
        intro fp3
        conv => whnf
        intro fp4
        conv => whnf
        refine vBind h (fun toInt64S0 hb5 h => ?_)
        conv => whnf
        refine vBind h (fun toInt64S1 hb6 h => ?_)
        conv => whnf
        refine vBind h (fun ConeOf0 hb7 h => ?_)
        conv => whnf
        refine ⟨_, hb1, ?_⟩
        conv => whnf
        intro fp8
        conv => whnf
        intro fp9
        conv => whnf
        intro fp10
        conv => whnf
        refine ⟨_, hb5, ?_⟩
        conv => whnf
        refine ⟨_, hb6, ?_⟩
        conv => whnf
        refine vBind h (fun ConeOf1 hb11 h => ?_)
        conv => whnf
        refine vBind h (fun eqInt64S0 hb12 h => ?_)
        conv => whnf
        refine vNot ?_
        refine vIfB h (fun h => ?_) (fun h => ?_)
        · conv => whnf
          refine vNots ?_
          refine vIfD h (fun h => ?_) (fun h => ?_)
          · conv => whnf
            refine ⟨by kernel_rfl, ?_⟩
            conv => whnf
            refine ⟨_, hb1, ?_⟩
            conv => whnf
            intro fp13
            conv => whnf
            intro fp14
            conv => whnf
            intro fp15
            conv => whnf
            refine vBind h (fun eqBlock0 hb16 h => ?_)
            conv => whnf
            refine vNots ?_
            refine vIfB h (fun h => ?_) (fun h => ?_)
            · conv => whnf
              refine ⟨_, hb5, ?_⟩
              conv => whnf
              refine vBind h (fun eqInt64S1 hb17 h => ?_)
              conv => whnf
              refine vNots ?_
              refine vIfB h (fun h => ?_) (fun h => ?_)
              · conv => whnf
                refine ⟨_, hb6, ?_⟩
                conv => whnf
                refine vBind h (fun eqInt64S2 hb18 h => ?_)
                conv => whnf
                refine vNots ?_
                refine vIfB h (fun h => ?_) (fun h => ?_)
                · conv => whnf
                  refine vBind h (fun markBlock0 hb19 h => ?_)
                  conv => whnf
                  intro fp20
                  conv => whnf
                  intro fp21
                  conv => whnf
                  intro fp22
                  conv => whnf
                  refine vBind h (fun markInt64S0 hb23 h => ?_)
                  conv => whnf
                  refine vBind h (fun markInt64S1 hb24 h => ?_)
                  conv => whnf
                  refine vIfDs h (fun h => ?_) (fun h => ?_)
                  · conv => whnf
                    cases h
                    exact hK
                  · conv => whnf
                    refine ⟨_, hb12, ?_⟩
                    conv => whnf
                    refine vNot ?_
                    refine vIfB h (fun h => ?_) (fun h => ?_)
                    · conv => whnf
                      refine vNots ?_
                      refine vIfD h (fun h => ?_) (fun h => ?_)
                      · conv => whnf
                        refine vBind h (fun markInt64S2 hb25 h => ?_)
                        conv => whnf
                        refine vBind h (fun heldInt64S0 hb26 h => ?_)
                        conv => whnf
                        refine vIfD h (fun h => ?_) (fun h => ?_)
                        · conv => whnf
                          cases h
                          exact hK
                        · conv => whnf
                          refine vNots ?_
                          refine vIfD h (fun h => ?_) (fun h => ?_)
                          · conv => whnf
                            refine ⟨_, hb1, ?_⟩
                            conv => whnf
                            intro fp27
                            conv => whnf
                            intro fp28
                            conv => whnf
                            intro fp29
                            conv => whnf
                            refine ⟨_, hb5, ?_⟩
                            conv => whnf
                            refine ⟨_, hb6, ?_⟩
                            conv => whnf
                            refine ⟨_, hb11, ?_⟩
                            conv => whnf
                            refine ⟨_, hb12, ?_⟩
                            conv => whnf
                            refine vNot ?_
                            refine vIfB h (fun h => ?_) (fun h => ?_)
                            · conv => whnf
                              refine vNots ?_
                              refine vIfD h (fun h => ?_) (fun h => ?_)
                              · conv => whnf
                                refine ⟨_, hb26, ?_⟩
                                conv => whnf
                                refine vIfD h (fun h => ?_) (fun h => ?_)
                                · conv => whnf
                                  cases h
                                  exact hK
                                · conv => whnf
                                  refine vNots ?_
                                  refine vIfD h (fun h => ?_) (fun h => ?_)
                                  · conv => whnf
                                    cases h
                                    exact hK
                                  · conv => whnf
                                    cases h
                                    exact hK
                              · conv => whnf
                                cases h
                                exact hK
                            · conv => whnf
                              cases h
                              exact hK
                          · conv => whnf
                            cases h
                            exact hK
                      · conv => whnf
                        cases h
                        exact hK
                    · conv => whnf
                      cases h
                      exact hK
                · conv => whnf
                  cases h
                  exact hK
              · conv => whnf
                cases h
                exact hK
            · conv => whnf
              cases h
              exact hK
          · conv => whnf
            cases h
            exact hK
        · conv => whnf
          cases h
          exact hK
set_option maxRecDepth 100000 in
theorem w_laws_eqPinS (k_laws_eqPin' : SoundC Tryz.prog 167 c_laws_eqPin) : SoundC Tryz.prog 150 c_laws_eqPinS := by
  refine fn_sound tab_ok (gam_cons k_laws_eqPin' gam_nil) mixed { loops := [(0, [.reg 5 (.dat (.int .i64))])], draws := [(6, [0, 0, 3, 7, 0, 0, 48, 112, 255, 511], .op 0 (.op 1 (.op 2 (.op 3 (.op 4 (.op 5 (.op 6 (.op 7 (.alt 8 (.op 9 (.done)) (.done))))))))))] } (fn := Tryz.f150) Tryz.func150 (by kernel_rfl) (by kernel_rfl) ?_
  rintro ⟨a0, b0, ⟨⟩⟩ K ⟨r, h, hK⟩
  change laws_eqPinS a0 b0 = some r at h
  unfold laws_eqPinS at h
  conv => whnf
  refine vNots ?_
  refine vIfD h (fun h => ?_) (fun h => ?_)
  · conv => whnf
    refine vLoop h ?_
    rintro I0 μ0 ⟨i0, ⟨⟩⟩ zs0 h hI0 hR0
    change laws_eqPinS_loop0 a0 b0 i0 = some zs0 at h
    unfold laws_eqPinS_loop0 at h
    conv => whnf
    refine vIfD h (fun h => ?_) (fun h => ?_)
    · conv => whnf
      refine ⟨by kernel_rfl, ?_⟩
      conv => whnf
      refine vAt h (fun x0 he1a he1b he1x h => ?_)
      conv => whnf
      refine vAt h (fun x1 he2a he2b he2x h => ?_)
      conv => whnf
      refine vBind h (fun eqPin0 hb3 h => ?_)
      conv => whnf
      refine vNots ?_
      refine vIfB h (fun h => ?_) (fun h => ?_)
      · conv => whnf
        cases h
        exact ⟨⟨rfl, rfl⟩, hI0 _ rfl⟩
      · conv => whnf
        cases h
        obtain rfl := hR0 _ rfl
        exact hK
    · conv => whnf
      cases h
      obtain rfl := hR0 _ rfl
      exact hK
  · conv => whnf
    cases h
    exact hK
set_option maxRecDepth 100000 in
theorem w_laws_eqPort : SoundC Tryz.prog 121 c_laws_eqPort := by
  refine fn_sound tab_ok gam_nil mixed {} (fn := Tryz.f121) Tryz.func121 (by kernel_rfl) (by kernel_rfl) ?_
  rintro ⟨a0, b0, ⟨⟩⟩ K ⟨r, h, hK⟩
  change laws_eqPort a0 b0 = some r at h
  unfold laws_eqPort at h
  conv => whnf
  refine vNots ?_
  refine vIfD h (fun h => ?_) (fun h => ?_)
  · conv => whnf
    refine vNots ?_
    refine vIfD h (fun h => ?_) (fun h => ?_)
    · conv => whnf
      refine vNots ?_
      refine vIfD h (fun h => ?_) (fun h => ?_)
      · conv => whnf
        cases h
        exact hK
      · conv => whnf
        cases h
        exact hK
    · conv => whnf
      cases h
      exact hK
  · conv => whnf
    cases h
    exact hK
set_option maxRecDepth 100000 in
theorem w_laws_eqStringS : SoundC Tryz.prog 85 c_laws_eqStringS := by
  refine fn_sound tab_ok gam_nil mixed { loops := [(0, [.reg 5 (.dat (.int .i64))])], draws := [(6, [0, 0, 3, 7, 0, 0, 48, 112, 255], .op 0 (.op 1 (.op 2 (.op 3 (.op 4 (.op 5 (.op 6 (.op 7 (.op 8 (.done))))))))))] } (fn := Tryz.f85) Tryz.func85 (by kernel_rfl) (by kernel_rfl) ?_
  rintro ⟨a0, b0, ⟨⟩⟩ K ⟨r, h, hK⟩
  change laws_eqStringS a0 b0 = some r at h
  unfold laws_eqStringS at h
  conv => whnf
  refine vNots ?_
  refine vIfD h (fun h => ?_) (fun h => ?_)
  · conv => whnf
    refine vLoop h ?_
    rintro I0 μ0 ⟨i0, ⟨⟩⟩ zs0 h hI0 hR0
    change laws_eqStringS_loop0 a0 b0 i0 = some zs0 at h
    unfold laws_eqStringS_loop0 at h
    conv => whnf
    refine vIfD h (fun h => ?_) (fun h => ?_)
    · conv => whnf
      refine ⟨by kernel_rfl, ?_⟩
      conv => whnf
      refine vAt h (fun x0 he1a he1b he1x h => ?_)
      conv => whnf
      refine vAt h (fun x1 he2a he2b he2x h => ?_)
      conv => whnf
      refine vNots ?_
      refine vIfD h (fun h => ?_) (fun h => ?_)
      · conv => whnf
        cases h
        exact ⟨⟨rfl, rfl⟩, hI0 _ rfl⟩
      · conv => whnf
        cases h
        obtain rfl := hR0 _ rfl
        exact hK
    · conv => whnf
      cases h
      obtain rfl := hR0 _ rfl
      exact hK
  · conv => whnf
    cases h
    exact hK
set_option maxRecDepth 100000 in
theorem w_laws_eqTableS (k_laws_eqTable' : SoundC Tryz.prog 194 c_laws_eqTable) : SoundC Tryz.prog 180 c_laws_eqTableS := by
  refine fn_sound tab_ok (gam_cons k_laws_eqTable' gam_nil) mixed { loops := [(0, [.reg 5 (.dat (.int .i64))])], draws := [(6, [0, 0, 3, 7, 0, 0, 48, 112, 255, 511], .op 0 (.op 1 (.op 2 (.op 3 (.op 4 (.op 5 (.op 6 (.op 7 (.alt 8 (.op 9 (.done)) (.done))))))))))] } (fn := Tryz.f180) Tryz.func180 (by kernel_rfl) (by kernel_rfl) ?_
  rintro ⟨a0, b0, ⟨⟩⟩ K ⟨r, h, hK⟩
  change laws_eqTableS a0 b0 = some r at h
  unfold laws_eqTableS at h
  conv => whnf
  refine vNots ?_
  refine vIfD h (fun h => ?_) (fun h => ?_)
  · conv => whnf
    refine vLoop h ?_
    rintro I0 μ0 ⟨i0, ⟨⟩⟩ zs0 h hI0 hR0
    change laws_eqTableS_loop0 a0 b0 i0 = some zs0 at h
    unfold laws_eqTableS_loop0 at h
    conv => whnf
    refine vIfD h (fun h => ?_) (fun h => ?_)
    · conv => whnf
      refine ⟨by kernel_rfl, ?_⟩
      conv => whnf
      refine vAt h (fun x0 he1a he1b he1x h => ?_)
      conv => whnf
      refine vAt h (fun x1 he2a he2b he2x h => ?_)
      conv => whnf
      refine vBind h (fun eqTable0 hb3 h => ?_)
      conv => whnf
      refine vNots ?_
      refine vIfB h (fun h => ?_) (fun h => ?_)
      · conv => whnf
        cases h
        exact ⟨⟨rfl, rfl⟩, hI0 _ rfl⟩
      · conv => whnf
        cases h
        obtain rfl := hR0 _ rfl
        exact hK
    · conv => whnf
      cases h
      obtain rfl := hR0 _ rfl
      exact hK
  · conv => whnf
    cases h
    exact hK
set_option maxRecDepth 100000 in
theorem w_laws_heldInt64S : SoundC Tryz.prog 19 c_laws_heldInt64S := by
  refine fn_sound tab_ok gam_nil mixed { loops := [(0, [.reg 1 (.dat (.int .i64)), .reg 5 (.dat (.int .i64))])] } (fn := Tryz.f19) Tryz.func19 (by kernel_rfl) (by kernel_rfl) ?_
  rintro ⟨a0, k0, ⟨⟩⟩ K ⟨r, h, hK⟩
  change laws_heldInt64S a0 k0 = some r at h
  unfold laws_heldInt64S at h
  conv => whnf
  refine vLoop h ?_
  rintro I0 μ0 ⟨k1, i0, ⟨⟩⟩ zs0 h hI0 hR0
  change laws_heldInt64S_loop0 a0 k1 i0 = some zs0 at h
  unfold laws_heldInt64S_loop0 at h
  conv => whnf
  refine vIfD h (fun h => ?_) (fun h => ?_)
  · conv => whnf
    refine vAt h (fun x0 he1a he1b he1x h => ?_)
    conv => whnf
    refine vNots ?_
    refine vIfD h (fun h => ?_) (fun h => ?_)
    · conv => whnf
      cases h
      exact ⟨⟨rfl, rfl⟩, hI0 _ rfl⟩
    · conv => whnf
      cases h
      obtain rfl := hR0 _ rfl
      exact hK
  · conv => whnf
    cases h
    obtain rfl := hR0 _ rfl
    exact hK
set_option maxRecDepth 100000 in
theorem w_laws_markPinS (k_laws_markText' : SoundC Tryz.prog 122 c_laws_markText) : SoundC Tryz.prog 123 c_laws_markPinS := by
  refine fn_sound tabD_ok (gam_cons k_laws_markText' gam_nil) mixed { loops := [(0, [.reg 1 (.dat (.int .i64)), .reg 5 (.dat (.int .i64)), .ent 0 (nat_lit 223) (.flat tPin)])] } (fn := Tryz.f123) Tryz.func123 (by kernel_rfl) (by kernel_rfl) ?_
  rintro ⟨a0, k0, ⟨⟩⟩ K ⟨r, h, hK⟩
  change laws_markPinS a0 k0 = some r at h
  unfold laws_markPinS at h
  conv => whnf
  refine vLoop h ?_
  rintro I0 μ0 ⟨k1, i0, l0, ⟨⟩⟩ zs0 h hI0 hR0
  change laws_markPinS_loop0 k1 i0 l0 = some zs0 at h
  unfold laws_markPinS_loop0 at h
  conv => whnf
  refine vIfD h (fun h => ?_) (fun h => ?_)
  · conv => whnf
    refine vBind h (fun markText0 hb1 h => ?_)
    conv => whnf
    refine vAt h (fun x0 he2a he2b he2x h => ?_)
    conv => whnf
    refine ⟨by kernel_rfl, ?_⟩
    conv => whnf
    refine ⟨by decide, ?_⟩
    conv => whnf
    refine ⟨he2a, he2b, vAgain he2x ?_⟩
    conv => whnf
    refine vAt h (fun x1 he3a he3b he3x h => ?_)
    conv => whnf
    refine ⟨by kernel_rfl, ?_⟩
    conv => whnf
    refine ⟨by decide, ?_⟩
    conv => whnf
    refine ⟨he3a, he3b, vAgain he3x ?_⟩
    conv => whnf
    refine vAt h (fun x2 he4a he4b he4x h => ?_)
    conv => whnf
    refine ⟨by kernel_rfl, ?_⟩
    conv => whnf
    refine ⟨by decide, ?_⟩
    conv => whnf
    refine ⟨he4a, he4b, vAgain he4x ?_⟩
    conv => whnf
    refine ⟨by decide, ?_⟩
    conv => whnf
    refine vAt h (fun x3 he5a he5b he5x h => ?_)
    conv => whnf
    refine ⟨by kernel_rfl, ?_⟩
    conv => whnf
    refine ⟨by decide, ?_⟩
    conv => whnf
    refine ⟨he5a, he5b, vAgain he5x ?_⟩
    conv => whnf
    cases h
    exact ⟨⟨rfl, rfl⟩, hI0 _ rfl⟩
  · conv => whnf
    cases h
    obtain rfl := hR0 _ rfl
    exact hK
set_option maxRecDepth 100000 in
theorem w_laws_markTableS (k_laws_markInt64S' : SoundC Tryz.prog 18 c_laws_markInt64S) : SoundC Tryz.prog 152 c_laws_markTableS := by
  refine fn_sound tabD_ok (gam_cons k_laws_markInt64S' gam_nil) mixed { loops := [(0, [.reg 1 (.dat (.int .i64)), .reg 5 (.dat (.int .i64)), .ent 0 (nat_lit 243) (Dp.pair (Dp.ol (2 : Go.TypeId) (Dp.flat (Ty.int IntKind.i64))) (Dp.pair (Dp.ol (2 : Go.TypeId) (Dp.flat (Ty.int IntKind.i64))) (Dp.pair (Dp.ol (2 : Go.TypeId) (Dp.flat (Ty.int IntKind.i64))) (Dp.flat Ty.unit))))])] } (fn := Tryz.f152) Tryz.func152 (by kernel_rfl) (by kernel_rfl) ?_
  rintro ⟨a0, k0, ⟨⟩⟩ K ⟨r, h, hK⟩
  change laws_markTableS a0 k0 = some r at h
  unfold laws_markTableS at h
  conv => whnf
  intro fp0
  conv => whnf
  refine vLoop h ?_
  rintro I1 μ1 ⟨k1, i0, l0, ⟨⟩⟩ zs1 h hI1 hR1
  change laws_markTableS_loop0 k1 i0 l0 = some zs1 at h
  unfold laws_markTableS_loop0 at h
  conv => whnf
  intro fp2
  conv => whnf
  refine vIfD h (fun h => ?_) (fun h => ?_)
  · conv => whnf
    refine vAt h (fun x0 he3a he3b he3x h => ?_)
    conv => whnf
    refine ⟨he3a, he3b, vAgain he3x ?_⟩
    conv => whnf
    intro fp4
    conv => whnf
    refine vBind h (fun markInt64S0 hb5 h => ?_)
    conv => whnf
    refine ⟨he3a, he3b, vAgain he3x ?_⟩
    conv => whnf
    refine .inl ⟨rfl, ?_⟩
    conv => whnf
    refine vBind h (fun markInt64S1 hb6 h => ?_)
    conv => whnf
    refine ⟨he3a, he3b, vAgain he3x ?_⟩
    conv => whnf
    refine .inl ⟨rfl, ?_⟩
    conv => whnf
    refine vBind h (fun markInt64S2 hb7 h => ?_)
    conv => whnf
    cases h
    exact ⟨⟨rfl, rfl⟩, hI1 _ rfl⟩
  · conv => whnf
    cases h
    obtain rfl := hR1 _ rfl
    exact hK
set_option maxRecDepth 100000 in
theorem w_laws_szArcS (k_laws_szArc' : SoundC Tryz.prog 164 c_laws_szArc) : SoundC Tryz.prog 147 c_laws_szArcS := by
  refine fn_sound tab_ok (gam_cons k_laws_szArc' gam_nil) mixed { loops := [(0, [.reg 1 (.dat (.int .i64)), .reg 5 (.dat (.int .i64))])] } (fn := Tryz.f147) Tryz.func147 (by kernel_rfl) (by kernel_rfl) ?_
  rintro ⟨a0, left0, ⟨⟩⟩ K ⟨r, h, hK⟩
  change laws_szArcS a0 left0 = some r at h
  unfold laws_szArcS at h
  conv => whnf
  refine vIfD h (fun h => ?_) (fun h => ?_)
  · conv => whnf
    cases h
    exact hK
  · conv => whnf
    refine vLoop h ?_
    rintro I0 μ0 ⟨left1, i0, ⟨⟩⟩ zs0 h hI0 hR0
    change laws_szArcS_loop0 a0 left1 i0 = some zs0 at h
    unfold laws_szArcS_loop0 at h
    conv => whnf
    refine vIfD h (fun h => ?_) (fun h => ?_)
    · conv => whnf
      refine vAt h (fun x0 he1a he1b he1x h => ?_)
      conv => whnf
      refine vBind h (fun szArc0 hb2 h => ?_)
      conv => whnf
      refine vIfD h (fun h => ?_) (fun h => ?_)
      · conv => whnf
        cases h
        obtain rfl := hR0 _ rfl
        exact hK
      · conv => whnf
        cases h
        exact ⟨⟨rfl, rfl⟩, hI0 _ rfl⟩
    · conv => whnf
      cases h
      obtain rfl := hR0 _ rfl
      exact hK
set_option maxRecDepth 100000 in
theorem w_laws_szCell (k_laws_szPinS' : SoundC Tryz.prog 146 c_laws_szPinS) (k_laws_szArcS' : SoundC Tryz.prog 147 c_laws_szArcS) (k_laws_szInt64S' : SoundC Tryz.prog 115 c_laws_szInt64S) : SoundC Tryz.prog 112 c_laws_szCell := by
  refine fn_sound tab_ok (gam_cons k_laws_szPinS' (gam_cons k_laws_szArcS' (gam_cons k_laws_szInt64S' gam_nil))) mixed {} (fn := Tryz.f112) Tryz.func112 (by kernel_rfl) (by kernel_rfl) ?_
  rintro ⟨a0, left0, ⟨⟩⟩ K ⟨r, h, hK⟩
  change laws_szCell a0 left0 = some r at h
  unfold laws_szCell at h
  conv => whnf
  refine vIfD h (fun h => ?_) (fun h => ?_)
  · conv => whnf
    cases h
    exact hK
  · conv => whnf
    refine vBind h (fun szPinS0 hb0 h => ?_)
    conv => whnf
    refine vIfD h (fun h => ?_) (fun h => ?_)
    · conv => whnf
      cases h
      exact hK
    · conv => whnf
      refine vBind h (fun szArcS0 hb1 h => ?_)
      conv => whnf
      refine vIfD h (fun h => ?_) (fun h => ?_)
      · conv => whnf
        cases h
        exact hK
      · conv => whnf
        refine vBind h (fun szInt64S0 hb2 h => ?_)
        conv => whnf
        refine vIfD h (fun h => ?_) (fun h => ?_)
        · conv => whnf
          cases h
          exact hK
        · conv => whnf
          cases h
          exact hK
set_option maxRecDepth 100000 in
theorem w_laws_szDesign (k_laws_szInstanceS' : SoundC Tryz.prog 74 c_laws_szInstanceS) (k_laws_szStringS' : SoundC Tryz.prog 75 c_laws_szStringS) (k_laws_szPortS' : SoundC Tryz.prog 76 c_laws_szPortS) : SoundC Tryz.prog 37 c_laws_szDesign := by
  refine fn_sound tab_ok (gam_cons k_laws_szInstanceS' (gam_cons k_laws_szStringS' (gam_cons k_laws_szPortS' gam_nil))) mixed {} (fn := Tryz.f37) Tryz.func37 (by kernel_rfl) (by kernel_rfl) ?_
  rintro ⟨a0, left0, ⟨⟩⟩ K ⟨r, h, hK⟩
  change laws_szDesign a0 left0 = some r at h
  unfold laws_szDesign at h
  conv => whnf
  refine vBind h (fun szInstanceS0 hb0 h => ?_)
  conv => whnf
  refine vIfD h (fun h => ?_) (fun h => ?_)
  · conv => whnf
    cases h
    exact hK
  · conv => whnf
    refine vBind h (fun szStringS0 hb1 h => ?_)
    conv => whnf
    refine vIfD h (fun h => ?_) (fun h => ?_)
    · conv => whnf
      cases h
      exact hK
    · conv => whnf
      refine vBind h (fun szPortS0 hb2 h => ?_)
      conv => whnf
      refine vIfD h (fun h => ?_) (fun h => ?_)
      · conv => whnf
        cases h
        exact hK
      · conv => whnf
        cases h
        exact hK
set_option maxRecDepth 100000 in
theorem w_laws_szLibrary (k_laws_szCellS' : SoundC Tryz.prog 73 c_laws_szCellS) : SoundC Tryz.prog 36 c_laws_szLibrary := by
  refine fn_sound tab_ok (gam_cons k_laws_szCellS' gam_nil) mixed {} (fn := Tryz.f36) Tryz.func36 (by kernel_rfl) (by kernel_rfl) ?_
  rintro ⟨a0, left0, ⟨⟩⟩ K ⟨r, h, hK⟩
  change laws_szLibrary a0 left0 = some r at h
  unfold laws_szLibrary at h
  conv => whnf
  refine vBind h (fun szCellS0 hb0 h => ?_)
  conv => whnf
  refine vIfD h (fun h => ?_) (fun h => ?_)
  · conv => whnf
    cases h
    exact hK
  · conv => whnf
    cases h
    exact hK
set_option maxRecDepth 100000 in
theorem w_laws_szPort : SoundC Tryz.prog 114 c_laws_szPort := by
  refine fn_sound tab_ok gam_nil mixed {} (fn := Tryz.f114) Tryz.func114 (by kernel_rfl) (by kernel_rfl) ?_
  rintro ⟨a0, left0, ⟨⟩⟩ K ⟨r, h, hK⟩
  change laws_szPort a0 left0 = some r at h
  unfold laws_szPort at h
  conv => whnf
  refine vIfD h (fun h => ?_) (fun h => ?_)
  · conv => whnf
    cases h
    exact hK
  · conv => whnf
    cases h
    exact hK
set_option maxRecDepth 100000 in
theorem w_laws_szWire (k_laws_szInt64S' : SoundC Tryz.prog 115 c_laws_szInt64S) : SoundC Tryz.prog 77 c_laws_szWire := by
  refine fn_sound tab_ok (gam_cons k_laws_szInt64S' gam_nil) mixed {} (fn := Tryz.f77) Tryz.func77 (by kernel_rfl) (by kernel_rfl) ?_
  rintro ⟨a0, left0, ⟨⟩⟩ K ⟨r, h, hK⟩
  change laws_szWire a0 left0 = some r at h
  unfold laws_szWire at h
  conv => whnf
  refine vBind h (fun szInt64S0 hb0 h => ?_)
  conv => whnf
  refine vIfD h (fun h => ?_) (fun h => ?_)
  · conv => whnf
    cases h
    exact hK
  · conv => whnf
    refine vBind h (fun szInt64S1 hb1 h => ?_)
    conv => whnf
    refine vIfD h (fun h => ?_) (fun h => ?_)
    · conv => whnf
      cases h
      exact hK
    · conv => whnf
      refine vBind h (fun szInt64S2 hb2 h => ?_)
      conv => whnf
      refine vIfD h (fun h => ?_) (fun h => ?_)
      · conv => whnf
        cases h
        exact hK
      · conv => whnf
        refine vBind h (fun szInt64S3 hb3 h => ?_)
        conv => whnf
        refine vIfD h (fun h => ?_) (fun h => ?_)
        · conv => whnf
          cases h
          exact hK
        · conv => whnf
          cases h
          exact hK
set_option maxRecDepth 100000 in
theorem w_laws_toBlock (k_laws_toLibrary' : SoundC Tryz.prog 39 c_laws_toLibrary) (k_laws_toDesign' : SoundC Tryz.prog 40 c_laws_toDesign) (k_laws_toWireS' : SoundC Tryz.prog 41 c_laws_toWireS) : SoundC Tryz.prog 13 c_laws_toBlock := by
  refine fn_sound tabD_ok (gam_cons k_laws_toLibrary' (gam_cons k_laws_toDesign' (gam_cons k_laws_toWireS' gam_nil))) mixed {} (fn := Tryz.f13) Tryz.func13 (by kernel_rfl) (by kernel_rfl) ?_
  rintro ⟨a0, ⟨⟩⟩ K ⟨r, h, hK⟩
  change laws_toBlock a0 = some r at h
  unfold laws_toBlock at h
  conv => whnf
  refine vBind h (fun toLibrary0 hb0 h => ?_)
  conv => whnf
  intro fp1
  conv => whnf
  refine vBind h (fun toDesign0 hb2 h => ?_)
  conv => whnf
  intro fp3
  conv => whnf
  refine vBind h (fun toWireS0 hb4 h => ?_)
  conv => whnf
  intro fp5
  conv => whnf
  cases h
  exact hK
set_option maxRecDepth 100000 in
theorem w_laws_toCellS (k_laws_toCell' : SoundC Tryz.prog 116 c_laws_toCell) : SoundC Tryz.prog 78 c_laws_toCellS := by
  refine fn_sound tabD_ok (gam_cons k_laws_toCell' gam_nil) mixed { loops := [(0, [.reg 4 (.dat (.int .i64)), .ent 0 (nat_lit 122) dCell])] } (fn := Tryz.f78) Tryz.func78 (by kernel_rfl) (by kernel_rfl) ?_
  rintro ⟨a0, ⟨⟩⟩ K ⟨r, h, hK⟩
  change laws_toCellS a0 = some r at h
  unfold laws_toCellS at h
  conv => whnf
  refine vPre h (fun hp0 h => ?_)
  conv => whnf
  refine vPre h (fun hp1 h => ?_)
  conv => whnf
  refine vPre h (fun hp2 h => ?_)
  conv => whnf
  refine vPre h (fun hp3 h => ?_)
  conv => whnf
  intro fp4
  conv => whnf
  refine vLoop h ?_
  rintro I5 μ5 ⟨i0, l0, ⟨⟩⟩ zs5 h hI5 hR5
  change laws_toCellS_loop0 a0 i0 l0 = some zs5 at h
  unfold laws_toCellS_loop0 at h
  conv => whnf
  intro fp6
  conv => whnf
  refine vIfD h (fun h => ?_) (fun h => ?_)
  · conv => whnf
    refine vAt h (fun x0 he7a he7b he7x h => ?_)
    conv => whnf
    refine vBind h (fun toCell0 hb8 h => ?_)
    conv => whnf
    intro fp9
    conv => whnf
    refine vAt h (fun x1 he10a he10b he10x h => ?_)
    conv => whnf
    refine ⟨he10a, he10b, vAgain he10x ?_⟩
    conv => whnf
    intro fp11
    conv => whnf
    intro fp12
    conv => whnf
    cases h
    exact ⟨⟨rfl, rfl⟩, hI5 _ rfl⟩
  · conv => whnf
    cases h
    obtain rfl := hR5 _ rfl
    exact hK
set_option maxRecDepth 100000 in
theorem w_laws_toDesign (k_laws_toInstanceS' : SoundC Tryz.prog 79 c_laws_toInstanceS) (k_laws_toStringS' : SoundC Tryz.prog 80 c_laws_toStringS) (k_laws_toPortS' : SoundC Tryz.prog 81 c_laws_toPortS) : SoundC Tryz.prog 40 c_laws_toDesign := by
  refine fn_sound tabD_ok (gam_cons k_laws_toInstanceS' (gam_cons k_laws_toStringS' (gam_cons k_laws_toPortS' gam_nil))) mixed {} (fn := Tryz.f40) Tryz.func40 (by kernel_rfl) (by kernel_rfl) ?_
  rintro ⟨a0, ⟨⟩⟩ K ⟨r, h, hK⟩
  change laws_toDesign a0 = some r at h
  unfold laws_toDesign at h
  conv => whnf
  refine vBind h (fun toInstanceS0 hb0 h => ?_)
  conv => whnf
  intro fp1
  conv => whnf
  refine vBind h (fun toStringS0 hb2 h => ?_)
  conv => whnf
  refine vBind h (fun toPortS0 hb3 h => ?_)
  conv => whnf
  cases h
  exact hK
set_option maxRecDepth 100000 in
theorem w_slices_Min_Sint64_int64 : SoundC Tryz.prog 220 c_slices_Min_Sint64_int64 := by
  refine fn_sound tab_ok gam_nil mixed { loops := [(0, [.reg 3 (.dat (.int .i64)), .reg 4 (.dat (.int .i64))])] } (fn := Tryz.f220) Tryz.func220 (by kernel_rfl) (by kernel_rfl) ?_
  rintro ⟨x0, ⟨⟩⟩ K ⟨r, h, hK⟩
  change slices_Min_Sint64_int64 x0 = some r at h
  unfold slices_Min_Sint64_int64 at h
  conv => whnf
  refine vIfD h (fun h => ?_) (fun h => ?_)
  · conv => whnf
    cases h
  · conv => whnf
    refine vAt h (fun x1 he0a he0b he0x h => ?_)
    conv => whnf
    refine vLoop h ?_
    rintro I1 μ1 ⟨m0, i0, ⟨⟩⟩ zs1 h hI1 hR1
    change slices_Min_Sint64_int64_loop0 x0 m0 i0 = some zs1 at h
    unfold slices_Min_Sint64_int64_loop0 at h
    conv => whnf
    refine vIfD h (fun h => ?_) (fun h => ?_)
    · conv => whnf
      refine vAt h (fun x2 he2a he2b he2x h => ?_)
      conv => whnf
      cases h
      exact ⟨⟨rfl, rfl⟩, hI1 _ rfl⟩
    · conv => whnf
      cases h
      obtain rfl := hR1 _ rfl
      exact hK
set_option maxRecDepth 100000 in
theorem w_spec_ConeOf (k_spec_l09Code' : SoundC Tryz.prog 28 c_spec_l09Code) (k_spec_l32Nodes' : SoundC Tryz.prog 29 c_spec_l32Nodes) (k_spec_l09Links' : SoundC Tryz.prog 30 c_spec_l09Links) (k_spec_l09Live' : SoundC Tryz.prog 31 c_spec_l09Live) (k_spec_l09Count' : SoundC Tryz.prog 32 c_spec_l09Count) (k_spec_l09Reach' : SoundC Tryz.prog 33 c_spec_l09Reach) (k_spec_l09Listed' : SoundC Tryz.prog 34 c_spec_l09Listed) : SoundC Tryz.prog 8 c_spec_ConeOf := by
  refine fn_sound tab_ok (gam_cons k_spec_l09Code' (gam_cons k_spec_l32Nodes' (gam_cons k_spec_l09Links' (gam_cons k_spec_l09Live' (gam_cons k_spec_l09Count' (gam_cons k_spec_l09Reach' (gam_cons k_spec_l09Listed' gam_nil))))))) mixed { loops := [(0, [.reg 12 (.dat (.int .i64)), .ent 3 (nat_lit 4) (.flat ti73.ety)]), (2, [.reg 14 (.dat (.int .i64)), .ent 3 (nat_lit 4) (.flat ti73.ety)])], draws := [(12, [0, 1, 0, 0, 0, 0, 48, 112, 255, 511], .op 0 (.op 2 (.op 3 (.op 4 (.op 5 (.op 6 (.op 7 (.alt 1 (.alt 8 (.op 9 (.done)) (.done)) (.done)))))))))] } (fn := Tryz.f8) Tryz.func8 (by kernel_rfl) (by kernel_rfl) ?_
  rintro ⟨a0, a1, a2, ⟨⟩⟩ K ⟨r, h, hK⟩
  change spec_ConeOf a0 a1 a2 = some r at h
  unfold spec_ConeOf at h
  conv => whnf
  refine vBind h (fun l09Code0 hb0 h => ?_)
  conv => whnf
  refine vNots ?_
  refine vIfD h (fun h => ?_) (fun h => ?_)
  · conv => whnf
    refine vBind h (fun l32Nodes0 hb1 h => ?_)
    conv => whnf
    refine vNots ?_
    refine vIfB h (fun h => ?_) (fun h => ?_)
    · conv => whnf
      refine vBind h (fun l09Links0 hb2 h => ?_)
      conv => whnf
      refine vBind h (fun l09Live0 hb3 h => ?_)
      conv => whnf
      refine vBind h (fun l09Count0 hb4 h => ?_)
      conv => whnf
      refine vPre h (fun hp5 h => ?_)
      conv => whnf
      refine vPre h (fun hp6 h => ?_)
      conv => whnf
      refine vPre h (fun hp7 h => ?_)
      conv => whnf
      refine vPre h (fun hp8 h => ?_)
      conv => whnf
      refine vLoop h ?_
      rintro I9 μ9 ⟨v0, l0, ⟨⟩⟩ zs9 h hI9 hR9
      change spec_ConeOf_loop1 a2 l09Links0 l09Live0 l09Count0 v0 l0 = some zs9 at h
      unfold spec_ConeOf_loop1 at h
      conv => whnf
      refine vIfD h (fun h => ?_) (fun h => ?_)
      · conv => whnf
        refine ⟨by kernel_rfl, ?_⟩
        conv => whnf
        refine vAt h (fun x0 he10a he10b he10x h => ?_)
        conv => whnf
        refine ⟨_, hb4, ?_⟩
        conv => whnf
        refine vBind h (fun l09Reach0 hb11 h => ?_)
        conv => whnf
        refine vLoop h ?_
        rintro I12 μ12 ⟨v1, l1, ⟨⟩⟩ zs12 h hI12 hR12
        change spec_ConeOf_loop0 v0 l09Reach0 v1 l1 = some zs12 at h
        unfold spec_ConeOf_loop0 at h
        conv => whnf
        refine vIfD h (fun h => ?_) (fun h => ?_)
        · conv => whnf
          refine vAt h (fun x1 he13a he13b he13x h => ?_)
          conv => whnf
          refine ⟨by kernel_rfl, ?_⟩
          conv => whnf
          refine ⟨he13a, he13b, vAgain he13x ?_⟩
          conv => whnf
          refine vIfBs h (fun h => ?_) (fun h => ?_)
          · conv => whnf
            refine ⟨he13a, he13b, vAgain he13x ?_⟩
            conv => whnf
            refine ⟨by kernel_rfl, ?_⟩
            conv => whnf
            refine ⟨by decide, ?_⟩
            conv => whnf
            refine ⟨he13a, he13b, vAgain he13x ?_⟩
            conv => whnf
            cases h
            exact ⟨⟨rfl, rfl⟩, hI12 _ rfl⟩
          · conv => whnf
            refine vAt h (fun x2 he14a he14b he14x h => ?_)
            conv => whnf
            refine ⟨by kernel_rfl, ?_⟩
            conv => whnf
            refine ⟨he14a, he14b, vAgain he14x ?_⟩
            conv => whnf
            refine ⟨he13a, he13b, vAgain he13x ?_⟩
            conv => whnf
            refine ⟨by kernel_rfl, ?_⟩
            conv => whnf
            refine ⟨by decide, ?_⟩
            conv => whnf
            refine ⟨he13a, he13b, vAgain he13x ?_⟩
            conv => whnf
            cases h
            exact ⟨⟨rfl, rfl⟩, hI12 _ rfl⟩
        · conv => whnf
          cases h
          obtain rfl := hR12 _ rfl
          exact ⟨⟨rfl, rfl⟩, hI9 _ rfl⟩
      · conv => whnf
        refine vBind h (fun l09Listed0 hb15 h => ?_)
        conv => whnf
        cases h
        obtain rfl := hR9 _ rfl
        exact hK
    · conv => whnf
      cases h
      exact hK
  · conv => whnf
    cases h
    exact hK
set_option maxRecDepth 100000 in
theorem w_spec_l03Kinds : SoundC Tryz.prog 172 c_spec_l03Kinds := by
  refine fn_sound tab_ok gam_nil mixed { loops := [(0, [.reg 4 (.dat (.int .i64)), .ent 1 (nat_lit 2) (.flat ti35.ety)])] } (fn := Tryz.f172) Tryz.func172 (by kernel_rfl) (by kernel_rfl) ?_
  rintro ⟨c0, ⟨⟩⟩ K ⟨r, h, hK⟩
  change spec_l03Kinds c0 = some r at h
  unfold spec_l03Kinds at h
  conv => whnf
  refine ⟨by decide, ?_⟩
  conv => whnf
  refine ⟨by decide, ?_⟩
  conv => whnf
  refine ⟨by decide, ?_⟩
  conv => whnf
  refine ⟨by decide, ?_⟩
  conv => whnf
  refine vLoop h ?_
  rintro I0 μ0 ⟨i0, l0, ⟨⟩⟩ zs0 h hI0 hR0
  change spec_l03Kinds_loop0 c0 i0 l0 = some zs0 at h
  unfold spec_l03Kinds_loop0 at h
  conv => whnf
  refine vIfD h (fun h => ?_) (fun h => ?_)
  · conv => whnf
    refine vAt h (fun x0 he1a he1b he1x h => ?_)
    conv => whnf
    refine vAt h (fun x1 he2a he2b he2x h => ?_)
    conv => whnf
    refine ⟨by kernel_rfl, ?_⟩
    conv => whnf
    refine ⟨he2a, he2b, vAgain he2x ?_⟩
    conv => whnf
    refine ⟨he2a, he2b, vAgain he2x ?_⟩
    conv => whnf
    refine ⟨by kernel_rfl, ?_⟩
    conv => whnf
    refine ⟨by decide, ?_⟩
    conv => whnf
    refine ⟨he2a, he2b, vAgain he2x ?_⟩
    conv => whnf
    cases h
    exact ⟨⟨rfl, rfl⟩, hI0 _ rfl⟩
  · conv => whnf
    cases h
    obtain rfl := hR0 _ rfl
    exact hK
set_option maxRecDepth 100000 in
theorem w_spec_l03Name : SoundC Tryz.prog 156 c_spec_l03Name := by
  refine fn_sound tab_ok gam_nil mixed { loops := [(0, [.reg 3 (.dat (.int .i64))])] } (fn := Tryz.f156) Tryz.func156 (by kernel_rfl) (by kernel_rfl) ?_
  rintro ⟨s0, ⟨⟩⟩ K ⟨r, h, hK⟩
  change spec_l03Name s0 = some r at h
  unfold spec_l03Name at h
  conv => whnf
  refine vLoop h ?_
  rintro I0 μ0 ⟨i0, ⟨⟩⟩ zs0 h hI0 hR0
  change spec_l03Name_loop0 s0 i0 = some zs0 at h
  unfold spec_l03Name_loop0 at h
  conv => whnf
  refine vIfD h (fun h => ?_) (fun h => ?_)
  · conv => whnf
    refine vAt h (fun x0 he1a he1b he1x h => ?_)
    conv => whnf
    refine vIfD h (fun h => ?_) (fun h => ?_)
    · conv => whnf
      refine ⟨he1a, he1b, vAgain he1x ?_⟩
      conv => whnf
      refine ⟨he1a, he1b, vAgain he1x ?_⟩
      conv => whnf
      refine vIfD h (fun h => ?_) (fun h => ?_)
      · conv => whnf
        refine ⟨he1a, he1b, vAgain he1x ?_⟩
        conv => whnf
        refine vNots ?_
        refine vIfD h (fun h => ?_) (fun h => ?_)
        · conv => whnf
          cases h
          exact ⟨⟨rfl, rfl⟩, hI0 _ rfl⟩
        · conv => whnf
          refine vIfD h (fun h => ?_) (fun h => ?_)
          · conv => whnf
            refine vNots ?_
            refine vIfD h (fun h => ?_) (fun h => ?_)
            · conv => whnf
              cases h
              exact ⟨⟨rfl, rfl⟩, hI0 _ rfl⟩
            · conv => whnf
              cases h
              obtain rfl := hR0 _ rfl
              exact hK
          · conv => whnf
            cases h
            obtain rfl := hR0 _ rfl
            exact hK
      · conv => whnf
        refine vNots ?_
        refine vIfD h (fun h => ?_) (fun h => ?_)
        · conv => whnf
          cases h
          exact ⟨⟨rfl, rfl⟩, hI0 _ rfl⟩
        · conv => whnf
          cases h
          obtain rfl := hR0 _ rfl
          exact hK
    · conv => whnf
      refine ⟨he1a, he1b, vAgain he1x ?_⟩
      conv => whnf
      refine vIfD h (fun h => ?_) (fun h => ?_)
      · conv => whnf
        refine ⟨he1a, he1b, vAgain he1x ?_⟩
        conv => whnf
        refine vIfD h (fun h => ?_) (fun h => ?_)
        · conv => whnf
          refine vNots ?_
          refine vIfD h (fun h => ?_) (fun h => ?_)
          · conv => whnf
            cases h
            exact ⟨⟨rfl, rfl⟩, hI0 _ rfl⟩
          · conv => whnf
            cases h
            obtain rfl := hR0 _ rfl
            exact hK
        · conv => whnf
          cases h
          obtain rfl := hR0 _ rfl
          exact hK
      · conv => whnf
        cases h
        obtain rfl := hR0 _ rfl
        exact hK
  · conv => whnf
    refine vIfD h (fun h => ?_) (fun h => ?_)
    · conv => whnf
      cases h
      obtain rfl := hR0 _ rfl
      exact hK
    · conv => whnf
      cases h
      obtain rfl := hR0 _ rfl
      exact hK
set_option maxRecDepth 100000 in
theorem w_spec_l09Live (k_spec_l09Has' : SoundC Tryz.prog 70 c_spec_l09Has) : SoundC Tryz.prog 31 c_spec_l09Live := by
  refine fn_sound tab_ok (gam_cons k_spec_l09Has' gam_nil) mixed { loops := [(0, [.reg 5 (.own (.ol 4 (.flat (.bool)))), .reg 6 (.dat (.int .i64))])] } (fn := Tryz.f31) Tryz.func31 (by kernel_rfl) (by kernel_rfl) ?_
  rintro ⟨links0, broken0, ⟨⟩⟩ K ⟨r, h, hK⟩
  change spec_l09Live links0 broken0 = some r at h
  unfold spec_l09Live at h
  conv => whnf
  refine vLoop h ?_
  rintro I0 μ0 ⟨out0, k0, ⟨⟩⟩ zs0 h hI0 hR0
  change spec_l09Live_loop0 links0 broken0 out0 k0 = some zs0 at h
  unfold spec_l09Live_loop0 at h
  conv => whnf
  refine vIfD h (fun h => ?_) (fun h => ?_)
  · conv => whnf
    refine vBind h (fun l09Has0 hb1 h => ?_)
    conv => whnf
    refine vPre h (fun hp2 h => ?_)
    conv => whnf
    cases h
    exact ⟨⟨rfl, rfl⟩, hI0 _ rfl⟩
  · conv => whnf
    cases h
    obtain rfl := hR0 _ rfl
    exact hK
end Go.Proofs.YtenpdmpfepgkjaaGreatDoor
