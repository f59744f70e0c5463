/-
  The functions keep their contracts, if what they call does. Printed by program.
-/
import Derived.Test.YtmaogoofmebdbaaGreatDoorM
import Derived.KernelRfl
namespace Go.Proofs.YtmaogoofmebdbaaGreatDoor
open Go Go.Sx
set_option maxRecDepth 100000
set_option linter.unusedVariables false
set_option linter.unusedSimpArgs false
set_option maxRecDepth 100000 in
theorem w_impl_edges_hold (k_impl_edges_pairs' : SoundC Tryz.prog 41 c_impl_edges_pairs) : SoundC Tryz.prog 19 c_impl_edges_hold := by
  refine fn_sound tab_ok (gam_cons k_impl_edges_pairs' gam_nil) mixed { loops := [(0, [.reg 3 (.dat (.int .i64)), .reg 17 (.dat (.int .i64))])], draws := [(5, [0, 0, 2, 6, 0, 16, 48, 126, 0, 256, 768, 0, 2048, 6144, 16128, 32766, 65535, 131071], .op 0 (.op 1 (.op 2 (.op 3 (.op 4 (.op 5 (.op 6 (.op 7 (.op 8 (.op 9 (.op 10 (.op 11 (.op 12 (.op 13 (.op 14 (.op 15 (.op 16 (.op 17 (.done)))))))))))))))))))] } (fn := Tryz.f19) Tryz.func19 (by kernel_rfl) (by kernel_rfl) ?_
  rintro ⟨x0, ⟨⟩⟩ K ⟨r, h, hK⟩
  change impl_edges_hold x0 = some r at h
  unfold impl_edges_hold at h
  conv => whnf
  refine vBind h (fun pairs0 hb0 h => ?_)
  conv => whnf
  refine vLoop h ?_
  rintro I1 μ1 ⟨most0, v0, ⟨⟩⟩ zs1 h hI1 hR1
  change impl_edges_hold_loop0 x0 pairs0 most0 v0 = some zs1 at h
  unfold impl_edges_hold_loop0 at h
  conv => whnf
  refine vIfD h (fun h => ?_) (fun h => ?_)
  · conv => whnf
    refine vAt h (fun x1 he2a he2b he2x h => ?_)
    conv => whnf
    refine ⟨by kernel_rfl, ?_⟩
    conv => whnf
    refine ⟨he2a, he2b, vAgain he2x ?_⟩
    conv => whnf
    refine ⟨by kernel_rfl, ?_⟩
    conv => whnf
    refine vAt h (fun x2 he3a he3b he3x h => ?_)
    conv => whnf
    refine vAt h (fun x3 he4a he4b he4x h => ?_)
    conv => whnf
    cases h
    exact ⟨⟨rfl, rfl⟩, hI1 _ rfl⟩
  · conv => whnf
    cases h
    obtain rfl := hR1 _ rfl
    exact hK
set_option maxRecDepth 100000 in
theorem w_impl_gcd : SoundC Tryz.prog 64 c_impl_gcd := by
  refine fn_sound tab_ok gam_nil mixed { loops := [(0, [.reg 0 (.dat (.int .i64)), .reg 1 (.dat (.int .i64))])], draws := [(2, [0, 0, 0, 6, 3, 31], .op 0 (.op 1 (.op 2 (.op 3 (.op 4 (.op 5 (.done)))))))] } (fn := Tryz.f64) Tryz.func64 (by kernel_rfl) (by kernel_rfl) ?_
  rintro ⟨a0, b0, ⟨⟩⟩ K ⟨r, h, hK⟩
  change impl_gcd a0 b0 = some r at h
  unfold impl_gcd at h
  conv => whnf
  refine vLoop h ?_
  rintro I0 μ0 ⟨a1, b1, ⟨⟩⟩ zs0 h hI0 hR0
  change impl_gcd_loop0 a1 b1 = some zs0 at h
  unfold impl_gcd_loop0 at h
  conv => whnf
  refine vNots ?_
  refine vIfD h (fun h => ?_) (fun h => ?_)
  · conv => whnf
    cases h
    obtain rfl := hR0 _ rfl
    exact hK
  · conv => whnf
    refine ⟨by kernel_rfl, ?_⟩
    conv => whnf
    refine vPre h (fun hp1 h => ?_)
    conv => whnf
    cases h
    exact ⟨⟨rfl, rfl⟩, hI0 _ rfl⟩
set_option maxRecDepth 100000 in
theorem w_impl_hyperPeriod (k_impl_waveOf' : SoundC Tryz.prog 24 c_impl_waveOf) (k_impl_gcd' : SoundC Tryz.prog 64 c_impl_gcd) : SoundC Tryz.prog 40 c_impl_hyperPeriod := by
  refine fn_sound tab_ok (gam_cons k_impl_waveOf' (gam_cons k_impl_gcd' gam_nil)) mixed {} (fn := Tryz.f40) Tryz.func40 (by kernel_rfl) (by kernel_rfl) ?_
  rintro ⟨list0, a0, b0, ⟨⟩⟩ K ⟨r, h, hK⟩
  change impl_hyperPeriod list0 a0 b0 = some r at h
  unfold impl_hyperPeriod at h
  conv => whnf
  refine vBind h (fun waveOf0 hb0 h => ?_)
  conv => whnf
  refine vBind h (fun waveOf1 hb1 h => ?_)
  conv => whnf
  refine vBind h (fun gcd0 hb2 h => ?_)
  conv => whnf
  refine vPre h (fun hp3 h => ?_)
  conv => whnf
  cases h
  exact hK
set_option maxRecDepth 100000 in
theorem w_impl_isClock (k_impl_within' : SoundC Tryz.prog 74 c_impl_within) (k_impl_Clock_isPrimary' : SoundC Tryz.prog 90 c_impl_Clock_isPrimary) (k_impl_waveOf' : SoundC Tryz.prog 24 c_impl_waveOf) : SoundC Tryz.prog 70 c_impl_isClock := by
  refine fn_sound tab_ok (gam_cons k_impl_within' (gam_cons k_impl_Clock_isPrimary' (gam_cons k_impl_waveOf' gam_nil))) mixed {} (fn := Tryz.f70) Tryz.func70 (by kernel_rfl) (by kernel_rfl) ?_
  rintro ⟨a0, a1, ⟨⟩⟩ K ⟨r, h, hK⟩
  change impl_isClock a0 a1 = some r at h
  unfold impl_isClock at h
  conv => whnf
  refine vAt h (fun x0 he0a he0b he0x h => ?_)
  conv => whnf
  refine vIfDs h (fun h => ?_) (fun h => ?_)
  · conv => whnf
    cases h
    exact hK
  · conv => whnf
    refine vIfDs h (fun h => ?_) (fun h => ?_)
    · conv => whnf
      cases h
      exact hK
    · conv => whnf
      refine vIfDs h (fun h => ?_) (fun h => ?_)
      · conv => whnf
        cases h
        exact hK
      · conv => whnf
        refine vIfDs h (fun h => ?_) (fun h => ?_)
        · conv => whnf
          cases h
          exact hK
        · conv => whnf
          refine vBind h (fun within0 hb1 h => ?_)
          conv => whnf
          refine vNots ?_
          refine vIfB h (fun h => ?_) (fun h => ?_)
          · conv => whnf
            refine vIfD h (fun h => ?_) (fun h => ?_)
            · conv => whnf
              refine vBind h (fun isPrimary0 hb2 h => ?_)
              conv => whnf
              cases h
              exact hK
            · conv => whnf
              refine vBind h (fun within1 hb3 h => ?_)
              conv => whnf
              refine vIfB h (fun h => ?_) (fun h => ?_)
              · conv => whnf
                refine vBind h (fun within2 hb4 h => ?_)
                conv => whnf
                refine vIfB h (fun h => ?_) (fun h => ?_)
                · conv => whnf
                  refine vIfD h (fun h => ?_) (fun h => ?_)
                  · conv => whnf
                    refine vIfD h (fun h => ?_) (fun h => ?_)
                    · conv => whnf
                      refine vIfD h (fun h => ?_) (fun h => ?_)
                      · conv => whnf
                        refine vBind h (fun waveOf0 hb5 h => ?_)
                        conv => whnf
                        cases h
                        exact hK
                      · conv => whnf
                        cases h
                        exact hK
                    · conv => whnf
                      cases h
                      exact hK
                  · conv => whnf
                    cases h
                    exact hK
                · conv => whnf
                  cases h
                  exact hK
              · conv => whnf
                cases h
                exact hK
          · conv => whnf
            cases h
            exact hK
set_option maxRecDepth 100000 in
theorem w_impl_length_impl_Clock : SoundC Tryz.prog 48 c_impl_length_impl_Clock := by
  refine fn_sound tab_ok gam_nil mixed {} (fn := Tryz.f48) Tryz.func48 (by kernel_rfl) (by kernel_rfl) ?_
  rintro ⟨list0, ⟨⟩⟩ K ⟨r, h, hK⟩
  change impl_length_impl_Clock list0 = some r at h
  unfold impl_length_impl_Clock at h
  conv => whnf
  cases h
  exact hK
set_option maxRecDepth 100000 in
theorem w_impl_rootOf : SoundC Tryz.prog 39 c_impl_rootOf := by
  refine fn_sound tab_ok gam_nil mixed { loops := [(0, [.reg 1 (.dat (.int .i64))])] } (fn := Tryz.f39) Tryz.func39 (by kernel_rfl) (by kernel_rfl) ?_
  rintro ⟨list0, k0, ⟨⟩⟩ K ⟨r, h, hK⟩
  change impl_rootOf list0 k0 = some r at h
  unfold impl_rootOf at h
  conv => whnf
  refine vLoop h ?_
  rintro I0 μ0 ⟨k1, ⟨⟩⟩ zs0 h hI0 hR0
  change impl_rootOf_loop0 list0 k1 = some zs0 at h
  unfold impl_rootOf_loop0 at h
  conv => whnf
  refine vAt h (fun x0 he1a he1b he1x h => ?_)
  conv => whnf
  refine vIfD h (fun h => ?_) (fun h => ?_)
  · conv => whnf
    refine ⟨he1a, he1b, vAgain he1x ?_⟩
    conv => whnf
    cases h
    exact ⟨⟨rfl, rfl⟩, hI0 _ rfl⟩
  · conv => whnf
    cases h
    obtain rfl := hR0 _ rfl
    exact hK
set_option maxRecDepth 100000 in
theorem w_impl_within : SoundC Tryz.prog 74 c_impl_within := by
  refine fn_sound tab_ok gam_nil mixed {} (fn := Tryz.f74) Tryz.func74 (by kernel_rfl) (by kernel_rfl) ?_
  rintro ⟨x0, low0, high0, ⟨⟩⟩ K ⟨r, h, hK⟩
  change impl_within x0 low0 high0 = some r at h
  unfold impl_within at h
  conv => whnf
  refine vIfD h (fun h => ?_) (fun h => ?_)
  · conv => whnf
    cases h
    exact hK
  · conv => whnf
    cases h
    exact hK
set_option maxRecDepth 100000 in
theorem w_laws_FnExactRelationOf (k_laws_szSetup' : SoundC Tryz.prog 10 c_laws_szSetup) (k_laws_toSetup' : SoundC Tryz.prog 11 c_laws_toSetup) (k_spec_RelationOf' : SoundC Tryz.prog 8 c_spec_RelationOf) (k_impl_RelationOf' : SoundC Tryz.prog 7 c_impl_RelationOf) (k_laws_eqRelation' : SoundC Tryz.prog 12 c_laws_eqRelation) (k_laws_eqSetup' : SoundC Tryz.prog 13 c_laws_eqSetup) : SoundC Tryz.prog 4 c_laws_FnExactRelationOf := by
  refine fn_sound tab_ok (gam_cons k_laws_szSetup' (gam_cons k_laws_toSetup' (gam_cons k_spec_RelationOf' (gam_cons k_impl_RelationOf' (gam_cons k_laws_eqRelation' (gam_cons k_laws_eqSetup' gam_nil)))))) mixed { draws := [(10, [0, 0, 2, 7, 15], .op 0 (.op 1 (.alt 2 (.alt 3 (.op 4 (.done)) (.done)) (.done))))] } (fn := Tryz.f4) Tryz.func4 (by kernel_rfl) (by kernel_rfl) ?_
  rintro ⟨aS0, aFrom0, aTo0, ⟨⟩⟩ K ⟨r, h, hK⟩
  change laws_FnExactRelationOf aS0 aFrom0 aTo0 = some r at h
  unfold laws_FnExactRelationOf at h
  conv => whnf
  refine vBind h (fun szSetup0 hb0 h => ?_)
  conv => whnf
  refine vIfD h (fun h => ?_) (fun h => ?_)
  · conv => whnf
    cases h
    exact hK
  · conv => whnf
    refine vBind h (fun toSetup0 hb1 h => ?_)
    conv => whnf
    refine vBind h (fun RelationOf0 hb2 h => ?_)
    conv => whnf
    refine ⟨_, hb1, ?_⟩
    conv => whnf
    refine vBind h (fun RelationOf1 hb3 h => ?_)
    conv => whnf
    refine vBind h (fun eqRelation0 hb4 h => ?_)
    conv => whnf
    refine vNot ?_
    refine vIfB h (fun h => ?_) (fun h => ?_)
    · conv => whnf
      refine vNots ?_
      refine vIfD h (fun h => ?_) (fun h => ?_)
      · conv => whnf
        refine ⟨by kernel_rfl, ?_⟩
        conv => whnf
        refine ⟨_, hb1, ?_⟩
        conv => whnf
        refine vBind h (fun eqSetup0 hb5 h => ?_)
        conv => whnf
        refine vNots ?_
        refine vIfB h (fun h => ?_) (fun h => ?_)
        · conv => whnf
          cases h
          exact hK
        · conv => whnf
          cases h
          exact hK
      · conv => whnf
        cases h
        exact hK
    · conv => whnf
      cases h
      exact hK
set_option maxRecDepth 100000 in
theorem w_laws_eqClock : SoundC Tryz.prog 56 c_laws_eqClock := by
  refine fn_sound tab_ok gam_nil mixed {} (fn := Tryz.f56) Tryz.func56 (by kernel_rfl) (by kernel_rfl) ?_
  rintro ⟨a0, b0, ⟨⟩⟩ K ⟨r, h, hK⟩
  change laws_eqClock a0 b0 = some r at h
  unfold laws_eqClock at h
  conv => whnf
  refine vNots ?_
  refine vIfD h (fun h => ?_) (fun h => ?_)
  · conv => whnf
    refine vNots ?_
    refine vIfD h (fun h => ?_) (fun h => ?_)
    · conv => whnf
      refine vNots ?_
      refine vIfD h (fun h => ?_) (fun h => ?_)
      · conv => whnf
        refine vNots ?_
        refine vIfD h (fun h => ?_) (fun h => ?_)
        · conv => whnf
          refine vNots ?_
          refine vIfD h (fun h => ?_) (fun h => ?_)
          · conv => whnf
            refine vNots ?_
            refine vIfD h (fun h => ?_) (fun h => ?_)
            · conv => whnf
              refine vNots ?_
              refine vIfD h (fun h => ?_) (fun h => ?_)
              · conv => whnf
                refine vNots ?_
                refine vIfB h (fun h => ?_) (fun h => ?_)
                · conv => whnf
                  refine vNots ?_
                  refine vIfD h (fun h => ?_) (fun h => ?_)
                  · conv => whnf
                    refine vNots ?_
                    refine vIfD h (fun h => ?_) (fun h => ?_)
                    · conv => whnf
                      refine vNots ?_
                      refine vIfD h (fun h => ?_) (fun h => ?_)
                      · conv => whnf
                        cases h
                        exact hK
                      · conv => whnf
                        cases h
                        exact hK
                    · conv => whnf
                      cases h
                      exact hK
                  · conv => whnf
                    cases h
                    exact hK
                · conv => whnf
                  cases h
                  exact hK
              · conv => whnf
                cases h
                exact hK
            · conv => whnf
              cases h
              exact hK
          · conv => whnf
            cases h
            exact hK
        · conv => whnf
          cases h
          exact hK
      · conv => whnf
        cases h
        exact hK
    · conv => whnf
      cases h
      exact hK
  · conv => whnf
    cases h
    exact hK
set_option maxRecDepth 100000 in
theorem w_laws_eqExceptionS (k_laws_eqException' : SoundC Tryz.prog 58 c_laws_eqException) : SoundC Tryz.prog 35 c_laws_eqExceptionS := by
  refine fn_sound tab_ok (gam_cons k_laws_eqException' gam_nil) mixed { loops := [(0, [.reg 5 (.dat (.int .i64))])], draws := [(6, [0, 0, 3, 7, 0, 0, 48, 112, 255, 511], .op 0 (.op 1 (.op 2 (.op 3 (.op 4 (.op 5 (.op 6 (.op 7 (.alt 8 (.op 9 (.done)) (.done))))))))))] } (fn := Tryz.f35) Tryz.func35 (by kernel_rfl) (by kernel_rfl) ?_
  rintro ⟨a0, b0, ⟨⟩⟩ K ⟨r, h, hK⟩
  change laws_eqExceptionS a0 b0 = some r at h
  unfold laws_eqExceptionS at h
  conv => whnf
  refine vNots ?_
  refine vIfD h (fun h => ?_) (fun h => ?_)
  · conv => whnf
    refine vLoop h ?_
    rintro I0 μ0 ⟨i0, ⟨⟩⟩ zs0 h hI0 hR0
    change laws_eqExceptionS_loop0 a0 b0 i0 = some zs0 at h
    unfold laws_eqExceptionS_loop0 at h
    conv => whnf
    refine vIfD h (fun h => ?_) (fun h => ?_)
    · conv => whnf
      refine ⟨by kernel_rfl, ?_⟩
      conv => whnf
      refine vAt h (fun x0 he1a he1b he1x h => ?_)
      conv => whnf
      refine vAt h (fun x1 he2a he2b he2x h => ?_)
      conv => whnf
      refine vBind h (fun eqException0 hb3 h => ?_)
      conv => whnf
      refine vNots ?_
      refine vIfB h (fun h => ?_) (fun h => ?_)
      · conv => whnf
        cases h
        exact ⟨⟨rfl, rfl⟩, hI0 _ rfl⟩
      · conv => whnf
        cases h
        obtain rfl := hR0 _ rfl
        exact hK
    · conv => whnf
      cases h
      obtain rfl := hR0 _ rfl
      exact hK
  · conv => whnf
    cases h
    exact hK
set_option maxRecDepth 100000 in
theorem w_laws_eqExternal (k_laws_eqSpan' : SoundC Tryz.prog 78 c_laws_eqSpan) : SoundC Tryz.prog 57 c_laws_eqExternal := by
  refine fn_sound tab_ok (gam_cons k_laws_eqSpan' gam_nil) mixed {} (fn := Tryz.f57) Tryz.func57 (by kernel_rfl) (by kernel_rfl) ?_
  rintro ⟨a0, b0, ⟨⟩⟩ K ⟨r, h, hK⟩
  change laws_eqExternal a0 b0 = some r at h
  unfold laws_eqExternal at h
  conv => whnf
  refine vNots ?_
  refine vIfD h (fun h => ?_) (fun h => ?_)
  · conv => whnf
    refine vNots ?_
    refine vIfD h (fun h => ?_) (fun h => ?_)
    · conv => whnf
      refine vBind h (fun eqSpan0 hb0 h => ?_)
      conv => whnf
      refine vNots ?_
      refine vIfB h (fun h => ?_) (fun h => ?_)
      · conv => whnf
        refine vBind h (fun eqSpan1 hb1 h => ?_)
        conv => whnf
        refine vNots ?_
        refine vIfB h (fun h => ?_) (fun h => ?_)
        · conv => whnf
          cases h
          exact hK
        · conv => whnf
          cases h
          exact hK
      · conv => whnf
        cases h
        exact hK
    · conv => whnf
      cases h
      exact hK
  · conv => whnf
    cases h
    exact hK
set_option maxRecDepth 100000 in
theorem w_laws_eqInt64S : SoundC Tryz.prog 79 c_laws_eqInt64S := by
  refine fn_sound tab_ok gam_nil mixed { loops := [(0, [.reg 5 (.dat (.int .i64))])], draws := [(6, [0, 0, 3, 7, 0, 0, 48, 112, 255], .op 0 (.op 1 (.op 2 (.op 3 (.op 4 (.op 5 (.op 6 (.op 7 (.op 8 (.done))))))))))] } (fn := Tryz.f79) Tryz.func79 (by kernel_rfl) (by kernel_rfl) ?_
  rintro ⟨a0, b0, ⟨⟩⟩ K ⟨r, h, hK⟩
  change laws_eqInt64S a0 b0 = some r at h
  unfold laws_eqInt64S at h
  conv => whnf
  refine vNots ?_
  refine vIfD h (fun h => ?_) (fun h => ?_)
  · conv => whnf
    refine vLoop h ?_
    rintro I0 μ0 ⟨i0, ⟨⟩⟩ zs0 h hI0 hR0
    change laws_eqInt64S_loop0 a0 b0 i0 = some zs0 at h
    unfold laws_eqInt64S_loop0 at h
    conv => whnf
    refine vIfD h (fun h => ?_) (fun h => ?_)
    · conv => whnf
      refine ⟨by kernel_rfl, ?_⟩
      conv => whnf
      refine vAt h (fun x0 he1a he1b he1x h => ?_)
      conv => whnf
      refine vAt h (fun x1 he2a he2b he2x h => ?_)
      conv => whnf
      refine vNots ?_
      refine vIfD h (fun h => ?_) (fun h => ?_)
      · conv => whnf
        cases h
        exact ⟨⟨rfl, rfl⟩, hI0 _ rfl⟩
      · conv => whnf
        cases h
        obtain rfl := hR0 _ rfl
        exact hK
    · conv => whnf
      cases h
      obtain rfl := hR0 _ rfl
      exact hK
  · conv => whnf
    cases h
    exact hK
set_option maxRecDepth 100000 in
theorem w_laws_szClockS (k_laws_szClock' : SoundC Tryz.prog 49 c_laws_szClock) : SoundC Tryz.prog 25 c_laws_szClockS := by
  refine fn_sound tab_ok (gam_cons k_laws_szClock' gam_nil) mixed { loops := [(0, [.reg 1 (.dat (.int .i64)), .reg 5 (.dat (.int .i64))])] } (fn := Tryz.f25) Tryz.func25 (by kernel_rfl) (by kernel_rfl) ?_
  rintro ⟨a0, left0, ⟨⟩⟩ K ⟨r, h, hK⟩
  change laws_szClockS a0 left0 = some r at h
  unfold laws_szClockS at h
  conv => whnf
  refine vIfD h (fun h => ?_) (fun h => ?_)
  · conv => whnf
    cases h
    exact hK
  · conv => whnf
    refine vLoop h ?_
    rintro I0 μ0 ⟨left1, i0, ⟨⟩⟩ zs0 h hI0 hR0
    change laws_szClockS_loop0 a0 left1 i0 = some zs0 at h
    unfold laws_szClockS_loop0 at h
    conv => whnf
    refine vIfD h (fun h => ?_) (fun h => ?_)
    · conv => whnf
      refine vAt h (fun x0 he1a he1b he1x h => ?_)
      conv => whnf
      refine vBind h (fun szClock0 hb2 h => ?_)
      conv => whnf
      refine vIfD h (fun h => ?_) (fun h => ?_)
      · conv => whnf
        cases h
        obtain rfl := hR0 _ rfl
        exact hK
      · conv => whnf
        cases h
        exact ⟨⟨rfl, rfl⟩, hI0 _ rfl⟩
    · conv => whnf
      cases h
      obtain rfl := hR0 _ rfl
      exact hK
set_option maxRecDepth 100000 in
theorem w_laws_szExternalS : SoundC Tryz.prog 26 c_laws_szExternalS := by
  refine fn_sound tab_ok gam_nil mixed {} (fn := Tryz.f26) Tryz.func26 (by kernel_rfl) (by kernel_rfl) ?_
  rintro ⟨a0, left0, ⟨⟩⟩ K ⟨r, h, hK⟩
  change laws_szExternalS a0 left0 = some r at h
  unfold laws_szExternalS at h
  conv => whnf
  refine vIfD h (fun h => ?_) (fun h => ?_)
  · conv => whnf
    cases h
    exact hK
  · conv => whnf
    cases h
    exact hK
set_option maxRecDepth 100000 in
theorem w_laws_toException (k_laws_toInt64S' : SoundC Tryz.prog 77 c_laws_toInt64S) : SoundC Tryz.prog 54 c_laws_toException := by
  refine fn_sound tab_ok (gam_cons k_laws_toInt64S' gam_nil) mixed {} (fn := Tryz.f54) Tryz.func54 (by kernel_rfl) (by kernel_rfl) ?_
  rintro ⟨a0, ⟨⟩⟩ K ⟨r, h, hK⟩
  change laws_toException a0 = some r at h
  unfold laws_toException at h
  conv => whnf
  refine vBind h (fun toInt64S0 hb0 h => ?_)
  conv => whnf
  refine vBind h (fun toInt64S1 hb1 h => ?_)
  conv => whnf
  refine vBind h (fun toInt64S2 hb2 h => ?_)
  conv => whnf
  cases h
  exact hK
set_option maxRecDepth 100000 in
theorem w_laws_toExceptionS (k_laws_toException' : SoundC Tryz.prog 54 c_laws_toException) : SoundC Tryz.prog 31 c_laws_toExceptionS := by
  refine fn_sound tab_ok (gam_cons k_laws_toException' gam_nil) mixed { loops := [(0, [.reg 4 (.dat (.int .i64)), .reg 3 (.own 102 (tException))])] } (fn := Tryz.f31) Tryz.func31 (by kernel_rfl) (by kernel_rfl) ?_
  rintro ⟨a0, ⟨⟩⟩ K ⟨r, h, hK⟩
  change laws_toExceptionS a0 = some r at h
  unfold laws_toExceptionS at h
  conv => whnf
  refine vPre h (fun hp0 h => ?_)
  conv => whnf
  refine vPre h (fun hp1 h => ?_)
  conv => whnf
  refine vPre h (fun hp2 h => ?_)
  conv => whnf
  refine vPre h (fun hp3 h => ?_)
  conv => whnf
  refine vLoop h ?_
  rintro I4 μ4 ⟨i0, out0, ⟨⟩⟩ zs4 h hI4 hR4
  change laws_toExceptionS_loop0 a0 i0 out0 = some zs4 at h
  unfold laws_toExceptionS_loop0 at h
  conv => whnf
  refine vIfD h (fun h => ?_) (fun h => ?_)
  · conv => whnf
    refine vAt h (fun x0 he5a he5b he5x h => ?_)
    conv => whnf
    refine vBind h (fun toException0 hb6 h => ?_)
    conv => whnf
    refine vAt h (fun x1 he7a he7b he7x h => ?_)
    conv => whnf
    refine ⟨by kernel_rfl, ?_⟩
    conv => whnf
    refine ⟨by decide, ?_⟩
    conv => whnf
    refine ⟨he7a, he7b, vAgain he7x ?_⟩
    conv => whnf
    cases h
    exact ⟨⟨rfl, rfl⟩, hI4 _ rfl⟩
  · conv => whnf
    cases h
    obtain rfl := hR4 _ rfl
    exact hK
set_option maxRecDepth 100000 in
theorem w_laws_toInt64S : SoundC Tryz.prog 77 c_laws_toInt64S := by
  refine fn_sound tab_ok gam_nil mixed { loops := [(0, [.reg 4 (.dat (.int .i64)), .reg 3 (.own 2 (.int .i64))])] } (fn := Tryz.f77) Tryz.func77 (by kernel_rfl) (by kernel_rfl) ?_
  rintro ⟨a0, ⟨⟩⟩ K ⟨r, h, hK⟩
  change laws_toInt64S a0 = some r at h
  unfold laws_toInt64S at h
  conv => whnf
  refine vPre h (fun hp0 h => ?_)
  conv => whnf
  refine vPre h (fun hp1 h => ?_)
  conv => whnf
  refine vPre h (fun hp2 h => ?_)
  conv => whnf
  refine vPre h (fun hp3 h => ?_)
  conv => whnf
  refine vLoop h ?_
  rintro I4 μ4 ⟨i0, out0, ⟨⟩⟩ zs4 h hI4 hR4
  change laws_toInt64S_loop0 a0 i0 out0 = some zs4 at h
  unfold laws_toInt64S_loop0 at h
  conv => whnf
  refine vIfD h (fun h => ?_) (fun h => ?_)
  · conv => whnf
    refine vAt h (fun x0 he5a he5b he5x h => ?_)
    conv => whnf
    refine vAt h (fun x1 he6a he6b he6x h => ?_)
    conv => whnf
    refine ⟨by kernel_rfl, ?_⟩
    conv => whnf
    refine ⟨by decide, ?_⟩
    conv => whnf
    refine ⟨he6a, he6b, vAgain he6x ?_⟩
    conv => whnf
    cases h
    exact ⟨⟨rfl, rfl⟩, hI4 _ rfl⟩
  · conv => whnf
    cases h
    obtain rfl := hR4 _ rfl
    exact hK
set_option maxRecDepth 100000 in
theorem w_spec_RelationOf (k_spec_SetupSeparation' : SoundC Tryz.prog 20 c_spec_SetupSeparation) (k_spec_HoldSeparation' : SoundC Tryz.prog 21 c_spec_HoldSeparation) (k_spec_UncertaintyOf' : SoundC Tryz.prog 22 c_spec_UncertaintyOf) : SoundC Tryz.prog 8 c_spec_RelationOf := by
  refine fn_sound tab_ok (gam_cons k_spec_SetupSeparation' (gam_cons k_spec_HoldSeparation' (gam_cons k_spec_UncertaintyOf' gam_nil))) mixed {} (fn := Tryz.f8) Tryz.func8 (by kernel_rfl) (by kernel_rfl) ?_
  rintro ⟨s0, from0, to0, ⟨⟩⟩ K ⟨r, h, hK⟩
  change spec_RelationOf s0 from0 to0 = some r at h
  unfold spec_RelationOf at h
  conv => whnf
  refine vBind h (fun SetupSeparation0 hb0 h => ?_)
  conv => whnf
  refine vNots ?_
  refine vIfD h (fun h => ?_) (fun h => ?_)
  · conv => whnf
    refine vBind h (fun HoldSeparation0 hb1 h => ?_)
    conv => whnf
    refine vBind h (fun UncertaintyOf0 hb2 h => ?_)
    conv => whnf
    cases h
    exact hK
  · conv => whnf
    cases h
    exact hK
set_option maxRecDepth 100000 in
theorem w_spec_l03DrawArc (k_spec_l01Next' : SoundC Tryz.prog 16 c_spec_l01Next) (k_spec_l03DrawTables' : SoundC Tryz.prog 112 c_spec_l03DrawTables) : SoundC Tryz.prog 103 c_spec_l03DrawArc := by
  refine fn_sound tab_ok (gam_cons k_spec_l01Next' (gam_cons k_spec_l03DrawTables' gam_nil)) mixed {} (fn := Tryz.f103) Tryz.func103 (by kernel_rfl) (by kernel_rfl) ?_
  rintro ⟨s0, kind0, from0, to0, sense0, ⟨⟩⟩ K ⟨r, h, hK⟩
  change spec_l03DrawArc s0 kind0 from0 to0 sense0 = some r at h
  unfold spec_l03DrawArc at h
  conv => whnf
  refine vIfD h (fun h => ?_) (fun h => ?_)
  · conv => whnf
    refine vBind h (fun l01Next0 hb0 h => ?_)
    conv => whnf
    refine vBind h (fun l03DrawTables0 hb1 h => ?_)
    conv => whnf
    cases h
    exact hK
  · conv => whnf
    refine vBind h (fun l01Next0 hb2 h => ?_)
    conv => whnf
    refine vBind h (fun l03DrawTables0 hb3 h => ?_)
    conv => whnf
    refine vBind h (fun l03DrawTables1 hb4 h => ?_)
    conv => whnf
    cases h
    exact hK
set_option maxRecDepth 100000 in
theorem w_spec_l03Sense : SoundC Tryz.prog 102 c_spec_l03Sense := by
  refine fn_sound tab_ok gam_nil mixed { loops := [(0, [.reg 5 (.dat (.bool)), .reg 6 (.dat (.bool)), .reg 8 (.dat (.int .i64))])], draws := [(7, [0, 1, 3, 7, 3, 31, 63, 3, 131, 3, 3, 1539, 3971, 8067, 16383, 32767, 65535], .op 0 (.op 1 (.op 2 (.op 3 (.op 4 (.op 5 (.op 6 (.op 7 (.op 8 (.op 9 (.op 10 (.op 11 (.op 12 (.op 13 (.op 14 (.op 15 (.op 16 (.done)))))))))))))))))), (8, [0, 1, 3, 7, 3, 31, 63, 3, 131, 3, 3, 1539, 3971, 8067, 16383, 32767, 65535], .op 0 (.op 1 (.op 2 (.op 3 (.op 4 (.op 5 (.op 6 (.op 7 (.op 8 (.op 9 (.op 10 (.op 11 (.op 12 (.op 13 (.op 14 (.op 15 (.op 16 (.done))))))))))))))))))] } (fn := Tryz.f102) Tryz.func102 (by kernel_rfl) (by kernel_rfl) ?_
  rintro ⟨c0, pin0, ⟨⟩⟩ K ⟨r, h, hK⟩
  change spec_l03Sense c0 pin0 = some r at h
  unfold spec_l03Sense at h
  conv => whnf
  refine vPre h (fun hp0 h => ?_)
  conv => whnf
  refine vLoop h ?_
  rintro I1 μ1 ⟨raises0, lowers0, i0, ⟨⟩⟩ zs1 h hI1 hR1
  change spec_l03Sense_loop0 c0 pin0 raises0 lowers0 i0 = some zs1 at h
  unfold spec_l03Sense_loop0 at h
  conv => whnf
  refine vIfD h (fun h => ?_) (fun h => ?_)
  · conv => whnf
    refine vNots ?_
    refine vIfD h (fun h => ?_) (fun h => ?_)
    · conv => whnf
      refine ⟨by kernel_rfl, ?_⟩
      conv => whnf
      refine vIfBs h (fun h => ?_) (fun h => ?_)
      · conv => whnf
        refine ⟨by kernel_rfl, ?_⟩
        conv => whnf
        refine vIfBs h (fun h => ?_) (fun h => ?_)
        · conv => whnf
          cases h
          exact ⟨⟨rfl, rfl⟩, hI1 _ rfl⟩
        · conv => whnf
          refine vAt h (fun x0 he2a he2b he2x h => ?_)
          conv => whnf
          refine vAt h (fun x1 he3a he3b he3x h => ?_)
          conv => whnf
          cases h
          exact ⟨⟨rfl, rfl⟩, hI1 _ rfl⟩
      · conv => whnf
        refine vAt h (fun x0 he4a he4b he4x h => ?_)
        conv => whnf
        refine vAt h (fun x1 he5a he5b he5x h => ?_)
        conv => whnf
        refine ⟨by kernel_rfl, ?_⟩
        conv => whnf
        refine vIfBs h (fun h => ?_) (fun h => ?_)
        · conv => whnf
          cases h
          exact ⟨⟨rfl, rfl⟩, hI1 _ rfl⟩
        · conv => whnf
          refine ⟨he4a, he4b, vAgain he4x ?_⟩
          conv => whnf
          refine ⟨he5a, he5b, vAgain he5x ?_⟩
          conv => whnf
          cases h
          exact ⟨⟨rfl, rfl⟩, hI1 _ rfl⟩
    · conv => whnf
      cases h
      exact ⟨⟨rfl, rfl⟩, hI1 _ rfl⟩
  · conv => whnf
    refine vIfB h (fun h => ?_) (fun h => ?_)
    · conv => whnf
      refine vIfB h (fun h => ?_) (fun h => ?_)
      · conv => whnf
        cases h
        obtain rfl := hR1 _ rfl
        exact hK
      · conv => whnf
        refine vIfB h (fun h => ?_) (fun h => ?_)
        · conv => whnf
          cases h
          obtain rfl := hR1 _ rfl
          exact hK
        · conv => whnf
          refine vIfB h (fun h => ?_) (fun h => ?_)
          · conv => whnf
            cases h
            obtain rfl := hR1 _ rfl
            exact hK
          · conv => whnf
            cases h
            obtain rfl := hR1 _ rfl
            exact hK
    · conv => whnf
      refine vIfB h (fun h => ?_) (fun h => ?_)
      · conv => whnf
        cases h
        obtain rfl := hR1 _ rfl
        exact hK
      · conv => whnf
        refine vIfB h (fun h => ?_) (fun h => ?_)
        · conv => whnf
          cases h
          obtain rfl := hR1 _ rfl
          exact hK
        · conv => whnf
          cases h
          obtain rfl := hR1 _ rfl
          exact hK
set_option maxRecDepth 100000 in
theorem w_spec_l14Edge : SoundC Tryz.prog 89 c_spec_l14Edge := by
  refine fn_sound tab_ok gam_nil mixed {} (fn := Tryz.f89) Tryz.func89 (by kernel_rfl) (by kernel_rfl) ?_
  rintro ⟨w0, edge0, ⟨⟩⟩ K ⟨r, h, hK⟩
  change spec_l14Edge w0 edge0 = some r at h
  unfold spec_l14Edge at h
  conv => whnf
  refine vIfD h (fun h => ?_) (fun h => ?_)
  · conv => whnf
    cases h
    exact hK
  · conv => whnf
    cases h
    exact hK
set_option maxRecDepth 100000 in
theorem wb_spec_l14Of (rec0 : (List TClock) → Int → Option Tl14Wave) (hrec : SoundC Tryz.prog 44 (cb_spec_l14Of rec0)) : SoundC Tryz.prog 44 (cb_spec_l14Of (spec_l14Of_body rec0)) := by
  refine fn_sound tab_ok (gam_cons hrec gam_nil) mixed {} (fn := Tryz.f44) Tryz.func44 (by kernel_rfl) (by kernel_rfl) ?_
  rintro ⟨list0, k0, ⟨⟩⟩ K ⟨r, h, hK⟩
  change spec_l14Of_body rec0 list0 k0 = some r at h
  unfold spec_l14Of_body at h
  conv => whnf
  refine vAt h (fun x0 he0a he0b he0x h => ?_)
  conv => whnf
  refine vIfD h (fun h => ?_) (fun h => ?_)
  · conv => whnf
    cases h
    exact hK
  · conv => whnf
    refine vBind h (fun r0 hb1 h => ?_)
    conv => whnf
    refine vIfD h (fun h => ?_) (fun h => ?_)
    · conv => whnf
      refine ⟨by decide, ?_⟩
      conv => whnf
      refine vIfB h (fun h => ?_) (fun h => ?_)
      · conv => whnf
        cases h
        exact hK
      · conv => whnf
        cases h
        exact hK
    · conv => whnf
      refine vIfB h (fun h => ?_) (fun h => ?_)
      · conv => whnf
        cases h
        exact hK
      · conv => whnf
        cases h
        exact hK
set_option maxRecDepth 100000 in
theorem w_spec_l14Of : SoundC Tryz.prog 44 c_spec_l14Of := by
  have hn : ∀ n, SoundC Tryz.prog 44 (cb_spec_l14Of (spec_l14Of_n n)) := by
    intro n
    induction n with
    | zero =>
      refine fn_sound tab_ok gam_nil mixed {} (fn := Tryz.f44) Tryz.func44 (by kernel_rfl) (by kernel_rfl) ?_
      rintro ⟨list0, k0, ⟨⟩⟩ K ⟨r, h, hK⟩
      cases h
    | succ n ih => exact wb_spec_l14Of _ ih
  refine ⟨(hn 0).1, ?_⟩
  rintro w S vs ⟨list0, k0, ⟨⟩⟩ K h1 h2 h3 h4 ⟨r, h, hK⟩
  obtain ⟨n, hr⟩ := recM_some h
  exact (hn n).2 w S vs _ K h1 h2 h3 h4 ⟨r, hr, hK⟩
set_option maxRecDepth 100000 in
theorem w_spec_l15Pairs (k_spec_l14Hyper' : SoundC Tryz.prog 68 c_spec_l14Hyper) (k_spec_l14Of' : SoundC Tryz.prog 44 c_spec_l14Of) (k_spec_l14After' : SoundC Tryz.prog 69 c_spec_l14After) : SoundC Tryz.prog 43 c_spec_l15Pairs := by
  refine fn_sound tab_ok (gam_cons k_spec_l14Hyper' (gam_cons k_spec_l14Of' (gam_cons k_spec_l14After' gam_nil))) mixed { loops := [(0, [.reg 11 (.own 94 (.sl (.int .i64))), .reg 15 (.dat (.int .i64))])] } (fn := Tryz.f43) Tryz.func43 (by kernel_rfl) (by kernel_rfl) ?_
  rintro ⟨list0, a0, ea0, b0, eb0, ⟨⟩⟩ K ⟨r, h, hK⟩
  change spec_l15Pairs list0 a0 ea0 b0 eb0 = some r at h
  unfold spec_l15Pairs at h
  conv => whnf
  refine vBind h (fun l14Hyper0 hb0 h => ?_)
  conv => whnf
  refine vBind h (fun l14Of0 hb1 h => ?_)
  conv => whnf
  refine vBind h (fun l14Of1 hb2 h => ?_)
  conv => whnf
  refine vBind h (fun l14After0 hb3 h => ?_)
  conv => whnf
  refine vLoop h ?_
  rintro I4 μ4 ⟨out0, at0, ⟨⟩⟩ zs4 h hI4 hR4
  change spec_l15Pairs_loop0 eb0 l14Hyper0 l14Of0 l14Of1 out0 at0 = some zs4 at h
  unfold spec_l15Pairs_loop0 at h
  conv => whnf
  refine vIfD h (fun h => ?_) (fun h => ?_)
  · conv => whnf
    refine vBind h (fun l14After1 hb5 h => ?_)
    conv => whnf
    refine vPre h (fun hp6 h => ?_)
    conv => whnf
    cases h
    exact ⟨⟨rfl, rfl⟩, hI4 _ rfl⟩
  · conv => whnf
    cases h
    obtain rfl := hR4 _ rfl
    exact hK
end Go.Proofs.YtmaogoofmebdbaaGreatDoor
