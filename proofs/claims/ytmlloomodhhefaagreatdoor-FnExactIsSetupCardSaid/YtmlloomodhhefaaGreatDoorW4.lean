/-
  The functions keep their contracts, if what they call does. Printed by program.
-/
import Derived.Test.YtmlloomodhhefaaGreatDoorM
import Derived.KernelRfl
namespace Go.Proofs.YtmlloomodhhefaaGreatDoor
open Go Go.Sx
set_option maxRecDepth 100000
set_option linter.unusedVariables false
set_option linter.unusedSimpArgs false
theorem w_impl_Cell_areArcs (q1 : SoundC Tryz.prog 209 c_impl_Cell_isArc) (q0 : SoundC Tryz.prog 210 c_slices_ContainsFunc_Simpl_Arc_impl_Arc_at_impl_Cell_areArcs_c1) : SoundC Tryz.prog 193 c_impl_Cell_areArcs := by
  refine fn_sound tab_ok (gam_cons q1 (gam_cons q0 gam_nil)) mixed { loops := [(0, [.reg 8 (.dat (.int .i64))])] } (fn := Tryz.f193) Tryz.func193 (by kernel_rfl) (by kernel_rfl) ?_
  rintro ⟨c0, ⟨⟩⟩ K ⟨r, h, hK⟩
  change impl_Cell_areArcs c0 = some r at h
  unfold impl_Cell_areArcs at h
  conv => whnf
  refine vLoop h ?_
  rintro I0 μ0 ⟨v0, ⟨⟩⟩ zs0 h hI0 hR0
  change impl_Cell_areArcs_loop0 c0 v0 = some zs0 at h
  unfold impl_Cell_areArcs_loop0 at h
  conv => whnf
  refine vIfD h (fun h => ?_) (fun h => ?_)
  · conv => whnf
    refine vAt h (fun x0 he1a he1b he1x h => ?_)
    conv => whnf
    refine vBind h (fun isArc0 hb2 h => ?_)
    conv => whnf
    refine vNot ?_
    refine vIfB h (fun h => ?_) (fun h => ?_)
    · conv => whnf
      refine ⟨by decide, ?_⟩
      conv => whnf
      refine vPre h (fun hp3 h => ?_)
      conv => whnf
      refine vPre h (fun hp4 h => ?_)
      conv => whnf
      refine vBind h (fun c1_0 hb5 h => ?_)
      conv => whnf
      refine vIfB h (fun h => ?_) (fun h => ?_)
      · conv => whnf
        cases h
        obtain rfl := hR0 _ rfl
        exact hK
      · conv => whnf
        cases h
        exact ⟨⟨rfl, rfl⟩, hI0 _ rfl⟩
    · conv => whnf
      cases h
      obtain rfl := hR0 _ rfl
      exact hK
  · conv => whnf
    cases h
    obtain rfl := hR0 _ rfl
    exact hK
theorem w_impl_Design_places : SoundC Tryz.prog 75 c_impl_Design_places := by
  refine fn_sound tab_ok gam_nil mixed { loops := [(0, [.reg 3 (.own (.ol 153 (.flat (tplace)))), .reg 13 (.dat (.int .i64))]), (2, [.reg 3 (.own (.ol 153 (.flat (tplace)))), .reg 21 (.dat (.int .i64))]), (4, [.reg 3 (.own (.ol 153 (.flat (tplace)))), .reg 44 (.dat (.int .i64))])] } (fn := Tryz.f75) Tryz.func75 (by kernel_rfl) (by kernel_rfl) ?_
  rintro ⟨d0, ⟨⟩⟩ K ⟨r, h, hK⟩
  change impl_Design_places d0 = some r at h
  unfold impl_Design_places at h
  conv => whnf
  refine vLoop h ?_
  rintro I0 μ0 ⟨list0, v0, ⟨⟩⟩ zs0 h hI0 hR0
  change impl_Design_places_loop2 d0 list0 v0 = some zs0 at h
  unfold impl_Design_places_loop2 at h
  conv => whnf
  refine vIfD h (fun h => ?_) (fun h => ?_)
  · conv => whnf
    refine vAt h (fun x0 he1a he1b he1x h => ?_)
    conv => whnf
    refine vLoop h ?_
    rintro I2 μ2 ⟨list1, v1, ⟨⟩⟩ zs2 h hI2 hR2
    change impl_Design_places_loop0 v0 x0 list1 v1 = some zs2 at h
    unfold impl_Design_places_loop0 at h
    conv => whnf
    refine vIfD h (fun h => ?_) (fun h => ?_)
    · conv => whnf
      refine vAt h (fun x1 he3a he3b he3x h => ?_)
      conv => whnf
      refine vPre h (fun hp4 h => ?_)
      conv => whnf
      cases h
      exact ⟨⟨rfl, rfl⟩, hI2 _ rfl⟩
    · conv => whnf
      cases h
      obtain rfl := hR2 _ rfl
      exact ⟨⟨rfl, rfl⟩, hI0 _ rfl⟩
  · conv => whnf
    refine vLoop h ?_
    rintro I5 μ5 ⟨list1, v1, ⟨⟩⟩ zs5 h hI5 hR5
    change impl_Design_places_loop1 d0 list1 v1 = some zs5 at h
    unfold impl_Design_places_loop1 at h
    conv => whnf
    refine vIfD h (fun h => ?_) (fun h => ?_)
    · conv => whnf
      refine vAt h (fun x0 he6a he6b he6x h => ?_)
      conv => whnf
      refine vPre h (fun hp7 h => ?_)
      conv => whnf
      cases h
      exact ⟨⟨rfl, rfl⟩, hI5 _ rfl⟩
    · conv => whnf
      cases h
      obtain rfl := hR5 _ rfl
      obtain rfl := hR0 _ rfl
      exact hK
theorem w_impl_Design_sinks (q0 : SoundC Tryz.prog 75 c_impl_Design_places) : SoundC Tryz.prog 133 c_impl_Design_sinks := by
  refine fn_sound tab_ok (gam_cons q0 gam_nil) mixed { loops := [(0, [.reg 5 (.own (.ol 2 (.flat (.int .i64)))), .reg 11 (.dat (.int .i64))])] } (fn := Tryz.f133) Tryz.func133 (by kernel_rfl) (by kernel_rfl) ?_
  rintro ⟨d0, net0, ⟨⟩⟩ K ⟨r, h, hK⟩
  change impl_Design_sinks d0 net0 = some r at h
  unfold impl_Design_sinks at h
  conv => whnf
  refine vBind h (fun places0 hb0 h => ?_)
  conv => whnf
  refine vLoop h ?_
  rintro I1 μ1 ⟨list0, v0, ⟨⟩⟩ zs1 h hI1 hR1
  change impl_Design_sinks_loop0 net0 places0 list0 v0 = some zs1 at h
  unfold impl_Design_sinks_loop0 at h
  conv => whnf
  refine vIfD h (fun h => ?_) (fun h => ?_)
  · conv => whnf
    refine vAt h (fun x0 he2a he2b he2x h => ?_)
    conv => whnf
    refine ⟨by kernel_rfl, ?_⟩
    conv => whnf
    refine ⟨he2a, he2b, vAgain he2x ?_⟩
    conv => whnf
    refine vIfD h (fun h => ?_) (fun h => ?_)
    · conv => whnf
      refine vNots ?_
      refine vIfB h (fun h => ?_) (fun h => ?_)
      · conv => whnf
        cases h
        exact ⟨⟨rfl, rfl⟩, hI1 _ rfl⟩
      · conv => whnf
        refine vPre h (fun hp3 h => ?_)
        conv => whnf
        cases h
        exact ⟨⟨rfl, rfl⟩, hI1 _ rfl⟩
    · conv => whnf
      cases h
      exact ⟨⟨rfl, rfl⟩, hI1 _ rfl⟩
  · conv => whnf
    cases h
    obtain rfl := hR1 _ rfl
    exact hK
theorem w_impl_IsDesign (q4 : SoundC Tryz.prog 122 c_impl_IsLibrary) (q2 : SoundC Tryz.prog 123 c_impl_Design_hasNames) (q1 : SoundC Tryz.prog 124 c_impl_Design_isInstance) (q3 : SoundC Tryz.prog 125 c_impl_Design_isNet) (q0 : SoundC Tryz.prog 126 c_slices_ContainsFunc_Sint_int_at_impl_IsDesign_c1) : SoundC Tryz.prog 74 c_impl_IsDesign := by
  refine fn_sound tab_ok (gam_cons q4 (gam_cons q2 (gam_cons q1 (gam_cons q3 (gam_cons q0 gam_nil))))) mixed { loops := [(0, [.reg 25 (.dat (.int .i64)), .ent 2 (nat_lit 3) (.flat ti210.ety)]), (2, [.reg 51 (.dat (.int .i64)), .ent 2 (nat_lit 3) (.flat ti210.ety)])] } (fn := Tryz.f74) Tryz.func74 (by kernel_rfl) (by kernel_rfl) ?_
  rintro ⟨a0, a1, ⟨⟩⟩ K ⟨r, h, hK⟩
  change impl_IsDesign a0 a1 = some r at h
  unfold impl_IsDesign at h
  conv => whnf
  refine vBind h (fun IsLibrary0 hb0 h => ?_)
  conv => whnf
  refine vNot ?_
  refine vIfB h (fun h => ?_) (fun h => ?_)
  · conv => whnf
    refine vBind h (fun hasNames0 hb1 h => ?_)
    conv => whnf
    refine vNots ?_
    refine vIfB h (fun h => ?_) (fun h => ?_)
    · conv => whnf
      refine vPre h (fun hp2 h => ?_)
      conv => whnf
      refine vPre h (fun hp3 h => ?_)
      conv => whnf
      refine vPre h (fun hp4 h => ?_)
      conv => whnf
      refine vPre h (fun hp5 h => ?_)
      conv => whnf
      refine vLoop h ?_
      rintro I6 μ6 ⟨v0, l0, ⟨⟩⟩ zs6 h hI6 hR6
      change impl_IsDesign_loop1 a0 a1 v0 l0 = some zs6 at h
      unfold impl_IsDesign_loop1 at h
      conv => whnf
      refine vIfD h (fun h => ?_) (fun h => ?_)
      · conv => whnf
        refine vAt h (fun x0 he7a he7b he7x h => ?_)
        conv => whnf
        refine vBind h (fun isInstance0 hb8 h => ?_)
        conv => whnf
        refine vNots ?_
        refine vIfB h (fun h => ?_) (fun h => ?_)
        · conv => whnf
          refine vAt h (fun x1 he9a he9b he9x h => ?_)
          conv => whnf
          refine vAt h (fun x2 he10a he10b he10x h => ?_)
          conv => whnf
          refine ⟨by kernel_rfl, ?_⟩
          conv => whnf
          refine ⟨he10a, he10b, vAgain he10x ?_⟩
          conv => whnf
          refine ⟨he10a, he10b, vAgain he10x ?_⟩
          conv => whnf
          refine ⟨by kernel_rfl, ?_⟩
          conv => whnf
          refine ⟨by decide, ?_⟩
          conv => whnf
          refine ⟨he10a, he10b, vAgain he10x ?_⟩
          conv => whnf
          cases h
          exact ⟨⟨rfl, rfl⟩, hI6 _ rfl⟩
        · conv => whnf
          cases h
          obtain rfl := hR6 _ rfl
          exact hK
      · conv => whnf
        refine vLoop h ?_
        rintro I11 μ11 ⟨v1, l1, ⟨⟩⟩ zs11 h hI11 hR11
        change impl_IsDesign_loop0 a1 v1 l1 = some zs11 at h
        unfold impl_IsDesign_loop0 at h
        conv => whnf
        refine vIfD h (fun h => ?_) (fun h => ?_)
        · conv => whnf
          refine vAt h (fun x0 he12a he12b he12x h => ?_)
          conv => whnf
          refine vNots ?_
          refine vIfD h (fun h => ?_) (fun h => ?_)
          · conv => whnf
            refine vBind h (fun isNet0 hb13 h => ?_)
            conv => whnf
            refine vNots ?_
            refine vIfB h (fun h => ?_) (fun h => ?_)
            · conv => whnf
              refine vIfD h (fun h => ?_) (fun h => ?_)
              · conv => whnf
                refine vAt h (fun x1 he14a he14b he14x h => ?_)
                conv => whnf
                refine ⟨by kernel_rfl, ?_⟩
                conv => whnf
                refine ⟨he14a, he14b, vAgain he14x ?_⟩
                conv => whnf
                refine ⟨he14a, he14b, vAgain he14x ?_⟩
                conv => whnf
                refine ⟨by kernel_rfl, ?_⟩
                conv => whnf
                refine ⟨by decide, ?_⟩
                conv => whnf
                refine ⟨he14a, he14b, vAgain he14x ?_⟩
                conv => whnf
                cases h
                exact ⟨⟨rfl, rfl⟩, hI11 _ rfl⟩
              · conv => whnf
                cases h
                exact ⟨⟨rfl, rfl⟩, hI11 _ rfl⟩
            · conv => whnf
              cases h
              obtain rfl := hR11 _ rfl
              obtain rfl := hR6 _ rfl
              exact hK
          · conv => whnf
            refine vNot ?_
            refine vIfD h (fun h => ?_) (fun h => ?_)
            · conv => whnf
              refine vBind h (fun isNet0 hb15 h => ?_)
              conv => whnf
              refine vNots ?_
              refine vIfB h (fun h => ?_) (fun h => ?_)
              · conv => whnf
                refine vIfD h (fun h => ?_) (fun h => ?_)
                · conv => whnf
                  refine vAt h (fun x1 he16a he16b he16x h => ?_)
                  conv => whnf
                  refine ⟨by kernel_rfl, ?_⟩
                  conv => whnf
                  refine ⟨he16a, he16b, vAgain he16x ?_⟩
                  conv => whnf
                  refine ⟨he16a, he16b, vAgain he16x ?_⟩
                  conv => whnf
                  refine ⟨by kernel_rfl, ?_⟩
                  conv => whnf
                  refine ⟨by decide, ?_⟩
                  conv => whnf
                  refine ⟨he16a, he16b, vAgain he16x ?_⟩
                  conv => whnf
                  cases h
                  exact ⟨⟨rfl, rfl⟩, hI11 _ rfl⟩
                · conv => whnf
                  cases h
                  exact ⟨⟨rfl, rfl⟩, hI11 _ rfl⟩
              · conv => whnf
                cases h
                obtain rfl := hR11 _ rfl
                obtain rfl := hR6 _ rfl
                exact hK
            · conv => whnf
              cases h
              obtain rfl := hR11 _ rfl
              obtain rfl := hR6 _ rfl
              exact hK
        · conv => whnf
          refine vBind h (fun c1_0 hb17 h => ?_)
          conv => whnf
          cases h
          obtain rfl := hR11 _ rfl
          obtain rfl := hR6 _ rfl
          exact hK
    · conv => whnf
      cases h
      exact hK
  · conv => whnf
    cases h
    exact hK
theorem w_impl_IsSpan (q0 : SoundC Tryz.prog 175 c_impl_isTime) : SoundC Tryz.prog 140 c_impl_IsSpan := by
  refine fn_sound tab_ok (gam_cons q0 gam_nil) mixed {} (fn := Tryz.f140) Tryz.func140 (by kernel_rfl) (by kernel_rfl) ?_
  rintro ⟨s0, ⟨⟩⟩ K ⟨r, h, hK⟩
  change impl_IsSpan s0 = some r at h
  unfold impl_IsSpan at h
  conv => whnf
  refine vBind h (fun isTime0 hb0 h => ?_)
  conv => whnf
  refine vIfB h (fun h => ?_) (fun h => ?_)
  · conv => whnf
    refine vBind h (fun isTime1 hb1 h => ?_)
    conv => whnf
    refine vIfB h (fun h => ?_) (fun h => ?_)
    · conv => whnf
      cases h
      exact hK
    · conv => whnf
      cases h
      exact hK
  · conv => whnf
    cases h
    exact hK
theorem w_impl_Wire_isTree (q0 : SoundC Tryz.prog 128 c_impl_within) : SoundC Tryz.prog 129 c_impl_Wire_isTree := by
  refine fn_sound tab_ok (gam_cons q0 gam_nil) mixed { loops := [(0, [.reg 8 (.dat (.int .i64))])] } (fn := Tryz.f129) Tryz.func129 (by kernel_rfl) (by kernel_rfl) ?_
  rintro ⟨w0, ⟨⟩⟩ K ⟨r, h, hK⟩
  change impl_Wire_isTree w0 = some r at h
  unfold impl_Wire_isTree at h
  conv => whnf
  refine vLoop h ?_
  rintro I0 μ0 ⟨v0, ⟨⟩⟩ zs0 h hI0 hR0
  change impl_Wire_isTree_loop0 w0 v0 = some zs0 at h
  unfold impl_Wire_isTree_loop0 at h
  conv => whnf
  refine vIfD h (fun h => ?_) (fun h => ?_)
  · conv => whnf
    refine vAt h (fun x0 he1a he1b he1x h => ?_)
    conv => whnf
    refine vIfD h (fun h => ?_) (fun h => ?_)
    · conv => whnf
      refine vNot ?_
      refine vIfD h (fun h => ?_) (fun h => ?_)
      · conv => whnf
        refine vAt h (fun x1 he2a he2b he2x h => ?_)
        conv => whnf
        refine vNot ?_
        refine vIfD h (fun h => ?_) (fun h => ?_)
        · conv => whnf
          refine vIfD h (fun h => ?_) (fun h => ?_)
          · conv => whnf
            refine vBind h (fun within0 hb3 h => ?_)
            conv => whnf
            refine vNots ?_
            refine vIfB h (fun h => ?_) (fun h => ?_)
            · conv => whnf
              cases h
              exact ⟨⟨rfl, rfl⟩, hI0 _ rfl⟩
            · conv => whnf
              cases h
              obtain rfl := hR0 _ rfl
              exact hK
          · conv => whnf
            cases h
            exact ⟨⟨rfl, rfl⟩, hI0 _ rfl⟩
        · conv => whnf
          cases h
          obtain rfl := hR0 _ rfl
          exact hK
      · conv => whnf
        cases h
        obtain rfl := hR0 _ rfl
        exact hK
    · conv => whnf
      refine vIfD h (fun h => ?_) (fun h => ?_)
      · conv => whnf
        refine vBind h (fun within0 hb4 h => ?_)
        conv => whnf
        refine vNots ?_
        refine vIfB h (fun h => ?_) (fun h => ?_)
        · conv => whnf
          cases h
          exact ⟨⟨rfl, rfl⟩, hI0 _ rfl⟩
        · conv => whnf
          cases h
          obtain rfl := hR0 _ rfl
          exact hK
      · conv => whnf
        cases h
        exact ⟨⟨rfl, rfl⟩, hI0 _ rfl⟩
  · conv => whnf
    cases h
    obtain rfl := hR0 _ rfl
    exact hK
theorem w_impl_areNames (q1 : SoundC Tryz.prog 173 c_impl_isName) (q0 : SoundC Tryz.prog 174 c_slices_Contains_Sstring_string) : SoundC Tryz.prog 137 c_impl_areNames := by
  refine fn_sound tab_ok (gam_cons q1 (gam_cons q0 gam_nil)) mixed { loops := [(0, [.reg 7 (.dat (.int .i64))])] } (fn := Tryz.f137) Tryz.func137 (by kernel_rfl) (by kernel_rfl) ?_
  rintro ⟨list0, ⟨⟩⟩ K ⟨r, h, hK⟩
  change impl_areNames list0 = some r at h
  unfold impl_areNames at h
  conv => whnf
  refine vLoop h ?_
  rintro I0 μ0 ⟨v0, ⟨⟩⟩ zs0 h hI0 hR0
  change impl_areNames_loop0 list0 v0 = some zs0 at h
  unfold impl_areNames_loop0 at h
  conv => whnf
  refine vIfD h (fun h => ?_) (fun h => ?_)
  · conv => whnf
    refine vAt h (fun x0 he1a he1b he1x h => ?_)
    conv => whnf
    refine vBind h (fun isName0 hb2 h => ?_)
    conv => whnf
    refine vNot ?_
    refine vIfB h (fun h => ?_) (fun h => ?_)
    · conv => whnf
      refine ⟨by decide, ?_⟩
      conv => whnf
      refine vPre h (fun hp3 h => ?_)
      conv => whnf
      refine vPre h (fun hp4 h => ?_)
      conv => whnf
      refine vBind h (fun string0 hb5 h => ?_)
      conv => whnf
      refine vIfB h (fun h => ?_) (fun h => ?_)
      · conv => whnf
        cases h
        obtain rfl := hR0 _ rfl
        exact hK
      · conv => whnf
        cases h
        exact ⟨⟨rfl, rfl⟩, hI0 _ rfl⟩
    · conv => whnf
      cases h
      obtain rfl := hR0 _ rfl
      exact hK
  · conv => whnf
    cases h
    obtain rfl := hR0 _ rfl
    exact hK
theorem w_impl_areWithin_c1 (q0 : SoundC Tryz.prog 128 c_impl_within) : SoundC Tryz.prog 170 c_impl_areWithin_c1 := by
  refine fn_sound tab_ok (gam_cons q0 gam_nil) mixed {} (fn := Tryz.f170) Tryz.func170 (by kernel_rfl) (by kernel_rfl) ?_
  rintro ⟨n0, a0, a1, ⟨⟩⟩ K ⟨r, h, hK⟩
  change impl_areWithin_c1 n0 a0 a1 = some r at h
  unfold impl_areWithin_c1 at h
  conv => whnf
  refine vBind h (fun within0 hb0 h => ?_)
  conv => whnf
  cases h
  exact hK
theorem w_impl_length_int64 : SoundC Tryz.prog 78 c_impl_length_int64 := by
  refine fn_sound tab_ok gam_nil mixed {} (fn := Tryz.f78) Tryz.func78 (by kernel_rfl) (by kernel_rfl) ?_
  rintro ⟨list0, ⟨⟩⟩ K ⟨r, h, hK⟩
  change impl_length_int64 list0 = some r at h
  unfold impl_length_int64 at h
  conv => whnf
  cases h
  exact hK
theorem w_impl_newView (q3 : SoundC Tryz.prog 75 c_impl_Design_places) (q1 : SoundC Tryz.prog 77 c_impl_Block_cellLinks) (q4 : SoundC Tryz.prog 78 c_impl_length_int64) (q2 : SoundC Tryz.prog 79 c_impl_Block_nodeLoads) (q0 : SoundC Tryz.prog 80 c_impl_Block_exactDelays) : SoundC Tryz.prog 36 c_impl_newView := by
  refine fn_sound tabD_ok (gam_cons q3 (gam_cons q1 (gam_cons q4 (gam_cons q2 (gam_cons q0 gam_nil))))) mixed { loops := [(0, [.reg 4 (.dat (.int .i64)), .reg 25 (.dat (.int .i64)), .cello 2 6 (.ol 162 (.flat (tLink)))]), (2, [.reg 60 (.dat (.int .i64)), .ent 4 (nat_lit 2) (.flat ti79.ety), .ent 5 (nat_lit 79) (Dp.ol (2 : Go.TypeId) (Dp.flat (Ty.int IntKind.i64)))]), (4, [.reg 88 (.dat (.int .i64)), .cello 2 7 (.ol 2 (.flat (.int .i64))), .cello 2 8 (.ol 79 (.ol 2 (.flat (.int .i64)))), .cello 2 6 (.ol (nat_lit 162) (.flat tLink)), .ent 5 (nat_lit 79) (Dp.ol (2 : Go.TypeId) (Dp.flat (Ty.int IntKind.i64)))]), (6, [.reg 122 (.dat (.int .i64)), .cello 2 6 (.ol (nat_lit 162) (.flat tLink))]), (8, [.reg 127 (.dat (.int .i64)), .cello 2 6 (.ol (nat_lit 162) (.flat tLink))])], draws := [(1, [0, 0, 2, 6, 15, 31, 63], .op 0 (.op 1 (.op 2 (.alt 3 (.op 4 (.alt 5 (.op 6 (.done)) (.done))) (.done))))), (6, [0, 0, 2, 6, 14, 0, 0, 0, 224, 510, 1023, 2047, 4095], .op 0 (.op 1 (.op 2 (.op 3 (.op 4 (.op 5 (.op 6 (.op 7 (.alt 8 (.alt 9 (.op 10 (.op 11 (.alt 12 (.done) (.done)))) (.done)) (.done)))))))))), (16, [0, 0, 2, 0, 0, 16, 56, 120, 0, 256, 1016, 2047, 4095], .op 0 (.op 1 (.op 3 (.op 4 (.op 5 (.op 6 (.op 7 (.op 8 (.alt 2 (.alt 9 (.alt 10 (.op 11 (.alt 12 (.done) (.done))) (.done)) (.done)) (.alt 9 (.alt 2 (.alt 10 (.op 11 (.alt 12 (.done) (.done))) (.done)) (.alt 10 (.alt 2 (.op 11 (.alt 12 (.done) (.done))) (.done)) (.done))) (.done))))))))))), (21, [0, 0, 2, 6, 14, 0, 0, 96, 224, 480, 992, 2046, 4095, 8191, 16383], .op 0 (.op 1 (.op 2 (.op 3 (.op 4 (.op 5 (.op 6 (.alt 7 (.op 8 (.op 9 (.alt 10 (.alt 11 (.op 12 (.op 13 (.alt 14 (.done) (.done)))) (.done)) (.done)))) (.done))))))))), (22, [0, 0, 2, 6, 14, 0, 0, 96, 224, 510, 1023, 2047, 4095], .op 0 (.op 1 (.op 2 (.op 3 (.op 4 (.op 5 (.op 6 (.alt 7 (.alt 8 (.alt 9 (.op 10 (.op 11 (.alt 12 (.done) (.done)))) (.done)) (.done)) (.done))))))))), (29, [0, 0, 2, 6, 14, 0, 0, 96, 224, 480, 0, 2016, 0, 4096, 0, 28672, 0, 131040, 262112, 524286, 1048575, 2097151, 4194303], .op 0 (.op 1 (.op 2 (.op 3 (.op 4 (.op 5 (.op 6 (.op 7 (.op 8 (.op 9 (.op 10 (.op 11 (.op 12 (.op 13 (.op 14 (.op 15 (.op 16 (.op 17 (.alt 18 (.alt 19 (.op 20 (.op 21 (.alt 22 (.done) (.done)))) (.done)) (.done))))))))))))))))))))] } (fn := Tryz.f36) Tryz.func36 (by kernel_rfl) (by kernel_rfl) ?_
  rintro ⟨a0, ⟨⟩⟩ K ⟨r, h, hK⟩
  change impl_newView a0 = some r at h
  unfold impl_newView at h
  conv => whnf
  refine ⟨by kernel_rfl, ?_⟩
  conv => whnf
  refine vBind h (fun places0 hb0 h => ?_)
  conv => whnf
  refine vLoop h ?_
  rintro I1 μ1 ⟨v0, v1, c0, ⟨⟩⟩ zs1 h hI1 hR1
  change impl_newView_loop4 a0 places0 v0 v1 c0 = some zs1 at h
  unfold impl_newView_loop4 at h
  conv => whnf
  refine vIfD h (fun h => ?_) (fun h => ?_)
  · conv => whnf
    refine vAt h (fun x0 he2a he2b he2x h => ?_)
    conv => whnf
    refine ⟨by kernel_rfl, ?_⟩
    conv => whnf
    refine vBind h (fun cellLinks0 hb3 h => ?_)
    conv => whnf
    refine vPre h (fun hp4 h => ?_)
    conv => whnf
    refine vBind h (fun int64_0 hb5 h => ?_)
    conv => whnf
    cases h
    exact ⟨⟨rfl, rfl⟩, hI1 _ rfl⟩
  · conv => whnf
    refine vPre h (fun hp6 h => ?_)
    conv => whnf
    refine vPre h (fun hp7 h => ?_)
    conv => whnf
    refine vPre h (fun hp8 h => ?_)
    conv => whnf
    refine vPre h (fun hp9 h => ?_)
    conv => whnf
    refine ⟨hp6, ?_⟩
    conv => whnf
    refine ⟨hp7, ?_⟩
    conv => whnf
    refine ⟨hp8, ?_⟩
    conv => whnf
    refine vPre h (fun hp10 h => ?_)
    conv => whnf
    intro fp11
    conv => whnf
    refine vLoop h ?_
    rintro I12 μ12 ⟨v2, l0, l1, ⟨⟩⟩ zs12 h hI12 hR12
    change impl_newView_loop3 a0 places0 c0 v2 l0 l1 = some zs12 at h
    unfold impl_newView_loop3 at h
    conv => whnf
    intro fp13
    conv => whnf
    refine vIfD h (fun h => ?_) (fun h => ?_)
    · conv => whnf
      refine vAt h (fun x0 he14a he14b he14x h => ?_)
      conv => whnf
      refine ⟨by kernel_rfl, ?_⟩
      conv => whnf
      refine ⟨he14a, he14b, vAgain he14x ?_⟩
      conv => whnf
      refine vIfB h (fun h => ?_) (fun h => ?_)
      · conv => whnf
        refine vAt h (fun x1 he15a he15b he15x h => ?_)
        conv => whnf
        refine ⟨by kernel_rfl, ?_⟩
        conv => whnf
        refine ⟨by decide, ?_⟩
        conv => whnf
        refine ⟨he15a, he15b, vAgain he15x ?_⟩
        conv => whnf
        cases h
        exact ⟨⟨rfl, rfl⟩, hI12 _ rfl⟩
      · conv => whnf
        refine ⟨by kernel_rfl, ?_⟩
        conv => whnf
        refine vAt h (fun x1 he16a he16b he16x h => ?_)
        conv => whnf
        refine ⟨he16a, he16b, vAgain he16x ?_⟩
        conv => whnf
        intro fp17
        conv => whnf
        refine ⟨?_, ?_⟩
        · conv => whnf
          refine vPre h (fun hp18 h => ?_)
          conv => whnf
          refine ⟨he16a, he16b, vAgain he16x ?_⟩
          conv => whnf
          refine .inl ⟨rfl, ?_⟩
          conv => whnf
          cases h
          exact ⟨⟨rfl, rfl⟩, hI12 _ rfl⟩
        · obtain ⟨hp18, h⟩ := guardE h
          conv => whnf
          refine ⟨?_, ?_⟩
          · conv => whnf
            refine ⟨hp18, ?_⟩
            conv => whnf
            refine ⟨he16a, he16b, vAgain he16x ?_⟩
            conv => whnf
            refine .inl ⟨rfl, ?_⟩
            conv => whnf
            cases h
            exact ⟨⟨rfl, rfl⟩, hI12 _ rfl⟩
          · conv => whnf
            refine ⟨hp18, ?_⟩
            conv => whnf
            refine ⟨he16a, he16b, vAgain he16x ?_⟩
            conv => whnf
            refine .inl ⟨rfl, ?_⟩
            conv => whnf
            cases h
            exact ⟨⟨rfl, rfl⟩, hI12 _ rfl⟩
    · conv => whnf
      refine vLoop h ?_
      rintro I19 μ19 ⟨v3, c1, c2, c3, l2, ⟨⟩⟩ zs19 h hI19 hR19
      change impl_newView_loop2 a0 places0 l0 v3 c1 c2 c3 l2 = some zs19 at h
      unfold impl_newView_loop2 at h
      conv => whnf
      intro fp20
      conv => whnf
      intro fp21
      conv => whnf
      refine vIfD h (fun h => ?_) (fun h => ?_)
      · conv => whnf
        refine ⟨by kernel_rfl, ?_⟩
        conv => whnf
        refine vBind h (fun nodeLoads0 hb22 h => ?_)
        conv => whnf
        refine vAt h (fun x0 he23a he23b he23x h => ?_)
        conv => whnf
        refine ⟨by kernel_rfl, ?_⟩
        conv => whnf
        refine ⟨he23a, he23b, vAgain he23x ?_⟩
        conv => whnf
        refine vPre h (fun hp24 h => ?_)
        conv => whnf
        refine ⟨by kernel_rfl, ?_⟩
        conv => whnf
        refine vBind h (fun exactDelays0 hb25 h => ?_)
        conv => whnf
        intro fp26
        conv => whnf
        refine vPre h (fun hp27 h => ?_)
        conv => whnf
        intro fp28
        conv => whnf
        refine vAt h (fun x1 he29a he29b he29x h => ?_)
        conv => whnf
        refine ⟨he29a, he29b, vAgain he29x ?_⟩
        conv => whnf
        intro fp30
        conv => whnf
        refine vLoop h ?_
        rintro I31 μ31 ⟨v4, c4, ⟨⟩⟩ zs31 h hI31 hR31
        change impl_newView_loop1 l0 v3 c1 c2 l2 x0 exactDelays0 x1 v4 c4 = some zs31 at h
        unfold impl_newView_loop1 at h
        conv => whnf
        refine vIfD h (fun h => ?_) (fun h => ?_)
        · conv => whnf
          refine vAt h (fun x2 he32a he32b he32x h => ?_)
          conv => whnf
          refine ⟨by kernel_rfl, ?_⟩
          conv => whnf
          refine ⟨he32a, he32b, vAgain he32x ?_⟩
          conv => whnf
          refine vLoop h ?_
          rintro I33 μ33 ⟨v5, c5, ⟨⟩⟩ zs33 h hI33 hR33
          change impl_newView_loop0 l0 v3 v4 x2 v5 c5 = some zs33 at h
          unfold impl_newView_loop0 at h
          conv => whnf
          refine vIfD h (fun h => ?_) (fun h => ?_)
          · conv => whnf
            refine ⟨by kernel_rfl, ?_⟩
            conv => whnf
            refine vAt h (fun x3 he34a he34b he34x h => ?_)
            conv => whnf
            refine ⟨by kernel_rfl, ?_⟩
            conv => whnf
            refine ⟨he34a, he34b, vAgain he34x ?_⟩
            conv => whnf
            refine vPre h (fun hp35 h => ?_)
            conv => whnf
            cases h
            exact ⟨⟨rfl, rfl⟩, hI33 _ rfl⟩
          · conv => whnf
            cases h
            obtain rfl := hR33 _ rfl
            exact ⟨⟨rfl, rfl⟩, hI31 _ rfl⟩
        · conv => whnf
          cases h
          obtain rfl := hR31 _ rfl
          exact ⟨⟨rfl, rfl⟩, hI19 _ rfl⟩
      · conv => whnf
        cases h
        obtain rfl := hR19 _ rfl
        obtain rfl := hR12 _ rfl
        obtain rfl := hR1 _ rfl
        exact hK
theorem w_impl_view_isPlace (q0 : SoundC Tryz.prog 139 c_impl_length_impl_place) (q1 : SoundC Tryz.prog 128 c_impl_within) : SoundC Tryz.prog 85 c_impl_view_isPlace := by
  refine fn_sound tab_ok (gam_cons q0 (gam_cons q1 gam_nil)) mixed {} (fn := Tryz.f85) Tryz.func85 (by kernel_rfl) (by kernel_rfl) ?_
  rintro ⟨v0, place0, ⟨⟩⟩ K ⟨r, h, hK⟩
  change impl_view_isPlace v0 place0 = some r at h
  unfold impl_view_isPlace at h
  conv => whnf
  refine vBind h (fun place1 hb0 h => ?_)
  conv => whnf
  refine vBind h (fun within0 hb1 h => ?_)
  conv => whnf
  cases h
  exact hK
theorem w_laws_eqBlock (q0 : SoundC Tryz.prog 38 c_laws_eqLibrary) (q1 : SoundC Tryz.prog 39 c_laws_eqDesign) (q2 : SoundC Tryz.prog 40 c_laws_eqWireS) : SoundC Tryz.prog 11 c_laws_eqBlock := by
  refine fn_sound tab_ok (gam_cons q0 (gam_cons q1 (gam_cons q2 gam_nil))) mixed {} (fn := Tryz.f11) Tryz.func11 (by kernel_rfl) (by kernel_rfl) ?_
  rintro ⟨a0, b0, ⟨⟩⟩ K ⟨r, h, hK⟩
  change laws_eqBlock a0 b0 = some r at h
  unfold laws_eqBlock at h
  conv => whnf
  refine vBind h (fun eqLibrary0 hb0 h => ?_)
  conv => whnf
  refine vNots ?_
  refine vIfB h (fun h => ?_) (fun h => ?_)
  · conv => whnf
    refine vBind h (fun eqDesign0 hb1 h => ?_)
    conv => whnf
    refine vNots ?_
    refine vIfB h (fun h => ?_) (fun h => ?_)
    · conv => whnf
      refine vBind h (fun eqWireS0 hb2 h => ?_)
      conv => whnf
      refine vNots ?_
      refine vIfB h (fun h => ?_) (fun h => ?_)
      · conv => whnf
        cases h
        exact hK
      · conv => whnf
        cases h
        exact hK
    · conv => whnf
      cases h
      exact hK
  · conv => whnf
    cases h
    exact hK
theorem w_laws_eqCell (q1 : SoundC Tryz.prog 178 c_laws_eqPinS) (q2 : SoundC Tryz.prog 179 c_laws_eqArcS) (q0 : SoundC Tryz.prog 150 c_laws_eqInt64S) : SoundC Tryz.prog 147 c_laws_eqCell := by
  refine fn_sound tab_ok (gam_cons q1 (gam_cons q2 (gam_cons q0 gam_nil))) mixed {} (fn := Tryz.f147) Tryz.func147 (by kernel_rfl) (by kernel_rfl) ?_
  rintro ⟨a0, b0, ⟨⟩⟩ K ⟨r, h, hK⟩
  change laws_eqCell a0 b0 = some r at h
  unfold laws_eqCell at h
  conv => whnf
  refine vNots ?_
  refine vIfD h (fun h => ?_) (fun h => ?_)
  · conv => whnf
    refine vNots ?_
    refine vIfD h (fun h => ?_) (fun h => ?_)
    · conv => whnf
      refine vBind h (fun eqPinS0 hb0 h => ?_)
      conv => whnf
      refine vNots ?_
      refine vIfB h (fun h => ?_) (fun h => ?_)
      · conv => whnf
        refine vBind h (fun eqArcS0 hb1 h => ?_)
        conv => whnf
        refine vNots ?_
        refine vIfB h (fun h => ?_) (fun h => ?_)
        · conv => whnf
          refine vBind h (fun eqInt64S0 hb2 h => ?_)
          conv => whnf
          refine vNots ?_
          refine vIfB h (fun h => ?_) (fun h => ?_)
          · conv => whnf
            refine vNots ?_
            refine vIfD h (fun h => ?_) (fun h => ?_)
            · conv => whnf
              refine vNots ?_
              refine vIfD h (fun h => ?_) (fun h => ?_)
              · conv => whnf
                cases h
                exact hK
              · conv => whnf
                cases h
                exact hK
            · conv => whnf
              cases h
              exact hK
          · conv => whnf
            cases h
            exact hK
        · conv => whnf
          cases h
          exact hK
      · conv => whnf
        cases h
        exact hK
    · conv => whnf
      cases h
      exact hK
  · conv => whnf
    cases h
    exact hK
theorem w_laws_eqClockS (q0 : SoundC Tryz.prog 96 c_laws_eqClock) : SoundC Tryz.prog 41 c_laws_eqClockS := by
  refine fn_sound tab_ok (gam_cons q0 gam_nil) mixed { loops := [(0, [.reg 5 (.dat (.int .i64))])], draws := [(6, [0, 0, 3, 7, 0, 0, 48, 112, 255, 511], .op 0 (.op 1 (.op 2 (.op 3 (.op 4 (.op 5 (.op 6 (.op 7 (.alt 8 (.op 9 (.done)) (.done))))))))))] } (fn := Tryz.f41) Tryz.func41 (by kernel_rfl) (by kernel_rfl) ?_
  rintro ⟨a0, b0, ⟨⟩⟩ K ⟨r, h, hK⟩
  change laws_eqClockS a0 b0 = some r at h
  unfold laws_eqClockS at h
  conv => whnf
  refine vNots ?_
  refine vIfD h (fun h => ?_) (fun h => ?_)
  · conv => whnf
    refine vLoop h ?_
    rintro I0 μ0 ⟨i0, ⟨⟩⟩ zs0 h hI0 hR0
    change laws_eqClockS_loop0 a0 b0 i0 = some zs0 at h
    unfold laws_eqClockS_loop0 at h
    conv => whnf
    refine vIfD h (fun h => ?_) (fun h => ?_)
    · conv => whnf
      refine ⟨by kernel_rfl, ?_⟩
      conv => whnf
      refine vAt h (fun x0 he1a he1b he1x h => ?_)
      conv => whnf
      refine vAt h (fun x1 he2a he2b he2x h => ?_)
      conv => whnf
      refine vBind h (fun eqClock0 hb3 h => ?_)
      conv => whnf
      refine vNots ?_
      refine vIfB h (fun h => ?_) (fun h => ?_)
      · conv => whnf
        cases h
        exact ⟨⟨rfl, rfl⟩, hI0 _ rfl⟩
      · conv => whnf
        cases h
        obtain rfl := hR0 _ rfl
        exact hK
    · conv => whnf
      cases h
      obtain rfl := hR0 _ rfl
      exact hK
  · conv => whnf
    cases h
    exact hK
theorem w_laws_eqPin : SoundC Tryz.prog 199 c_laws_eqPin := by
  refine fn_sound tab_ok gam_nil mixed {} (fn := Tryz.f199) Tryz.func199 (by kernel_rfl) (by kernel_rfl) ?_
  rintro ⟨a0, b0, ⟨⟩⟩ K ⟨r, h, hK⟩
  change laws_eqPin a0 b0 = some r at h
  unfold laws_eqPin at h
  conv => whnf
  refine vNots ?_
  refine vIfD h (fun h => ?_) (fun h => ?_)
  · conv => whnf
    refine vNots ?_
    refine vIfD h (fun h => ?_) (fun h => ?_)
    · conv => whnf
      refine vNots ?_
      refine vIfD h (fun h => ?_) (fun h => ?_)
      · conv => whnf
        refine vNots ?_
        refine vIfB h (fun h => ?_) (fun h => ?_)
        · conv => whnf
          cases h
          exact hK
        · conv => whnf
          cases h
          exact hK
      · conv => whnf
        cases h
        exact hK
    · conv => whnf
      cases h
      exact hK
  · conv => whnf
    cases h
    exact hK
theorem w_laws_szBlock (q0 : SoundC Tryz.prog 15 c_laws_szLibrary) (q1 : SoundC Tryz.prog 16 c_laws_szDesign) (q2 : SoundC Tryz.prog 17 c_laws_szWireS) : SoundC Tryz.prog 5 c_laws_szBlock := by
  refine fn_sound tab_ok (gam_cons q0 (gam_cons q1 (gam_cons q2 gam_nil))) mixed {} (fn := Tryz.f5) Tryz.func5 (by kernel_rfl) (by kernel_rfl) ?_
  rintro ⟨a0, left0, ⟨⟩⟩ K ⟨r, h, hK⟩
  change laws_szBlock a0 left0 = some r at h
  unfold laws_szBlock at h
  conv => whnf
  refine vBind h (fun szLibrary0 hb0 h => ?_)
  conv => whnf
  refine vIfD h (fun h => ?_) (fun h => ?_)
  · conv => whnf
    cases h
    exact hK
  · conv => whnf
    refine vBind h (fun szDesign0 hb1 h => ?_)
    conv => whnf
    refine vIfD h (fun h => ?_) (fun h => ?_)
    · conv => whnf
      cases h
      exact hK
    · conv => whnf
      refine vBind h (fun szWireS0 hb2 h => ?_)
      conv => whnf
      refine vIfD h (fun h => ?_) (fun h => ?_)
      · conv => whnf
        cases h
        exact hK
      · conv => whnf
        cases h
        exact hK
theorem w_laws_szCellS (q0 : SoundC Tryz.prog 108 c_laws_szCell) : SoundC Tryz.prog 47 c_laws_szCellS := by
  refine fn_sound tab_ok (gam_cons q0 gam_nil) mixed { loops := [(0, [.reg 1 (.dat (.int .i64)), .reg 5 (.dat (.int .i64))])] } (fn := Tryz.f47) Tryz.func47 (by kernel_rfl) (by kernel_rfl) ?_
  rintro ⟨a0, left0, ⟨⟩⟩ K ⟨r, h, hK⟩
  change laws_szCellS a0 left0 = some r at h
  unfold laws_szCellS at h
  conv => whnf
  refine vIfD h (fun h => ?_) (fun h => ?_)
  · conv => whnf
    cases h
    exact hK
  · conv => whnf
    refine vLoop h ?_
    rintro I0 μ0 ⟨left1, i0, ⟨⟩⟩ zs0 h hI0 hR0
    change laws_szCellS_loop0 a0 left1 i0 = some zs0 at h
    unfold laws_szCellS_loop0 at h
    conv => whnf
    refine vIfD h (fun h => ?_) (fun h => ?_)
    · conv => whnf
      refine vAt h (fun x0 he1a he1b he1x h => ?_)
      conv => whnf
      refine vBind h (fun szCell0 hb2 h => ?_)
      conv => whnf
      refine vIfD h (fun h => ?_) (fun h => ?_)
      · conv => whnf
        cases h
        obtain rfl := hR0 _ rfl
        exact hK
      · conv => whnf
        cases h
        exact ⟨⟨rfl, rfl⟩, hI0 _ rfl⟩
    · conv => whnf
      cases h
      obtain rfl := hR0 _ rfl
      exact hK
theorem w_laws_szInstanceS (q0 : SoundC Tryz.prog 109 c_laws_szInstance) : SoundC Tryz.prog 48 c_laws_szInstanceS := by
  refine fn_sound tab_ok (gam_cons q0 gam_nil) mixed { loops := [(0, [.reg 1 (.dat (.int .i64)), .reg 5 (.dat (.int .i64))])] } (fn := Tryz.f48) Tryz.func48 (by kernel_rfl) (by kernel_rfl) ?_
  rintro ⟨a0, left0, ⟨⟩⟩ K ⟨r, h, hK⟩
  change laws_szInstanceS a0 left0 = some r at h
  unfold laws_szInstanceS at h
  conv => whnf
  refine vIfD h (fun h => ?_) (fun h => ?_)
  · conv => whnf
    cases h
    exact hK
  · conv => whnf
    refine vLoop h ?_
    rintro I0 μ0 ⟨left1, i0, ⟨⟩⟩ zs0 h hI0 hR0
    change laws_szInstanceS_loop0 a0 left1 i0 = some zs0 at h
    unfold laws_szInstanceS_loop0 at h
    conv => whnf
    refine vIfD h (fun h => ?_) (fun h => ?_)
    · conv => whnf
      refine vAt h (fun x0 he1a he1b he1x h => ?_)
      conv => whnf
      refine vBind h (fun szInstance0 hb2 h => ?_)
      conv => whnf
      refine vIfD h (fun h => ?_) (fun h => ?_)
      · conv => whnf
        cases h
        obtain rfl := hR0 _ rfl
        exact hK
      · conv => whnf
        cases h
        exact ⟨⟨rfl, rfl⟩, hI0 _ rfl⟩
    · conv => whnf
      cases h
      obtain rfl := hR0 _ rfl
      exact hK
theorem w_laws_szLibrary (q0 : SoundC Tryz.prog 47 c_laws_szCellS) : SoundC Tryz.prog 15 c_laws_szLibrary := by
  refine fn_sound tab_ok (gam_cons q0 gam_nil) mixed {} (fn := Tryz.f15) Tryz.func15 (by kernel_rfl) (by kernel_rfl) ?_
  rintro ⟨a0, left0, ⟨⟩⟩ K ⟨r, h, hK⟩
  change laws_szLibrary a0 left0 = some r at h
  unfold laws_szLibrary at h
  conv => whnf
  refine vBind h (fun szCellS0 hb0 h => ?_)
  conv => whnf
  refine vIfD h (fun h => ?_) (fun h => ?_)
  · conv => whnf
    cases h
    exact hK
  · conv => whnf
    cases h
    exact hK
theorem w_laws_szPort : SoundC Tryz.prog 110 c_laws_szPort := by
  refine fn_sound tab_ok gam_nil mixed {} (fn := Tryz.f110) Tryz.func110 (by kernel_rfl) (by kernel_rfl) ?_
  rintro ⟨a0, left0, ⟨⟩⟩ K ⟨r, h, hK⟩
  change laws_szPort a0 left0 = some r at h
  unfold laws_szPort at h
  conv => whnf
  refine vIfD h (fun h => ?_) (fun h => ?_)
  · conv => whnf
    cases h
    exact hK
  · conv => whnf
    cases h
    exact hK
theorem w_laws_szTable (q0 : SoundC Tryz.prog 111 c_laws_szInt64S) : SoundC Tryz.prog 229 c_laws_szTable := by
  refine fn_sound tab_ok (gam_cons q0 gam_nil) mixed {} (fn := Tryz.f229) Tryz.func229 (by kernel_rfl) (by kernel_rfl) ?_
  rintro ⟨a0, left0, ⟨⟩⟩ K ⟨r, h, hK⟩
  change laws_szTable a0 left0 = some r at h
  unfold laws_szTable at h
  conv => whnf
  refine vBind h (fun szInt64S0 hb0 h => ?_)
  conv => whnf
  refine vIfD h (fun h => ?_) (fun h => ?_)
  · conv => whnf
    cases h
    exact hK
  · conv => whnf
    refine vBind h (fun szInt64S1 hb1 h => ?_)
    conv => whnf
    refine vIfD h (fun h => ?_) (fun h => ?_)
    · conv => whnf
      cases h
      exact hK
    · conv => whnf
      refine vBind h (fun szInt64S2 hb2 h => ?_)
      conv => whnf
      refine vIfD h (fun h => ?_) (fun h => ?_)
      · conv => whnf
        cases h
        exact hK
      · conv => whnf
        cases h
        exact hK
theorem w_laws_szTableS (q0 : SoundC Tryz.prog 229 c_laws_szTable) : SoundC Tryz.prog 205 c_laws_szTableS := by
  refine fn_sound tab_ok (gam_cons q0 gam_nil) mixed { loops := [(0, [.reg 1 (.dat (.int .i64)), .reg 5 (.dat (.int .i64))])] } (fn := Tryz.f205) Tryz.func205 (by kernel_rfl) (by kernel_rfl) ?_
  rintro ⟨a0, left0, ⟨⟩⟩ K ⟨r, h, hK⟩
  change laws_szTableS a0 left0 = some r at h
  unfold laws_szTableS at h
  conv => whnf
  refine vIfD h (fun h => ?_) (fun h => ?_)
  · conv => whnf
    cases h
    exact hK
  · conv => whnf
    refine vLoop h ?_
    rintro I0 μ0 ⟨left1, i0, ⟨⟩⟩ zs0 h hI0 hR0
    change laws_szTableS_loop0 a0 left1 i0 = some zs0 at h
    unfold laws_szTableS_loop0 at h
    conv => whnf
    refine vIfD h (fun h => ?_) (fun h => ?_)
    · conv => whnf
      refine vAt h (fun x0 he1a he1b he1x h => ?_)
      conv => whnf
      refine vBind h (fun szTable0 hb2 h => ?_)
      conv => whnf
      refine vIfD h (fun h => ?_) (fun h => ?_)
      · conv => whnf
        cases h
        obtain rfl := hR0 _ rfl
        exact hK
      · conv => whnf
        cases h
        exact ⟨⟨rfl, rfl⟩, hI0 _ rfl⟩
    · conv => whnf
      cases h
      obtain rfl := hR0 _ rfl
      exact hK
theorem w_laws_toCellS (q0 : SoundC Tryz.prog 117 c_laws_toCell) : SoundC Tryz.prog 65 c_laws_toCellS := by
  refine fn_sound tabD_ok (gam_cons q0 gam_nil) mixed { loops := [(0, [.reg 4 (.dat (.int .i64)), .ent 0 (nat_lit 203) dCell])] } (fn := Tryz.f65) Tryz.func65 (by kernel_rfl) (by kernel_rfl) ?_
  rintro ⟨a0, ⟨⟩⟩ K ⟨r, h, hK⟩
  change laws_toCellS a0 = some r at h
  unfold laws_toCellS at h
  conv => whnf
  refine vPre h (fun hp0 h => ?_)
  conv => whnf
  refine vPre h (fun hp1 h => ?_)
  conv => whnf
  refine vPre h (fun hp2 h => ?_)
  conv => whnf
  refine vPre h (fun hp3 h => ?_)
  conv => whnf
  intro fp4
  conv => whnf
  refine vLoop h ?_
  rintro I5 μ5 ⟨i0, l0, ⟨⟩⟩ zs5 h hI5 hR5
  change laws_toCellS_loop0 a0 i0 l0 = some zs5 at h
  unfold laws_toCellS_loop0 at h
  conv => whnf
  intro fp6
  conv => whnf
  refine vIfD h (fun h => ?_) (fun h => ?_)
  · conv => whnf
    refine vAt h (fun x0 he7a he7b he7x h => ?_)
    conv => whnf
    refine vBind h (fun toCell0 hb8 h => ?_)
    conv => whnf
    intro fp9
    conv => whnf
    refine vAt h (fun x1 he10a he10b he10x h => ?_)
    conv => whnf
    refine ⟨he10a, he10b, vAgain he10x ?_⟩
    conv => whnf
    intro fp11
    conv => whnf
    intro fp12
    conv => whnf
    cases h
    exact ⟨⟨rfl, rfl⟩, hI5 _ rfl⟩
  · conv => whnf
    cases h
    obtain rfl := hR5 _ rfl
    exact hK
theorem w_laws_toCorner : SoundC Tryz.prog 73 c_laws_toCorner := by
  refine fn_sound tab_ok gam_nil mixed {} (fn := Tryz.f73) Tryz.func73 (by kernel_rfl) (by kernel_rfl) ?_
  rintro ⟨a0, ⟨⟩⟩ K ⟨r, h, hK⟩
  change laws_toCorner a0 = some r at h
  unfold laws_toCorner at h
  conv => whnf
  cases h
  exact hK
theorem w_laws_toCornerS (q0 : SoundC Tryz.prog 73 c_laws_toCorner) : SoundC Tryz.prog 34 c_laws_toCornerS := by
  refine fn_sound tab_ok (gam_cons q0 gam_nil) mixed { loops := [(0, [.reg 4 (.dat (.int .i64)), .ent 0 (nat_lit 125) (.flat ti56.ety)])] } (fn := Tryz.f34) Tryz.func34 (by kernel_rfl) (by kernel_rfl) ?_
  rintro ⟨a0, ⟨⟩⟩ K ⟨r, h, hK⟩
  change laws_toCornerS a0 = some r at h
  unfold laws_toCornerS at h
  conv => whnf
  refine vPre h (fun hp0 h => ?_)
  conv => whnf
  refine vPre h (fun hp1 h => ?_)
  conv => whnf
  refine vPre h (fun hp2 h => ?_)
  conv => whnf
  refine vPre h (fun hp3 h => ?_)
  conv => whnf
  refine vLoop h ?_
  rintro I4 μ4 ⟨i0, l0, ⟨⟩⟩ zs4 h hI4 hR4
  change laws_toCornerS_loop0 a0 i0 l0 = some zs4 at h
  unfold laws_toCornerS_loop0 at h
  conv => whnf
  refine vIfD h (fun h => ?_) (fun h => ?_)
  · conv => whnf
    refine vAt h (fun x0 he5a he5b he5x h => ?_)
    conv => whnf
    refine vBind h (fun toCorner0 hb6 h => ?_)
    conv => whnf
    refine vAt h (fun x1 he7a he7b he7x h => ?_)
    conv => whnf
    refine ⟨by kernel_rfl, ?_⟩
    conv => whnf
    refine ⟨by decide, ?_⟩
    conv => whnf
    refine ⟨he7a, he7b, vAgain he7x ?_⟩
    conv => whnf
    cases h
    exact ⟨⟨rfl, rfl⟩, hI4 _ rfl⟩
  · conv => whnf
    cases h
    obtain rfl := hR4 _ rfl
    exact hK
theorem w_laws_toDesign (q0 : SoundC Tryz.prog 66 c_laws_toInstanceS) (q1 : SoundC Tryz.prog 67 c_laws_toStringS) (q2 : SoundC Tryz.prog 68 c_laws_toPortS) : SoundC Tryz.prog 29 c_laws_toDesign := by
  refine fn_sound tabD_ok (gam_cons q0 (gam_cons q1 (gam_cons q2 gam_nil))) mixed {} (fn := Tryz.f29) Tryz.func29 (by kernel_rfl) (by kernel_rfl) ?_
  rintro ⟨a0, ⟨⟩⟩ K ⟨r, h, hK⟩
  change laws_toDesign a0 = some r at h
  unfold laws_toDesign at h
  conv => whnf
  refine vBind h (fun toInstanceS0 hb0 h => ?_)
  conv => whnf
  intro fp1
  conv => whnf
  refine vBind h (fun toStringS0 hb2 h => ?_)
  conv => whnf
  refine vBind h (fun toPortS0 hb3 h => ?_)
  conv => whnf
  cases h
  exact hK
theorem w_laws_toException (q0 : SoundC Tryz.prog 120 c_laws_toInt64S) : SoundC Tryz.prog 72 c_laws_toException := by
  refine fn_sound tab_ok (gam_cons q0 gam_nil) mixed {} (fn := Tryz.f72) Tryz.func72 (by kernel_rfl) (by kernel_rfl) ?_
  rintro ⟨a0, ⟨⟩⟩ K ⟨r, h, hK⟩
  change laws_toException a0 = some r at h
  unfold laws_toException at h
  conv => whnf
  refine vBind h (fun toInt64S0 hb0 h => ?_)
  conv => whnf
  refine vBind h (fun toInt64S1 hb1 h => ?_)
  conv => whnf
  refine vBind h (fun toInt64S2 hb2 h => ?_)
  conv => whnf
  cases h
  exact hK
theorem w_laws_toPinS (q0 : SoundC Tryz.prog 190 c_laws_toPin) : SoundC Tryz.prog 162 c_laws_toPinS := by
  refine fn_sound tab_ok (gam_cons q0 gam_nil) mixed { loops := [(0, [.reg 4 (.dat (.int .i64)), .ent 0 (nat_lit 250) (.flat ti200.ety)])] } (fn := Tryz.f162) Tryz.func162 (by kernel_rfl) (by kernel_rfl) ?_
  rintro ⟨a0, ⟨⟩⟩ K ⟨r, h, hK⟩
  change laws_toPinS a0 = some r at h
  unfold laws_toPinS at h
  conv => whnf
  refine vPre h (fun hp0 h => ?_)
  conv => whnf
  refine vPre h (fun hp1 h => ?_)
  conv => whnf
  refine vPre h (fun hp2 h => ?_)
  conv => whnf
  refine vPre h (fun hp3 h => ?_)
  conv => whnf
  refine vLoop h ?_
  rintro I4 μ4 ⟨i0, l0, ⟨⟩⟩ zs4 h hI4 hR4
  change laws_toPinS_loop0 a0 i0 l0 = some zs4 at h
  unfold laws_toPinS_loop0 at h
  conv => whnf
  refine vIfD h (fun h => ?_) (fun h => ?_)
  · conv => whnf
    refine vAt h (fun x0 he5a he5b he5x h => ?_)
    conv => whnf
    refine vBind h (fun toPin0 hb6 h => ?_)
    conv => whnf
    refine vAt h (fun x1 he7a he7b he7x h => ?_)
    conv => whnf
    refine ⟨by kernel_rfl, ?_⟩
    conv => whnf
    refine ⟨by decide, ?_⟩
    conv => whnf
    refine ⟨he7a, he7b, vAgain he7x ?_⟩
    conv => whnf
    cases h
    exact ⟨⟨rfl, rfl⟩, hI4 _ rfl⟩
  · conv => whnf
    cases h
    obtain rfl := hR4 _ rfl
    exact hK
theorem w_slices_IndexFunc_Simpl_Table_impl_Table_at_impl_areTables_c1 (q0 : SoundC Tryz.prog 251 c_impl_areTables_c1) : SoundC Tryz.prog 262 c_slices_IndexFunc_Simpl_Table_impl_Table_at_impl_areTables_c1 := by
  refine fn_sound tab_ok (gam_cons q0 gam_nil) mixed { loops := [(0, [.reg 8 (.dat (.int .i64))])] } (fn := Tryz.f262) Tryz.func262 (by kernel_rfl) (by kernel_rfl) ?_
  rintro ⟨s0, f0, ⟨⟩⟩ K ⟨r, h, hK⟩
  change slices_IndexFunc_Simpl_Table_impl_Table_at_impl_areTables_c1 s0 f0 = some r at h
  unfold slices_IndexFunc_Simpl_Table_impl_Table_at_impl_areTables_c1 at h
  conv => whnf
  refine vLoop h ?_
  rintro I0 μ0 ⟨v0, ⟨⟩⟩ zs0 h hI0 hR0
  change slices_IndexFunc_Simpl_Table_impl_Table_at_impl_areTables_c1_loop0 s0 f0 v0 = some zs0 at h
  unfold slices_IndexFunc_Simpl_Table_impl_Table_at_impl_areTables_c1_loop0 at h
  conv => whnf
  refine vIfD h (fun h => ?_) (fun h => ?_)
  · conv => whnf
    refine vAt h (fun x0 he1a he1b he1x h => ?_)
    conv => whnf
    refine vBind h (fun c1_0 hb2 h => ?_)
    conv => whnf
    refine vIfB h (fun h => ?_) (fun h => ?_)
    · conv => whnf
      cases h
      obtain rfl := hR0 _ rfl
      exact hK
    · conv => whnf
      cases h
      exact ⟨⟨rfl, rfl⟩, hI0 _ rfl⟩
  · conv => whnf
    cases h
    obtain rfl := hR0 _ rfl
    exact hK
theorem w_slices_Min_Sint64_int64 : SoundC Tryz.prog 253 c_slices_Min_Sint64_int64 := by
  refine fn_sound tab_ok gam_nil mixed { loops := [(0, [.reg 3 (.dat (.int .i64)), .reg 4 (.dat (.int .i64))])] } (fn := Tryz.f253) Tryz.func253 (by kernel_rfl) (by kernel_rfl) ?_
  rintro ⟨x0, ⟨⟩⟩ K ⟨r, h, hK⟩
  change slices_Min_Sint64_int64 x0 = some r at h
  unfold slices_Min_Sint64_int64 at h
  conv => whnf
  refine vIfD h (fun h => ?_) (fun h => ?_)
  · conv => whnf
    cases h
  · conv => whnf
    refine vAt h (fun x1 he0a he0b he0x h => ?_)
    conv => whnf
    refine vLoop h ?_
    rintro I1 μ1 ⟨m0, i0, ⟨⟩⟩ zs1 h hI1 hR1
    change slices_Min_Sint64_int64_loop0 x0 m0 i0 = some zs1 at h
    unfold slices_Min_Sint64_int64_loop0 at h
    conv => whnf
    refine vIfD h (fun h => ?_) (fun h => ?_)
    · conv => whnf
      refine vAt h (fun x2 he2a he2b he2x h => ?_)
      conv => whnf
      cases h
      exact ⟨⟨rfl, rfl⟩, hI1 _ rfl⟩
    · conv => whnf
      cases h
      obtain rfl := hR1 _ rfl
      exact hK
theorem w_spec_l01In : SoundC Tryz.prog 60 c_spec_l01In := by
  refine fn_sound tab_ok gam_nil mixed {} (fn := Tryz.f60) Tryz.func60 (by kernel_rfl) (by kernel_rfl) ?_
  rintro ⟨n0, low0, high0, ⟨⟩⟩ K ⟨r, h, hK⟩
  change spec_l01In n0 low0 high0 = some r at h
  unfold spec_l01In at h
  conv => whnf
  refine vIfD h (fun h => ?_) (fun h => ?_)
  · conv => whnf
    cases h
    exact hK
  · conv => whnf
    cases h
    exact hK
theorem w_spec_l03Name : SoundC Tryz.prog 115 c_spec_l03Name := by
  refine fn_sound tab_ok gam_nil mixed { loops := [(0, [.reg 3 (.dat (.int .i64))])] } (fn := Tryz.f115) Tryz.func115 (by kernel_rfl) (by kernel_rfl) ?_
  rintro ⟨s0, ⟨⟩⟩ K ⟨r, h, hK⟩
  change spec_l03Name s0 = some r at h
  unfold spec_l03Name at h
  conv => whnf
  refine vLoop h ?_
  rintro I0 μ0 ⟨i0, ⟨⟩⟩ zs0 h hI0 hR0
  change spec_l03Name_loop0 s0 i0 = some zs0 at h
  unfold spec_l03Name_loop0 at h
  conv => whnf
  refine vIfD h (fun h => ?_) (fun h => ?_)
  · conv => whnf
    refine vAt h (fun x0 he1a he1b he1x h => ?_)
    conv => whnf
    refine vIfD h (fun h => ?_) (fun h => ?_)
    · conv => whnf
      refine ⟨he1a, he1b, vAgain he1x ?_⟩
      conv => whnf
      refine ⟨he1a, he1b, vAgain he1x ?_⟩
      conv => whnf
      refine vIfD h (fun h => ?_) (fun h => ?_)
      · conv => whnf
        refine ⟨he1a, he1b, vAgain he1x ?_⟩
        conv => whnf
        refine vNots ?_
        refine vIfD h (fun h => ?_) (fun h => ?_)
        · conv => whnf
          cases h
          exact ⟨⟨rfl, rfl⟩, hI0 _ rfl⟩
        · conv => whnf
          refine vIfD h (fun h => ?_) (fun h => ?_)
          · conv => whnf
            refine vNots ?_
            refine vIfD h (fun h => ?_) (fun h => ?_)
            · conv => whnf
              cases h
              exact ⟨⟨rfl, rfl⟩, hI0 _ rfl⟩
            · conv => whnf
              cases h
              obtain rfl := hR0 _ rfl
              exact hK
          · conv => whnf
            cases h
            obtain rfl := hR0 _ rfl
            exact hK
      · conv => whnf
        refine vNots ?_
        refine vIfD h (fun h => ?_) (fun h => ?_)
        · conv => whnf
          cases h
          exact ⟨⟨rfl, rfl⟩, hI0 _ rfl⟩
        · conv => whnf
          cases h
          obtain rfl := hR0 _ rfl
          exact hK
    · conv => whnf
      refine ⟨he1a, he1b, vAgain he1x ?_⟩
      conv => whnf
      refine vIfD h (fun h => ?_) (fun h => ?_)
      · conv => whnf
        refine ⟨he1a, he1b, vAgain he1x ?_⟩
        conv => whnf
        refine vIfD h (fun h => ?_) (fun h => ?_)
        · conv => whnf
          refine vNots ?_
          refine vIfD h (fun h => ?_) (fun h => ?_)
          · conv => whnf
            cases h
            exact ⟨⟨rfl, rfl⟩, hI0 _ rfl⟩
          · conv => whnf
            cases h
            obtain rfl := hR0 _ rfl
            exact hK
        · conv => whnf
          cases h
          obtain rfl := hR0 _ rfl
          exact hK
      · conv => whnf
        cases h
        obtain rfl := hR0 _ rfl
        exact hK
  · conv => whnf
    refine vIfD h (fun h => ?_) (fun h => ?_)
    · conv => whnf
      cases h
      obtain rfl := hR0 _ rfl
      exact hK
    · conv => whnf
      cases h
      obtain rfl := hR0 _ rfl
      exact hK
theorem w_spec_l05Parts (q0 : SoundC Tryz.prog 60 c_spec_l01In) : SoundC Tryz.prog 113 c_spec_l05Parts := by
  refine fn_sound tab_ok (gam_cons q0 gam_nil) mixed { loops := [(0, [.reg 6 (.dat (.int .i64))]), (2, [.reg 8 (.dat (.int .i64))]), (4, [.reg 9 (.dat (.int .i64))])], draws := [(6, [0, 1, 0, 4, 12, 28, 63, 127, 255, 511, 1023, 2047, 511, 4607, 511, 16895, 61951, 127487, 258559, 520703, 1048575, 2097151], .op 0 (.op 1 (.op 2 (.op 3 (.op 4 (.op 5 (.alt 6 (.op 7 (.op 8 (.op 9 (.op 10 (.op 11 (.op 12 (.op 13 (.op 14 (.op 15 (.op 16 (.op 17 (.op 18 (.op 19 (.op 20 (.op 21 (.done)))))))))))))))) (.done))))))))] } (fn := Tryz.f113) Tryz.func113 (by kernel_rfl) (by kernel_rfl) ?_
  rintro ⟨a0, a1, ⟨⟩⟩ K ⟨r, h, hK⟩
  change spec_l05Parts a0 a1 = some r at h
  unfold spec_l05Parts at h
  conv => whnf
  refine vLoop h ?_
  rintro I0 μ0 ⟨v0, ⟨⟩⟩ zs0 h hI0 hR0
  change spec_l05Parts_loop2 a0 a1 v0 = some zs0 at h
  unfold spec_l05Parts_loop2 at h
  conv => whnf
  refine vIfD h (fun h => ?_) (fun h => ?_)
  · conv => whnf
    refine vAt h (fun x0 he1a he1b he1x h => ?_)
    conv => whnf
    refine ⟨by kernel_rfl, ?_⟩
    conv => whnf
    refine vBind h (fun l01In0 hb2 h => ?_)
    conv => whnf
    refine vNot ?_
    refine vIfB h (fun h => ?_) (fun h => ?_)
    · conv => whnf
      refine vAt h (fun x1 he3a he3b he3x h => ?_)
      conv => whnf
      refine vNots ?_
      refine vIfD h (fun h => ?_) (fun h => ?_)
      · conv => whnf
        refine vLoop h ?_
        rintro I4 μ4 ⟨v1, ⟨⟩⟩ zs4 h hI4 hR4
        change spec_l05Parts_loop0 a1 v0 x0 v1 = some zs4 at h
        unfold spec_l05Parts_loop0 at h
        conv => whnf
        refine vIfD h (fun h => ?_) (fun h => ?_)
        · conv => whnf
          refine vAt h (fun x2 he5a he5b he5x h => ?_)
          conv => whnf
          refine vBind h (fun l01In1 hb6 h => ?_)
          conv => whnf
          refine vNots ?_
          refine vIfB h (fun h => ?_) (fun h => ?_)
          · conv => whnf
            cases h
            exact ⟨⟨rfl, rfl⟩, hI4 _ rfl⟩
          · conv => whnf
            cases h
            obtain rfl := hR4 _ rfl
            obtain rfl := hR0 _ rfl
            exact hK
        · conv => whnf
          cases h
          obtain rfl := hR4 _ rfl
          exact ⟨⟨rfl, rfl⟩, hI0 _ rfl⟩
      · conv => whnf
        cases h
        obtain rfl := hR0 _ rfl
        exact hK
    · conv => whnf
      cases h
      obtain rfl := hR0 _ rfl
      exact hK
  · conv => whnf
    refine vLoop h ?_
    rintro I7 μ7 ⟨v1, ⟨⟩⟩ zs7 h hI7 hR7
    change spec_l05Parts_loop1 a1 v1 = some zs7 at h
    unfold spec_l05Parts_loop1 at h
    conv => whnf
    refine vIfD h (fun h => ?_) (fun h => ?_)
    · conv => whnf
      refine vAt h (fun x0 he8a he8b he8x h => ?_)
      conv => whnf
      refine vBind h (fun l01In0 hb9 h => ?_)
      conv => whnf
      refine vNot ?_
      refine vIfB h (fun h => ?_) (fun h => ?_)
      · conv => whnf
        refine ⟨he8a, he8b, vAgain he8x ?_⟩
        conv => whnf
        refine vBind h (fun l01In1 hb10 h => ?_)
        conv => whnf
        refine vNots ?_
        refine vIfB h (fun h => ?_) (fun h => ?_)
        · conv => whnf
          cases h
          exact ⟨⟨rfl, rfl⟩, hI7 _ rfl⟩
        · conv => whnf
          cases h
          obtain rfl := hR7 _ rfl
          obtain rfl := hR0 _ rfl
          exact hK
      · conv => whnf
        cases h
        obtain rfl := hR7 _ rfl
        obtain rfl := hR0 _ rfl
        exact hK
    · conv => whnf
      cases h
      obtain rfl := hR7 _ rfl
      obtain rfl := hR0 _ rfl
      exact hK
theorem w_spec_l12Slews : SoundC Tryz.prog 64 c_spec_l12Slews := by
  refine fn_sound tab_ok gam_nil mixed {} (fn := Tryz.f64) Tryz.func64 (by kernel_rfl) (by kernel_rfl) ?_
  rintro ⟨s0, ⟨⟩⟩ K ⟨r, h, hK⟩
  change spec_l12Slews s0 = some r at h
  unfold spec_l12Slews at h
  conv => whnf
  refine vIfD h (fun h => ?_) (fun h => ?_)
  · conv => whnf
    refine vIfD h (fun h => ?_) (fun h => ?_)
    · conv => whnf
      cases h
      exact hK
    · conv => whnf
      cases h
      exact hK
  · conv => whnf
    cases h
    exact hK
end Go.Proofs.YtmlloomodhhefaaGreatDoor
