/-
  The functions keep their contracts, if what they call does. Printed by program.
-/
import Derived.Test.YtenpdmpfepgkjaaGreatDoorM
import Derived.KernelRfl
namespace Go.Proofs.YtenpdmpfepgkjaaGreatDoor
open Go Go.Sx
set_option maxRecDepth 100000
set_option linter.unusedVariables false
set_option linter.unusedSimpArgs false
set_option maxRecDepth 100000 in
theorem w_impl_Arc_transitions : SoundC Tryz.prog 141 c_impl_Arc_transitions := by
  refine fn_sound tab_ok gam_nil mixed {} (fn := Tryz.f141) Tryz.func141 (by kernel_rfl) (by kernel_rfl) ?_
  rintro ⟨a0, ⟨⟩⟩ K ⟨r, h, hK⟩
  change impl_Arc_transitions a0 = some r at h
  unfold impl_Arc_transitions at h
  conv => whnf
  refine vIfD h (fun h => ?_) (fun h => ?_)
  · conv => whnf
    cases h
    exact hK
  · conv => whnf
    refine vIfD h (fun h => ?_) (fun h => ?_)
    · conv => whnf
      cases h
      exact hK
    · conv => whnf
      refine vNots ?_
      refine vIfD h (fun h => ?_) (fun h => ?_)
      · conv => whnf
        refine vIfD h (fun h => ?_) (fun h => ?_)
        · conv => whnf
          cases h
          exact hK
        · conv => whnf
          refine vIfD h (fun h => ?_) (fun h => ?_)
          · conv => whnf
            cases h
            exact hK
          · conv => whnf
            cases h
            exact hK
      · conv => whnf
        cases h
        exact hK
set_option maxRecDepth 100000 in
theorem w_impl_Block_nodeDelays (k_impl_Block_nodeLoads' : SoundC Tryz.prog 104 c_impl_Block_nodeLoads) : SoundC Tryz.prog 144 c_impl_Block_nodeDelays := by
  refine fn_sound tab_ok (gam_cons k_impl_Block_nodeLoads' gam_nil) mixed { loops := [(0, [.reg 8 (.dat (.int .i64)), .ent 3 (nat_lit 2) (.flat ti35.ety)])], draws := [(1, [0, 1, 0, 7, 15, 0, 0, 96, 0, 511, 1023], .op 0 (.op 1 (.op 2 (.op 3 (.op 4 (.op 5 (.op 6 (.alt 7 (.alt 8 (.alt 9 (.op 10 (.done)) (.done)) (.done)) (.alt 8 (.alt 7 (.alt 9 (.op 10 (.done)) (.done)) (.done)) (.done)))))))))), (6, [0, 0, 0, 0, 8, 0, 56, 120, 252, 508, 0, 1024, 0, 7168, 15360, 0, 0, 98304, 229376, 523264, 1048572, 2097151, 4194303], .op 0 (.op 1 (.op 2 (.op 3 (.op 4 (.op 5 (.op 6 (.op 7 (.op 8 (.op 9 (.op 10 (.op 11 (.op 12 (.op 13 (.op 14 (.op 15 (.op 16 (.op 17 (.op 18 (.op 19 (.op 20 (.op 21 (.alt 22 (.done) (.done))))))))))))))))))))))))] } (fn := Tryz.f144) Tryz.func144 (by kernel_rfl) (by kernel_rfl) ?_
  rintro ⟨b0, net0, ⟨⟩⟩ K ⟨r, h, hK⟩
  change impl_Block_nodeDelays b0 net0 = some r at h
  unfold impl_Block_nodeDelays at h
  conv => whnf
  refine ⟨by kernel_rfl, ?_⟩
  conv => whnf
  refine vAt h (fun x0 he0a he0b he0x h => ?_)
  conv => whnf
  refine ⟨?_, ?_⟩
  · conv => whnf
    refine vBind h (fun nodeLoads0 hb1 h => ?_)
    conv => whnf
    refine vPre h (fun hp2 h => ?_)
    conv => whnf
    refine vPre h (fun hp3 h => ?_)
    conv => whnf
    refine vPre h (fun hp4 h => ?_)
    conv => whnf
    refine vPre h (fun hp5 h => ?_)
    conv => whnf
    refine vLoop h ?_
    rintro I6 μ6 ⟨i0, l0, ⟨⟩⟩ zs6 h hI6 hR6
    change impl_Block_nodeDelays_loop0 x0 nodeLoads0 i0 l0 = some zs6 at h
    unfold impl_Block_nodeDelays_loop0 at h
    conv => whnf
    refine vIfD h (fun h => ?_) (fun h => ?_)
    · conv => whnf
      refine ⟨by kernel_rfl, ?_⟩
      conv => whnf
      refine vAt h (fun x1 he7a he7b he7x h => ?_)
      conv => whnf
      refine vAt h (fun x2 he8a he8b he8x h => ?_)
      conv => whnf
      refine ⟨by kernel_rfl, ?_⟩
      conv => whnf
      refine ⟨he8a, he8b, vAgain he8x ?_⟩
      conv => whnf
      refine vAt h (fun x3 he9a he9b he9x h => ?_)
      conv => whnf
      refine vAt h (fun x4 he10a he10b he10x h => ?_)
      conv => whnf
      refine ⟨by kernel_rfl, ?_⟩
      conv => whnf
      refine ⟨he10a, he10b, vAgain he10x ?_⟩
      conv => whnf
      refine vAt h (fun x5 he11a he11b he11x h => ?_)
      conv => whnf
      refine ⟨by kernel_rfl, ?_⟩
      conv => whnf
      refine ⟨by decide, ?_⟩
      conv => whnf
      refine ⟨he11a, he11b, vAgain he11x ?_⟩
      conv => whnf
      cases h
      exact ⟨⟨rfl, rfl⟩, hI6 _ rfl⟩
    · conv => whnf
      cases h
      obtain rfl := hR6 _ rfl
      exact hK
  · obtain ⟨nodeLoads0, hb1, h⟩ := Option.bind_eq_some_iff.1 h
    obtain ⟨hp2, h⟩ := guardE h
    obtain ⟨hp3, h⟩ := guardE h
    obtain ⟨hp4, h⟩ := guardE h
    obtain ⟨hp5, h⟩ := guardE h
    conv => whnf
    refine ⟨_, hb1, ?_⟩
    conv => whnf
    refine ⟨hp2, ?_⟩
    conv => whnf
    refine ⟨hp3, ?_⟩
    conv => whnf
    refine ⟨hp4, ?_⟩
    conv => whnf
    refine ⟨hp5, ?_⟩
    conv => whnf
    refine vLoop h ?_
    rintro I12 μ12 ⟨i0, l0, ⟨⟩⟩ zs12 h hI12 hR12
    change impl_Block_nodeDelays_loop0 x0 nodeLoads0 i0 l0 = some zs12 at h
    unfold impl_Block_nodeDelays_loop0 at h
    conv => whnf
    refine vIfD h (fun h => ?_) (fun h => ?_)
    · conv => whnf
      refine ⟨by kernel_rfl, ?_⟩
      conv => whnf
      refine vAt h (fun x1 he13a he13b he13x h => ?_)
      conv => whnf
      refine vAt h (fun x2 he14a he14b he14x h => ?_)
      conv => whnf
      refine ⟨by kernel_rfl, ?_⟩
      conv => whnf
      refine ⟨he14a, he14b, vAgain he14x ?_⟩
      conv => whnf
      refine vAt h (fun x3 he15a he15b he15x h => ?_)
      conv => whnf
      refine vAt h (fun x4 he16a he16b he16x h => ?_)
      conv => whnf
      refine ⟨by kernel_rfl, ?_⟩
      conv => whnf
      refine ⟨he16a, he16b, vAgain he16x ?_⟩
      conv => whnf
      refine vAt h (fun x5 he17a he17b he17x h => ?_)
      conv => whnf
      refine ⟨by kernel_rfl, ?_⟩
      conv => whnf
      refine ⟨by decide, ?_⟩
      conv => whnf
      refine ⟨he17a, he17b, vAgain he17x ?_⟩
      conv => whnf
      cases h
      exact ⟨⟨rfl, rfl⟩, hI12 _ rfl⟩
    · conv => whnf
      cases h
      obtain rfl := hR12 _ rfl
      exact hK
set_option maxRecDepth 100000 in
theorem w_impl_Cell_areArcs (k_impl_Cell_isArc' : SoundC Tryz.prog 186 c_impl_Cell_isArc) (k_slices_ContainsFunc_Simpl_Arc_impl_Arc_at_impl_Cell_areArcs_c1' : SoundC Tryz.prog 187 c_slices_ContainsFunc_Simpl_Arc_impl_Arc_at_impl_Cell_areArcs_c1) : SoundC Tryz.prog 175 c_impl_Cell_areArcs := by
  refine fn_sound tab_ok (gam_cons k_impl_Cell_isArc' (gam_cons k_slices_ContainsFunc_Simpl_Arc_impl_Arc_at_impl_Cell_areArcs_c1' gam_nil)) mixed { loops := [(0, [.reg 8 (.dat (.int .i64))])] } (fn := Tryz.f175) Tryz.func175 (by kernel_rfl) (by kernel_rfl) ?_
  rintro ⟨c0, ⟨⟩⟩ K ⟨r, h, hK⟩
  change impl_Cell_areArcs c0 = some r at h
  unfold impl_Cell_areArcs at h
  conv => whnf
  refine vLoop h ?_
  rintro I0 μ0 ⟨v0, ⟨⟩⟩ zs0 h hI0 hR0
  change impl_Cell_areArcs_loop0 c0 v0 = some zs0 at h
  unfold impl_Cell_areArcs_loop0 at h
  conv => whnf
  refine vIfD h (fun h => ?_) (fun h => ?_)
  · conv => whnf
    refine vAt h (fun x0 he1a he1b he1x h => ?_)
    conv => whnf
    refine vBind h (fun isArc0 hb2 h => ?_)
    conv => whnf
    refine vNot ?_
    refine vIfB h (fun h => ?_) (fun h => ?_)
    · conv => whnf
      refine ⟨by decide, ?_⟩
      conv => whnf
      refine vPre h (fun hp3 h => ?_)
      conv => whnf
      refine vPre h (fun hp4 h => ?_)
      conv => whnf
      refine vBind h (fun c1_0 hb5 h => ?_)
      conv => whnf
      refine vIfB h (fun h => ?_) (fun h => ?_)
      · conv => whnf
        cases h
        obtain rfl := hR0 _ rfl
        exact hK
      · conv => whnf
        cases h
        exact ⟨⟨rfl, rfl⟩, hI0 _ rfl⟩
    · conv => whnf
      cases h
      obtain rfl := hR0 _ rfl
      exact hK
  · conv => whnf
    cases h
    obtain rfl := hR0 _ rfl
    exact hK
set_option maxRecDepth 100000 in
theorem w_impl_Cell_isInput (k_impl_Cell_output' : SoundC Tryz.prog 189 c_impl_Cell_output) (k_impl_within' : SoundC Tryz.prog 109 c_impl_within) : SoundC Tryz.prog 208 c_impl_Cell_isInput := by
  refine fn_sound tab_ok (gam_cons k_impl_Cell_output' (gam_cons k_impl_within' gam_nil)) mixed {} (fn := Tryz.f208) Tryz.func208 (by kernel_rfl) (by kernel_rfl) ?_
  rintro ⟨c0, pin0, ⟨⟩⟩ K ⟨r, h, hK⟩
  change impl_Cell_isInput c0 pin0 = some r at h
  unfold impl_Cell_isInput at h
  conv => whnf
  refine vBind h (fun output0 hb0 h => ?_)
  conv => whnf
  refine vBind h (fun within0 hb1 h => ?_)
  conv => whnf
  cases h
  exact hK
set_option maxRecDepth 100000 in
theorem w_impl_Design_hasNames (k_impl_areNames' : SoundC Tryz.prog 158 c_impl_areNames) : SoundC Tryz.prog 135 c_impl_Design_hasNames := by
  refine fn_sound tab_ok (gam_cons k_impl_areNames' gam_nil) mixed { loops := [(0, [.reg 3 (.own (.ol 9 (.flat (.str)))), .reg 12 (.dat (.int .i64))]), (2, [.reg 4 (.own (.ol 9 (.flat (.str)))), .reg 25 (.dat (.int .i64))])] } (fn := Tryz.f135) Tryz.func135 (by kernel_rfl) (by kernel_rfl) ?_
  rintro ⟨d0, ⟨⟩⟩ K ⟨r, h, hK⟩
  change impl_Design_hasNames d0 = some r at h
  unfold impl_Design_hasNames at h
  conv => whnf
  refine vLoop h ?_
  rintro I0 μ0 ⟨instances0, v0, ⟨⟩⟩ zs0 h hI0 hR0
  change impl_Design_hasNames_loop1 d0 instances0 v0 = some zs0 at h
  unfold impl_Design_hasNames_loop1 at h
  conv => whnf
  refine vIfD h (fun h => ?_) (fun h => ?_)
  · conv => whnf
    refine vAt h (fun x0 he1a he1b he1x h => ?_)
    conv => whnf
    refine vPre h (fun hp2 h => ?_)
    conv => whnf
    cases h
    exact ⟨⟨rfl, rfl⟩, hI0 _ rfl⟩
  · conv => whnf
    refine vLoop h ?_
    rintro I3 μ3 ⟨ports0, v1, ⟨⟩⟩ zs3 h hI3 hR3
    change impl_Design_hasNames_loop0 d0 instances0 ports0 v1 = some zs3 at h
    unfold impl_Design_hasNames_loop0 at h
    conv => whnf
    refine vIfD h (fun h => ?_) (fun h => ?_)
    · conv => whnf
      refine vAt h (fun x0 he4a he4b he4x h => ?_)
      conv => whnf
      refine vPre h (fun hp5 h => ?_)
      conv => whnf
      cases h
      exact ⟨⟨rfl, rfl⟩, hI3 _ rfl⟩
    · conv => whnf
      refine vIfD h (fun h => ?_) (fun h => ?_)
      · conv => whnf
        refine vIfD h (fun h => ?_) (fun h => ?_)
        · conv => whnf
          refine vIfD h (fun h => ?_) (fun h => ?_)
          · conv => whnf
            refine vBind h (fun areNames0 hb6 h => ?_)
            conv => whnf
            refine vIfB h (fun h => ?_) (fun h => ?_)
            · conv => whnf
              refine vBind h (fun areNames1 hb7 h => ?_)
              conv => whnf
              refine vIfB h (fun h => ?_) (fun h => ?_)
              · conv => whnf
                refine vBind h (fun areNames2 hb8 h => ?_)
                conv => whnf
                cases h
                obtain rfl := hR3 _ rfl
                obtain rfl := hR0 _ rfl
                exact hK
              · conv => whnf
                cases h
                obtain rfl := hR3 _ rfl
                obtain rfl := hR0 _ rfl
                exact hK
            · conv => whnf
              cases h
              obtain rfl := hR3 _ rfl
              obtain rfl := hR0 _ rfl
              exact hK
          · conv => whnf
            cases h
            obtain rfl := hR3 _ rfl
            obtain rfl := hR0 _ rfl
            exact hK
        · conv => whnf
          cases h
          obtain rfl := hR3 _ rfl
          obtain rfl := hR0 _ rfl
          exact hK
      · conv => whnf
        cases h
        obtain rfl := hR3 _ rfl
        obtain rfl := hR0 _ rfl
        exact hK
set_option maxRecDepth 100000 in
theorem w_impl_Design_isInstance_c1 (k_impl_Design_isNet' : SoundC Tryz.prog 137 c_impl_Design_isNet) : SoundC Tryz.prog 160 c_impl_Design_isInstance_c1 := by
  refine fn_sound tab_ok (gam_cons k_impl_Design_isNet' gam_nil) mixed {} (fn := Tryz.f160) Tryz.func160 (by kernel_rfl) (by kernel_rfl) ?_
  rintro ⟨net0, a0, ⟨⟩⟩ K ⟨r, h, hK⟩
  change impl_Design_isInstance_c1 net0 a0 = some r at h
  unfold impl_Design_isInstance_c1 at h
  conv => whnf
  refine vBind h (fun isNet0 hb0 h => ?_)
  conv => whnf
  cases h
  exact hK
set_option maxRecDepth 100000 in
theorem w_impl_Design_places : SoundC Tryz.prog 100 c_impl_Design_places := by
  refine fn_sound tab_ok gam_nil mixed { loops := [(0, [.reg 3 (.own (.ol 171 (.flat (tplace)))), .reg 13 (.dat (.int .i64))]), (2, [.reg 3 (.own (.ol 171 (.flat (tplace)))), .reg 21 (.dat (.int .i64))]), (4, [.reg 3 (.own (.ol 171 (.flat (tplace)))), .reg 44 (.dat (.int .i64))])] } (fn := Tryz.f100) Tryz.func100 (by kernel_rfl) (by kernel_rfl) ?_
  rintro ⟨d0, ⟨⟩⟩ K ⟨r, h, hK⟩
  change impl_Design_places d0 = some r at h
  unfold impl_Design_places at h
  conv => whnf
  refine vLoop h ?_
  rintro I0 μ0 ⟨list0, v0, ⟨⟩⟩ zs0 h hI0 hR0
  change impl_Design_places_loop2 d0 list0 v0 = some zs0 at h
  unfold impl_Design_places_loop2 at h
  conv => whnf
  refine vIfD h (fun h => ?_) (fun h => ?_)
  · conv => whnf
    refine vAt h (fun x0 he1a he1b he1x h => ?_)
    conv => whnf
    refine vLoop h ?_
    rintro I2 μ2 ⟨list1, v1, ⟨⟩⟩ zs2 h hI2 hR2
    change impl_Design_places_loop0 v0 x0 list1 v1 = some zs2 at h
    unfold impl_Design_places_loop0 at h
    conv => whnf
    refine vIfD h (fun h => ?_) (fun h => ?_)
    · conv => whnf
      refine vAt h (fun x1 he3a he3b he3x h => ?_)
      conv => whnf
      refine vPre h (fun hp4 h => ?_)
      conv => whnf
      cases h
      exact ⟨⟨rfl, rfl⟩, hI2 _ rfl⟩
    · conv => whnf
      cases h
      obtain rfl := hR2 _ rfl
      exact ⟨⟨rfl, rfl⟩, hI0 _ rfl⟩
  · conv => whnf
    refine vLoop h ?_
    rintro I5 μ5 ⟨list1, v1, ⟨⟩⟩ zs5 h hI5 hR5
    change impl_Design_places_loop1 d0 list1 v1 = some zs5 at h
    unfold impl_Design_places_loop1 at h
    conv => whnf
    refine vIfD h (fun h => ?_) (fun h => ?_)
    · conv => whnf
      refine vAt h (fun x0 he6a he6b he6x h => ?_)
      conv => whnf
      refine vPre h (fun hp7 h => ?_)
      conv => whnf
      cases h
      exact ⟨⟨rfl, rfl⟩, hI5 _ rfl⟩
    · conv => whnf
      cases h
      obtain rfl := hR5 _ rfl
      obtain rfl := hR0 _ rfl
      exact hK
set_option maxRecDepth 100000 in
theorem w_impl_IsDesign (k_impl_IsLibrary' : SoundC Tryz.prog 134 c_impl_IsLibrary) (k_impl_Design_hasNames' : SoundC Tryz.prog 135 c_impl_Design_hasNames) (k_impl_Design_isInstance' : SoundC Tryz.prog 136 c_impl_Design_isInstance) (k_impl_Design_isNet' : SoundC Tryz.prog 137 c_impl_Design_isNet) (k_slices_ContainsFunc_Sint_int_at_impl_IsDesign_c1' : SoundC Tryz.prog 138 c_slices_ContainsFunc_Sint_int_at_impl_IsDesign_c1) : SoundC Tryz.prog 99 c_impl_IsDesign := by
  refine fn_sound tab_ok (gam_cons k_impl_IsLibrary' (gam_cons k_impl_Design_hasNames' (gam_cons k_impl_Design_isInstance' (gam_cons k_impl_Design_isNet' (gam_cons k_slices_ContainsFunc_Sint_int_at_impl_IsDesign_c1' gam_nil))))) mixed { loops := [(0, [.reg 25 (.dat (.int .i64)), .ent 2 (nat_lit 3) (.flat ti207.ety)]), (2, [.reg 51 (.dat (.int .i64)), .ent 2 (nat_lit 3) (.flat ti207.ety)])] } (fn := Tryz.f99) Tryz.func99 (by kernel_rfl) (by kernel_rfl) ?_
  rintro ⟨a0, a1, ⟨⟩⟩ K ⟨r, h, hK⟩
  change impl_IsDesign a0 a1 = some r at h
  unfold impl_IsDesign at h
  conv => whnf
  refine vBind h (fun IsLibrary0 hb0 h => ?_)
  conv => whnf
  refine vNot ?_
  refine vIfB h (fun h => ?_) (fun h => ?_)
  · conv => whnf
    refine vBind h (fun hasNames0 hb1 h => ?_)
    conv => whnf
    refine vNots ?_
    refine vIfB h (fun h => ?_) (fun h => ?_)
    · conv => whnf
      refine vPre h (fun hp2 h => ?_)
      conv => whnf
      refine vPre h (fun hp3 h => ?_)
      conv => whnf
      refine vPre h (fun hp4 h => ?_)
      conv => whnf
      refine vPre h (fun hp5 h => ?_)
      conv => whnf
      refine vLoop h ?_
      rintro I6 μ6 ⟨v0, l0, ⟨⟩⟩ zs6 h hI6 hR6
      change impl_IsDesign_loop1 a0 a1 v0 l0 = some zs6 at h
      unfold impl_IsDesign_loop1 at h
      conv => whnf
      refine vIfD h (fun h => ?_) (fun h => ?_)
      · conv => whnf
        refine vAt h (fun x0 he7a he7b he7x h => ?_)
        conv => whnf
        refine vBind h (fun isInstance0 hb8 h => ?_)
        conv => whnf
        refine vNots ?_
        refine vIfB h (fun h => ?_) (fun h => ?_)
        · conv => whnf
          refine vAt h (fun x1 he9a he9b he9x h => ?_)
          conv => whnf
          refine vAt h (fun x2 he10a he10b he10x h => ?_)
          conv => whnf
          refine ⟨by kernel_rfl, ?_⟩
          conv => whnf
          refine ⟨he10a, he10b, vAgain he10x ?_⟩
          conv => whnf
          refine ⟨he10a, he10b, vAgain he10x ?_⟩
          conv => whnf
          refine ⟨by kernel_rfl, ?_⟩
          conv => whnf
          refine ⟨by decide, ?_⟩
          conv => whnf
          refine ⟨he10a, he10b, vAgain he10x ?_⟩
          conv => whnf
          cases h
          exact ⟨⟨rfl, rfl⟩, hI6 _ rfl⟩
        · conv => whnf
          cases h
          obtain rfl := hR6 _ rfl
          exact hK
      · conv => whnf
        refine vLoop h ?_
        rintro I11 μ11 ⟨v1, l1, ⟨⟩⟩ zs11 h hI11 hR11
        change impl_IsDesign_loop0 a1 v1 l1 = some zs11 at h
        unfold impl_IsDesign_loop0 at h
        conv => whnf
        refine vIfD h (fun h => ?_) (fun h => ?_)
        · conv => whnf
          refine vAt h (fun x0 he12a he12b he12x h => ?_)
          conv => whnf
          refine vNots ?_
          refine vIfD h (fun h => ?_) (fun h => ?_)
          · conv => whnf
            refine vBind h (fun isNet0 hb13 h => ?_)
            conv => whnf
            refine vNots ?_
            refine vIfB h (fun h => ?_) (fun h => ?_)
            · conv => whnf
              refine vIfD h (fun h => ?_) (fun h => ?_)
              · conv => whnf
                refine vAt h (fun x1 he14a he14b he14x h => ?_)
                conv => whnf
                refine ⟨by kernel_rfl, ?_⟩
                conv => whnf
                refine ⟨he14a, he14b, vAgain he14x ?_⟩
                conv => whnf
                refine ⟨he14a, he14b, vAgain he14x ?_⟩
                conv => whnf
                refine ⟨by kernel_rfl, ?_⟩
                conv => whnf
                refine ⟨by decide, ?_⟩
                conv => whnf
                refine ⟨he14a, he14b, vAgain he14x ?_⟩
                conv => whnf
                cases h
                exact ⟨⟨rfl, rfl⟩, hI11 _ rfl⟩
              · conv => whnf
                cases h
                exact ⟨⟨rfl, rfl⟩, hI11 _ rfl⟩
            · conv => whnf
              cases h
              obtain rfl := hR11 _ rfl
              obtain rfl := hR6 _ rfl
              exact hK
          · conv => whnf
            refine vNot ?_
            refine vIfD h (fun h => ?_) (fun h => ?_)
            · conv => whnf
              refine vBind h (fun isNet0 hb15 h => ?_)
              conv => whnf
              refine vNots ?_
              refine vIfB h (fun h => ?_) (fun h => ?_)
              · conv => whnf
                refine vIfD h (fun h => ?_) (fun h => ?_)
                · conv => whnf
                  refine vAt h (fun x1 he16a he16b he16x h => ?_)
                  conv => whnf
                  refine ⟨by kernel_rfl, ?_⟩
                  conv => whnf
                  refine ⟨he16a, he16b, vAgain he16x ?_⟩
                  conv => whnf
                  refine ⟨he16a, he16b, vAgain he16x ?_⟩
                  conv => whnf
                  refine ⟨by kernel_rfl, ?_⟩
                  conv => whnf
                  refine ⟨by decide, ?_⟩
                  conv => whnf
                  refine ⟨he16a, he16b, vAgain he16x ?_⟩
                  conv => whnf
                  cases h
                  exact ⟨⟨rfl, rfl⟩, hI11 _ rfl⟩
                · conv => whnf
                  cases h
                  exact ⟨⟨rfl, rfl⟩, hI11 _ rfl⟩
              · conv => whnf
                cases h
                obtain rfl := hR11 _ rfl
                obtain rfl := hR6 _ rfl
                exact hK
            · conv => whnf
              cases h
              obtain rfl := hR11 _ rfl
              obtain rfl := hR6 _ rfl
              exact hK
        · conv => whnf
          refine vBind h (fun c1_0 hb17 h => ?_)
          conv => whnf
          cases h
          obtain rfl := hR11 _ rfl
          obtain rfl := hR6 _ rfl
          exact hK
    · conv => whnf
      cases h
      exact hK
  · conv => whnf
    cases h
    exact hK
set_option maxRecDepth 100000 in
theorem w_impl_IsDesign_c1 : SoundC Tryz.prog 139 c_impl_IsDesign_c1 := by
  refine fn_sound tab_ok gam_nil mixed {} (fn := Tryz.f139) Tryz.func139 (by kernel_rfl) (by kernel_rfl) ?_
  rintro ⟨n0, ⟨⟩⟩ K ⟨r, h, hK⟩
  change impl_IsDesign_c1 n0 = some r at h
  unfold impl_IsDesign_c1 at h
  conv => whnf
  cases h
  exact hK
set_option maxRecDepth 100000 in
theorem w_impl_IsLibrary (k_impl_IsCell' : SoundC Tryz.prog 157 c_impl_IsCell) (k_impl_areNames' : SoundC Tryz.prog 158 c_impl_areNames) : SoundC Tryz.prog 134 c_impl_IsLibrary := by
  refine fn_sound tab_ok (gam_cons k_impl_IsCell' (gam_cons k_impl_areNames' gam_nil)) mixed { loops := [(0, [.reg 3 (.own (.ol 9 (.flat (.str)))), .reg 9 (.dat (.int .i64))])] } (fn := Tryz.f134) Tryz.func134 (by kernel_rfl) (by kernel_rfl) ?_
  rintro ⟨l0, ⟨⟩⟩ K ⟨r, h, hK⟩
  change impl_IsLibrary l0 = some r at h
  unfold impl_IsLibrary at h
  conv => whnf
  refine vLoop h ?_
  rintro I0 μ0 ⟨names0, v0, ⟨⟩⟩ zs0 h hI0 hR0
  change impl_IsLibrary_loop0 l0 names0 v0 = some zs0 at h
  unfold impl_IsLibrary_loop0 at h
  conv => whnf
  refine vIfD h (fun h => ?_) (fun h => ?_)
  · conv => whnf
    refine vAt h (fun x0 he1a he1b he1x h => ?_)
    conv => whnf
    refine vBind h (fun IsCell0 hb2 h => ?_)
    conv => whnf
    refine vNots ?_
    refine vIfB h (fun h => ?_) (fun h => ?_)
    · conv => whnf
      refine vPre h (fun hp3 h => ?_)
      conv => whnf
      cases h
      exact ⟨⟨rfl, rfl⟩, hI0 _ rfl⟩
    · conv => whnf
      cases h
      obtain rfl := hR0 _ rfl
      exact hK
  · conv => whnf
    refine vIfD h (fun h => ?_) (fun h => ?_)
    · conv => whnf
      refine vBind h (fun areNames0 hb4 h => ?_)
      conv => whnf
      cases h
      obtain rfl := hR0 _ rfl
      exact hK
    · conv => whnf
      cases h
      obtain rfl := hR0 _ rfl
      exact hK
set_option maxRecDepth 100000 in
theorem w_impl_Wire_isTree (k_impl_within' : SoundC Tryz.prog 109 c_impl_within) : SoundC Tryz.prog 140 c_impl_Wire_isTree := by
  refine fn_sound tab_ok (gam_cons k_impl_within' gam_nil) mixed { loops := [(0, [.reg 8 (.dat (.int .i64))])] } (fn := Tryz.f140) Tryz.func140 (by kernel_rfl) (by kernel_rfl) ?_
  rintro ⟨w0, ⟨⟩⟩ K ⟨r, h, hK⟩
  change impl_Wire_isTree w0 = some r at h
  unfold impl_Wire_isTree at h
  conv => whnf
  refine vLoop h ?_
  rintro I0 μ0 ⟨v0, ⟨⟩⟩ zs0 h hI0 hR0
  change impl_Wire_isTree_loop0 w0 v0 = some zs0 at h
  unfold impl_Wire_isTree_loop0 at h
  conv => whnf
  refine vIfD h (fun h => ?_) (fun h => ?_)
  · conv => whnf
    refine vAt h (fun x0 he1a he1b he1x h => ?_)
    conv => whnf
    refine vIfD h (fun h => ?_) (fun h => ?_)
    · conv => whnf
      refine vNot ?_
      refine vIfD h (fun h => ?_) (fun h => ?_)
      · conv => whnf
        refine vAt h (fun x1 he2a he2b he2x h => ?_)
        conv => whnf
        refine vNot ?_
        refine vIfD h (fun h => ?_) (fun h => ?_)
        · conv => whnf
          refine vIfD h (fun h => ?_) (fun h => ?_)
          · conv => whnf
            refine vBind h (fun within0 hb3 h => ?_)
            conv => whnf
            refine vNots ?_
            refine vIfB h (fun h => ?_) (fun h => ?_)
            · conv => whnf
              cases h
              exact ⟨⟨rfl, rfl⟩, hI0 _ rfl⟩
            · conv => whnf
              cases h
              obtain rfl := hR0 _ rfl
              exact hK
          · conv => whnf
            cases h
            exact ⟨⟨rfl, rfl⟩, hI0 _ rfl⟩
        · conv => whnf
          cases h
          obtain rfl := hR0 _ rfl
          exact hK
      · conv => whnf
        cases h
        obtain rfl := hR0 _ rfl
        exact hK
    · conv => whnf
      refine vIfD h (fun h => ?_) (fun h => ?_)
      · conv => whnf
        refine vBind h (fun within0 hb4 h => ?_)
        conv => whnf
        refine vNots ?_
        refine vIfB h (fun h => ?_) (fun h => ?_)
        · conv => whnf
          cases h
          exact ⟨⟨rfl, rfl⟩, hI0 _ rfl⟩
        · conv => whnf
          cases h
          obtain rfl := hR0 _ rfl
          exact hK
      · conv => whnf
        cases h
        exact ⟨⟨rfl, rfl⟩, hI0 _ rfl⟩
  · conv => whnf
    cases h
    obtain rfl := hR0 _ rfl
    exact hK
set_option maxRecDepth 100000 in
theorem w_impl_areTables (k_slices_ContainsFunc_Simpl_Table_impl_Table_at_impl_areTables_c1' : SoundC Tryz.prog 217 c_slices_ContainsFunc_Simpl_Table_impl_Table_at_impl_areTables_c1) : SoundC Tryz.prog 206 c_impl_areTables := by
  refine fn_sound tab_ok (gam_cons k_slices_ContainsFunc_Simpl_Table_impl_Table_at_impl_areTables_c1' gam_nil) mixed {} (fn := Tryz.f206) Tryz.func206 (by kernel_rfl) (by kernel_rfl) ?_
  rintro ⟨list0, positive0, ⟨⟩⟩ K ⟨r, h, hK⟩
  change impl_areTables list0 positive0 = some r at h
  unfold impl_areTables at h
  conv => whnf
  refine vIfD h (fun h => ?_) (fun h => ?_)
  · conv => whnf
    refine vBind h (fun c1_0 hb0 h => ?_)
    conv => whnf
    cases h
    exact hK
  · conv => whnf
    cases h
    exact hK
set_option maxRecDepth 100000 in
theorem w_impl_isAxis (k_impl_length_int64' : SoundC Tryz.prog 103 c_impl_length_int64) (k_impl_within' : SoundC Tryz.prog 109 c_impl_within) (k_impl_areWithin' : SoundC Tryz.prog 60 c_impl_areWithin) (k_impl_isIncreasing' : SoundC Tryz.prog 62 c_impl_isIncreasing) : SoundC Tryz.prog 228 c_impl_isAxis := by
  refine fn_sound tab_ok (gam_cons k_impl_length_int64' (gam_cons k_impl_within' (gam_cons k_impl_areWithin' (gam_cons k_impl_isIncreasing' gam_nil)))) mixed {} (fn := Tryz.f228) Tryz.func228 (by kernel_rfl) (by kernel_rfl) ?_
  rintro ⟨list0, ⟨⟩⟩ K ⟨r, h, hK⟩
  change impl_isAxis list0 = some r at h
  unfold impl_isAxis at h
  conv => whnf
  refine vBind h (fun int64_0 hb0 h => ?_)
  conv => whnf
  refine vBind h (fun within0 hb1 h => ?_)
  conv => whnf
  refine vIfB h (fun h => ?_) (fun h => ?_)
  · conv => whnf
    refine vBind h (fun areWithin0 hb2 h => ?_)
    conv => whnf
    refine vIfB h (fun h => ?_) (fun h => ?_)
    · conv => whnf
      refine vBind h (fun isIncreasing0 hb3 h => ?_)
      conv => whnf
      cases h
      exact hK
    · conv => whnf
      cases h
      exact hK
  · conv => whnf
    cases h
    exact hK
set_option maxRecDepth 100000 in
theorem w_impl_length_impl_Link : SoundC Tryz.prog 106 c_impl_length_impl_Link := by
  refine fn_sound tab_ok gam_nil mixed {} (fn := Tryz.f106) Tryz.func106 (by kernel_rfl) (by kernel_rfl) ?_
  rintro ⟨list0, ⟨⟩⟩ K ⟨r, h, hK⟩
  change impl_length_impl_Link list0 = some r at h
  unfold impl_length_impl_Link at h
  conv => whnf
  cases h
  exact hK
set_option maxRecDepth 100000 in
theorem w_impl_length_impl_Pin : SoundC Tryz.prog 185 c_impl_length_impl_Pin := by
  refine fn_sound tab_ok gam_nil mixed {} (fn := Tryz.f185) Tryz.func185 (by kernel_rfl) (by kernel_rfl) ?_
  rintro ⟨list0, ⟨⟩⟩ K ⟨r, h, hK⟩
  change impl_length_impl_Pin list0 = some r at h
  unfold impl_length_impl_Pin at h
  conv => whnf
  cases h
  exact hK
set_option maxRecDepth 100000 in
theorem w_laws_eqCellS (k_laws_eqCell' : SoundC Tryz.prog 119 c_laws_eqCell) : SoundC Tryz.prog 83 c_laws_eqCellS := by
  refine fn_sound tab_ok (gam_cons k_laws_eqCell' gam_nil) mixed { loops := [(0, [.reg 5 (.dat (.int .i64))])], draws := [(6, [0, 0, 3, 7, 0, 0, 48, 112, 255, 511], .op 0 (.op 1 (.op 2 (.op 3 (.op 4 (.op 5 (.op 6 (.op 7 (.alt 8 (.op 9 (.done)) (.done))))))))))] } (fn := Tryz.f83) Tryz.func83 (by kernel_rfl) (by kernel_rfl) ?_
  rintro ⟨a0, b0, ⟨⟩⟩ K ⟨r, h, hK⟩
  change laws_eqCellS a0 b0 = some r at h
  unfold laws_eqCellS at h
  conv => whnf
  refine vNots ?_
  refine vIfD h (fun h => ?_) (fun h => ?_)
  · conv => whnf
    refine vLoop h ?_
    rintro I0 μ0 ⟨i0, ⟨⟩⟩ zs0 h hI0 hR0
    change laws_eqCellS_loop0 a0 b0 i0 = some zs0 at h
    unfold laws_eqCellS_loop0 at h
    conv => whnf
    refine vIfD h (fun h => ?_) (fun h => ?_)
    · conv => whnf
      refine ⟨by kernel_rfl, ?_⟩
      conv => whnf
      refine vAt h (fun x0 he1a he1b he1x h => ?_)
      conv => whnf
      refine vAt h (fun x1 he2a he2b he2x h => ?_)
      conv => whnf
      refine vBind h (fun eqCell0 hb3 h => ?_)
      conv => whnf
      refine vNots ?_
      refine vIfB h (fun h => ?_) (fun h => ?_)
      · conv => whnf
        cases h
        exact ⟨⟨rfl, rfl⟩, hI0 _ rfl⟩
      · conv => whnf
        cases h
        obtain rfl := hR0 _ rfl
        exact hK
    · conv => whnf
      cases h
      obtain rfl := hR0 _ rfl
      exact hK
  · conv => whnf
    cases h
    exact hK
set_option maxRecDepth 100000 in
theorem w_laws_eqInstance (k_laws_eqInt64S' : SoundC Tryz.prog 15 c_laws_eqInt64S) : SoundC Tryz.prog 120 c_laws_eqInstance := by
  refine fn_sound tab_ok (gam_cons k_laws_eqInt64S' gam_nil) mixed {} (fn := Tryz.f120) Tryz.func120 (by kernel_rfl) (by kernel_rfl) ?_
  rintro ⟨a0, b0, ⟨⟩⟩ K ⟨r, h, hK⟩
  change laws_eqInstance a0 b0 = some r at h
  unfold laws_eqInstance at h
  conv => whnf
  refine vNots ?_
  refine vIfD h (fun h => ?_) (fun h => ?_)
  · conv => whnf
    refine vNots ?_
    refine vIfD h (fun h => ?_) (fun h => ?_)
    · conv => whnf
      refine vBind h (fun eqInt64S0 hb0 h => ?_)
      conv => whnf
      refine vNots ?_
      refine vIfB h (fun h => ?_) (fun h => ?_)
      · conv => whnf
        cases h
        exact hK
      · conv => whnf
        cases h
        exact hK
    · conv => whnf
      cases h
      exact hK
  · conv => whnf
    cases h
    exact hK
set_option maxRecDepth 100000 in
theorem w_laws_eqLibrary (k_laws_eqCellS' : SoundC Tryz.prog 83 c_laws_eqCellS) : SoundC Tryz.prog 42 c_laws_eqLibrary := by
  refine fn_sound tab_ok (gam_cons k_laws_eqCellS' gam_nil) mixed {} (fn := Tryz.f42) Tryz.func42 (by kernel_rfl) (by kernel_rfl) ?_
  rintro ⟨a0, b0, ⟨⟩⟩ K ⟨r, h, hK⟩
  change laws_eqLibrary a0 b0 = some r at h
  unfold laws_eqLibrary at h
  conv => whnf
  refine vBind h (fun eqCellS0 hb0 h => ?_)
  conv => whnf
  refine vNots ?_
  refine vIfB h (fun h => ?_) (fun h => ?_)
  · conv => whnf
    cases h
    exact hK
  · conv => whnf
    cases h
    exact hK
set_option maxRecDepth 100000 in
theorem w_laws_markPortS (k_laws_markText' : SoundC Tryz.prog 122 c_laws_markText) : SoundC Tryz.prog 91 c_laws_markPortS := by
  refine fn_sound tabD_ok (gam_cons k_laws_markText' gam_nil) mixed { loops := [(0, [.reg 1 (.dat (.int .i64)), .reg 5 (.dat (.int .i64)), .ent 0 (nat_lit 180) (.flat tPort)])] } (fn := Tryz.f91) Tryz.func91 (by kernel_rfl) (by kernel_rfl) ?_
  rintro ⟨a0, k0, ⟨⟩⟩ K ⟨r, h, hK⟩
  change laws_markPortS a0 k0 = some r at h
  unfold laws_markPortS at h
  conv => whnf
  refine vLoop h ?_
  rintro I0 μ0 ⟨k1, i0, l0, ⟨⟩⟩ zs0 h hI0 hR0
  change laws_markPortS_loop0 k1 i0 l0 = some zs0 at h
  unfold laws_markPortS_loop0 at h
  conv => whnf
  refine vIfD h (fun h => ?_) (fun h => ?_)
  · conv => whnf
    refine vBind h (fun markText0 hb1 h => ?_)
    conv => whnf
    refine vAt h (fun x0 he2a he2b he2x h => ?_)
    conv => whnf
    refine ⟨by kernel_rfl, ?_⟩
    conv => whnf
    refine ⟨by decide, ?_⟩
    conv => whnf
    refine ⟨he2a, he2b, vAgain he2x ?_⟩
    conv => whnf
    refine vAt h (fun x1 he3a he3b he3x h => ?_)
    conv => whnf
    refine ⟨by kernel_rfl, ?_⟩
    conv => whnf
    refine ⟨by decide, ?_⟩
    conv => whnf
    refine ⟨he3a, he3b, vAgain he3x ?_⟩
    conv => whnf
    refine vAt h (fun x2 he4a he4b he4x h => ?_)
    conv => whnf
    refine ⟨by kernel_rfl, ?_⟩
    conv => whnf
    refine ⟨by decide, ?_⟩
    conv => whnf
    refine ⟨he4a, he4b, vAgain he4x ?_⟩
    conv => whnf
    cases h
    exact ⟨⟨rfl, rfl⟩, hI0 _ rfl⟩
  · conv => whnf
    cases h
    obtain rfl := hR0 _ rfl
    exact hK
set_option maxRecDepth 100000 in
theorem w_laws_markText : SoundC Tryz.prog 122 c_laws_markText := by
  refine fn_sound tab_ok gam_nil mixed { loops := [(0, [.reg 0 (.dat (.int .i64)), .reg 3 (.dat (.str))])] } (fn := Tryz.f122) Tryz.func122 (by kernel_rfl) (by kernel_rfl) ?_
  rintro ⟨k0, ⟨⟩⟩ K ⟨r, h, hK⟩
  change laws_markText k0 = some r at h
  unfold laws_markText at h
  conv => whnf
  refine vIfD h (fun h => ?_) (fun h => ?_)
  · conv => whnf
    cases h
    exact hK
  · conv => whnf
    refine vLoop h ?_
    rintro I0 μ0 ⟨k1, out0, ⟨⟩⟩ zs0 h hI0 hR0
    change laws_markText_loop0 k1 out0 = some zs0 at h
    unfold laws_markText_loop0 at h
    conv => whnf
    refine vIfD h (fun h => ?_) (fun h => ?_)
    · conv => whnf
      refine ⟨by decide, ?_⟩
      conv => whnf
      refine vPre h (fun hp1 h => ?_)
      conv => whnf
      refine ⟨by decide, ?_⟩
      conv => whnf
      cases h
      exact ⟨⟨rfl, rfl⟩, hI0 _ rfl⟩
    · conv => whnf
      refine vPre h (fun hp2 h => ?_)
      conv => whnf
      cases h
      obtain rfl := hR0 _ rfl
      exact hK
set_option maxRecDepth 100000 in
theorem w_laws_markWireS (k_laws_markInt64S' : SoundC Tryz.prog 18 c_laws_markInt64S) : SoundC Tryz.prog 47 c_laws_markWireS := by
  refine fn_sound tabD_ok (gam_cons k_laws_markInt64S' gam_nil) mixed { loops := [(0, [.reg 1 (.dat (.int .i64)), .reg 5 (.dat (.int .i64)), .ent 0 (nat_lit 147) (Dp.pair (Dp.ol (2 : Go.TypeId) (Dp.flat (Ty.int IntKind.i64))) (Dp.pair (Dp.ol (2 : Go.TypeId) (Dp.flat (Ty.int IntKind.i64))) (Dp.pair (Dp.ol (2 : Go.TypeId) (Dp.flat (Ty.int IntKind.i64))) (Dp.pair (Dp.ol (2 : Go.TypeId) (Dp.flat (Ty.int IntKind.i64))) (Dp.flat Ty.unit)))))])] } (fn := Tryz.f47) Tryz.func47 (by kernel_rfl) (by kernel_rfl) ?_
  rintro ⟨a0, k0, ⟨⟩⟩ K ⟨r, h, hK⟩
  change laws_markWireS a0 k0 = some r at h
  unfold laws_markWireS at h
  conv => whnf
  intro fp0
  conv => whnf
  refine vLoop h ?_
  rintro I1 μ1 ⟨k1, i0, l0, ⟨⟩⟩ zs1 h hI1 hR1
  change laws_markWireS_loop0 k1 i0 l0 = some zs1 at h
  unfold laws_markWireS_loop0 at h
  conv => whnf
  intro fp2
  conv => whnf
  refine vIfD h (fun h => ?_) (fun h => ?_)
  · conv => whnf
    refine vAt h (fun x0 he3a he3b he3x h => ?_)
    conv => whnf
    refine ⟨he3a, he3b, vAgain he3x ?_⟩
    conv => whnf
    intro fp4
    conv => whnf
    refine vBind h (fun markInt64S0 hb5 h => ?_)
    conv => whnf
    refine ⟨he3a, he3b, vAgain he3x ?_⟩
    conv => whnf
    refine .inl ⟨rfl, ?_⟩
    conv => whnf
    refine vBind h (fun markInt64S1 hb6 h => ?_)
    conv => whnf
    refine ⟨he3a, he3b, vAgain he3x ?_⟩
    conv => whnf
    refine .inl ⟨rfl, ?_⟩
    conv => whnf
    refine vBind h (fun markInt64S2 hb7 h => ?_)
    conv => whnf
    refine ⟨he3a, he3b, vAgain he3x ?_⟩
    conv => whnf
    refine .inl ⟨rfl, ?_⟩
    conv => whnf
    refine vBind h (fun markInt64S3 hb8 h => ?_)
    conv => whnf
    cases h
    exact ⟨⟨rfl, rfl⟩, hI1 _ rfl⟩
  · conv => whnf
    cases h
    obtain rfl := hR1 _ rfl
    exact hK
set_option maxRecDepth 100000 in
theorem w_laws_szPortS (k_laws_szPort' : SoundC Tryz.prog 114 c_laws_szPort) : SoundC Tryz.prog 76 c_laws_szPortS := by
  refine fn_sound tab_ok (gam_cons k_laws_szPort' gam_nil) mixed { loops := [(0, [.reg 1 (.dat (.int .i64)), .reg 5 (.dat (.int .i64))])] } (fn := Tryz.f76) Tryz.func76 (by kernel_rfl) (by kernel_rfl) ?_
  rintro ⟨a0, left0, ⟨⟩⟩ K ⟨r, h, hK⟩
  change laws_szPortS a0 left0 = some r at h
  unfold laws_szPortS at h
  conv => whnf
  refine vIfD h (fun h => ?_) (fun h => ?_)
  · conv => whnf
    cases h
    exact hK
  · conv => whnf
    refine vLoop h ?_
    rintro I0 μ0 ⟨left1, i0, ⟨⟩⟩ zs0 h hI0 hR0
    change laws_szPortS_loop0 a0 left1 i0 = some zs0 at h
    unfold laws_szPortS_loop0 at h
    conv => whnf
    refine vIfD h (fun h => ?_) (fun h => ?_)
    · conv => whnf
      refine vAt h (fun x0 he1a he1b he1x h => ?_)
      conv => whnf
      refine vBind h (fun szPort0 hb2 h => ?_)
      conv => whnf
      refine vIfD h (fun h => ?_) (fun h => ?_)
      · conv => whnf
        cases h
        obtain rfl := hR0 _ rfl
        exact hK
      · conv => whnf
        cases h
        exact ⟨⟨rfl, rfl⟩, hI0 _ rfl⟩
    · conv => whnf
      cases h
      obtain rfl := hR0 _ rfl
      exact hK
set_option maxRecDepth 100000 in
theorem w_laws_szTable (k_laws_szInt64S' : SoundC Tryz.prog 115 c_laws_szInt64S) : SoundC Tryz.prog 192 c_laws_szTable := by
  refine fn_sound tab_ok (gam_cons k_laws_szInt64S' gam_nil) mixed {} (fn := Tryz.f192) Tryz.func192 (by kernel_rfl) (by kernel_rfl) ?_
  rintro ⟨a0, left0, ⟨⟩⟩ K ⟨r, h, hK⟩
  change laws_szTable a0 left0 = some r at h
  unfold laws_szTable at h
  conv => whnf
  refine vBind h (fun szInt64S0 hb0 h => ?_)
  conv => whnf
  refine vIfD h (fun h => ?_) (fun h => ?_)
  · conv => whnf
    cases h
    exact hK
  · conv => whnf
    refine vBind h (fun szInt64S1 hb1 h => ?_)
    conv => whnf
    refine vIfD h (fun h => ?_) (fun h => ?_)
    · conv => whnf
      cases h
      exact hK
    · conv => whnf
      refine vBind h (fun szInt64S2 hb2 h => ?_)
      conv => whnf
      refine vIfD h (fun h => ?_) (fun h => ?_)
      · conv => whnf
        cases h
        exact hK
      · conv => whnf
        cases h
        exact hK
set_option maxRecDepth 100000 in
theorem w_laws_toArc (k_laws_toTableS' : SoundC Tryz.prog 179 c_laws_toTableS) : SoundC Tryz.prog 166 c_laws_toArc := by
  refine fn_sound tabD_ok (gam_cons k_laws_toTableS' gam_nil) mixed {} (fn := Tryz.f166) Tryz.func166 (by kernel_rfl) (by kernel_rfl) ?_
  rintro ⟨a0, ⟨⟩⟩ K ⟨r, h, hK⟩
  change laws_toArc a0 = some r at h
  unfold laws_toArc at h
  conv => whnf
  refine vBind h (fun toTableS0 hb0 h => ?_)
  conv => whnf
  intro fp1
  conv => whnf
  refine vBind h (fun toTableS1 hb2 h => ?_)
  conv => whnf
  intro fp3
  conv => whnf
  cases h
  exact hK
set_option maxRecDepth 100000 in
theorem w_laws_toStringS : SoundC Tryz.prog 80 c_laws_toStringS := by
  refine fn_sound tab_ok gam_nil mixed { loops := [(0, [.reg 4 (.dat (.int .i64)), .ent 0 (nat_lit 9) (.flat ti28.ety)])] } (fn := Tryz.f80) Tryz.func80 (by kernel_rfl) (by kernel_rfl) ?_
  rintro ⟨a0, ⟨⟩⟩ K ⟨r, h, hK⟩
  change laws_toStringS a0 = some r at h
  unfold laws_toStringS at h
  conv => whnf
  refine vPre h (fun hp0 h => ?_)
  conv => whnf
  refine vPre h (fun hp1 h => ?_)
  conv => whnf
  refine vPre h (fun hp2 h => ?_)
  conv => whnf
  refine vPre h (fun hp3 h => ?_)
  conv => whnf
  refine vLoop h ?_
  rintro I4 μ4 ⟨i0, l0, ⟨⟩⟩ zs4 h hI4 hR4
  change laws_toStringS_loop0 a0 i0 l0 = some zs4 at h
  unfold laws_toStringS_loop0 at h
  conv => whnf
  refine vIfD h (fun h => ?_) (fun h => ?_)
  · conv => whnf
    refine vAt h (fun x0 he5a he5b he5x h => ?_)
    conv => whnf
    refine vAt h (fun x1 he6a he6b he6x h => ?_)
    conv => whnf
    refine ⟨by kernel_rfl, ?_⟩
    conv => whnf
    refine ⟨by decide, ?_⟩
    conv => whnf
    refine ⟨he6a, he6b, vAgain he6x ?_⟩
    conv => whnf
    cases h
    exact ⟨⟨rfl, rfl⟩, hI4 _ rfl⟩
  · conv => whnf
    cases h
    obtain rfl := hR4 _ rfl
    exact hK
set_option maxRecDepth 100000 in
theorem w_laws_toTableS (k_laws_toTable' : SoundC Tryz.prog 193 c_laws_toTable) : SoundC Tryz.prog 179 c_laws_toTableS := by
  refine fn_sound tabD_ok (gam_cons k_laws_toTable' gam_nil) mixed { loops := [(0, [.reg 4 (.dat (.int .i64)), .ent 0 (nat_lit 243) dTable])] } (fn := Tryz.f179) Tryz.func179 (by kernel_rfl) (by kernel_rfl) ?_
  rintro ⟨a0, ⟨⟩⟩ K ⟨r, h, hK⟩
  change laws_toTableS a0 = some r at h
  unfold laws_toTableS at h
  conv => whnf
  refine vPre h (fun hp0 h => ?_)
  conv => whnf
  refine vPre h (fun hp1 h => ?_)
  conv => whnf
  refine vPre h (fun hp2 h => ?_)
  conv => whnf
  refine vPre h (fun hp3 h => ?_)
  conv => whnf
  intro fp4
  conv => whnf
  refine vLoop h ?_
  rintro I5 μ5 ⟨i0, l0, ⟨⟩⟩ zs5 h hI5 hR5
  change laws_toTableS_loop0 a0 i0 l0 = some zs5 at h
  unfold laws_toTableS_loop0 at h
  conv => whnf
  intro fp6
  conv => whnf
  refine vIfD h (fun h => ?_) (fun h => ?_)
  · conv => whnf
    refine vAt h (fun x0 he7a he7b he7x h => ?_)
    conv => whnf
    refine vBind h (fun toTable0 hb8 h => ?_)
    conv => whnf
    refine vAt h (fun x1 he9a he9b he9x h => ?_)
    conv => whnf
    refine ⟨he9a, he9b, vAgain he9x ?_⟩
    conv => whnf
    intro fp10
    conv => whnf
    cases h
    exact ⟨⟨rfl, rfl⟩, hI5 _ rfl⟩
  · conv => whnf
    cases h
    obtain rfl := hR5 _ rfl
    exact hK
set_option maxRecDepth 100000 in
theorem w_slices_ContainsFunc_Simpl_Arc_impl_Arc_at_impl_Cell_areArcs_c1 (k_slices_IndexFunc_Simpl_Arc_impl_Arc_at_impl_Cell_areArcs_c1' : SoundC Tryz.prog 209 c_slices_IndexFunc_Simpl_Arc_impl_Arc_at_impl_Cell_areArcs_c1) : SoundC Tryz.prog 187 c_slices_ContainsFunc_Simpl_Arc_impl_Arc_at_impl_Cell_areArcs_c1 := by
  refine fn_sound tab_ok (gam_cons k_slices_IndexFunc_Simpl_Arc_impl_Arc_at_impl_Cell_areArcs_c1' gam_nil) mixed {} (fn := Tryz.f187) Tryz.func187 (by kernel_rfl) (by kernel_rfl) ?_
  rintro ⟨s0, f0, ⟨⟩⟩ K ⟨r, h, hK⟩
  change slices_ContainsFunc_Simpl_Arc_impl_Arc_at_impl_Cell_areArcs_c1 s0 f0 = some r at h
  unfold slices_ContainsFunc_Simpl_Arc_impl_Arc_at_impl_Cell_areArcs_c1 at h
  conv => whnf
  refine vBind h (fun c1_0 hb0 h => ?_)
  conv => whnf
  cases h
  exact hK
set_option maxRecDepth 100000 in
theorem w_slices_IndexFunc_Simpl_Arc_impl_Arc_at_impl_Cell_areArcs_c1 (k_impl_Cell_areArcs_c1' : SoundC Tryz.prog 188 c_impl_Cell_areArcs_c1) : SoundC Tryz.prog 209 c_slices_IndexFunc_Simpl_Arc_impl_Arc_at_impl_Cell_areArcs_c1 := by
  refine fn_sound tab_ok (gam_cons k_impl_Cell_areArcs_c1' gam_nil) mixed { loops := [(0, [.reg 8 (.dat (.int .i64))])] } (fn := Tryz.f209) Tryz.func209 (by kernel_rfl) (by kernel_rfl) ?_
  rintro ⟨s0, f0, ⟨⟩⟩ K ⟨r, h, hK⟩
  change slices_IndexFunc_Simpl_Arc_impl_Arc_at_impl_Cell_areArcs_c1 s0 f0 = some r at h
  unfold slices_IndexFunc_Simpl_Arc_impl_Arc_at_impl_Cell_areArcs_c1 at h
  conv => whnf
  refine vLoop h ?_
  rintro I0 μ0 ⟨v0, ⟨⟩⟩ zs0 h hI0 hR0
  change slices_IndexFunc_Simpl_Arc_impl_Arc_at_impl_Cell_areArcs_c1_loop0 s0 f0 v0 = some zs0 at h
  unfold slices_IndexFunc_Simpl_Arc_impl_Arc_at_impl_Cell_areArcs_c1_loop0 at h
  conv => whnf
  refine vIfD h (fun h => ?_) (fun h => ?_)
  · conv => whnf
    refine vAt h (fun x0 he1a he1b he1x h => ?_)
    conv => whnf
    refine vBind h (fun c1_0 hb2 h => ?_)
    conv => whnf
    refine vIfB h (fun h => ?_) (fun h => ?_)
    · conv => whnf
      cases h
      obtain rfl := hR0 _ rfl
      exact hK
    · conv => whnf
      cases h
      exact ⟨⟨rfl, rfl⟩, hI0 _ rfl⟩
  · conv => whnf
    cases h
    obtain rfl := hR0 _ rfl
    exact hK
set_option maxRecDepth 100000 in
theorem w_slices_IndexFunc_Sint64_int64_at_impl_areWithin_c1 (k_impl_areWithin_c1' : SoundC Tryz.prog 108 c_impl_areWithin_c1) : SoundC Tryz.prog 145 c_slices_IndexFunc_Sint64_int64_at_impl_areWithin_c1 := by
  refine fn_sound tab_ok (gam_cons k_impl_areWithin_c1' gam_nil) mixed { loops := [(0, [.reg 8 (.dat (.int .i64))])] } (fn := Tryz.f145) Tryz.func145 (by kernel_rfl) (by kernel_rfl) ?_
  rintro ⟨s0, f0, ⟨⟩⟩ K ⟨r, h, hK⟩
  change slices_IndexFunc_Sint64_int64_at_impl_areWithin_c1 s0 f0 = some r at h
  unfold slices_IndexFunc_Sint64_int64_at_impl_areWithin_c1 at h
  conv => whnf
  refine vLoop h ?_
  rintro I0 μ0 ⟨v0, ⟨⟩⟩ zs0 h hI0 hR0
  change slices_IndexFunc_Sint64_int64_at_impl_areWithin_c1_loop0 s0 f0 v0 = some zs0 at h
  unfold slices_IndexFunc_Sint64_int64_at_impl_areWithin_c1_loop0 at h
  conv => whnf
  refine vIfD h (fun h => ?_) (fun h => ?_)
  · conv => whnf
    refine vAt h (fun x0 he1a he1b he1x h => ?_)
    conv => whnf
    refine vBind h (fun c1_0 hb2 h => ?_)
    conv => whnf
    refine vIfB h (fun h => ?_) (fun h => ?_)
    · conv => whnf
      cases h
      obtain rfl := hR0 _ rfl
      exact hK
    · conv => whnf
      cases h
      exact ⟨⟨rfl, rfl⟩, hI0 _ rfl⟩
  · conv => whnf
    cases h
    obtain rfl := hR0 _ rfl
    exact hK
set_option maxRecDepth 100000 in
theorem w_spec_l01In : SoundC Tryz.prog 111 c_spec_l01In := by
  refine fn_sound tab_ok gam_nil mixed {} (fn := Tryz.f111) Tryz.func111 (by kernel_rfl) (by kernel_rfl) ?_
  rintro ⟨n0, low0, high0, ⟨⟩⟩ K ⟨r, h, hK⟩
  change spec_l01In n0 low0 high0 = some r at h
  unfold spec_l01In at h
  conv => whnf
  refine vIfD h (fun h => ?_) (fun h => ?_)
  · conv => whnf
    cases h
    exact hK
  · conv => whnf
    cases h
    exact hK
set_option maxRecDepth 100000 in
theorem w_spec_l03Pins (k_spec_l03Name' : SoundC Tryz.prog 156 c_spec_l03Name) (k_spec_l01In' : SoundC Tryz.prog 111 c_spec_l01In) : SoundC Tryz.prog 170 c_spec_l03Pins := by
  refine fn_sound tab_ok (gam_cons k_spec_l03Name' (gam_cons k_spec_l01In' gam_nil)) mixed { loops := [(0, [.reg 5 (.dat (.int .i64)), .reg 6 (.dat (.int .i64))]), (2, [.reg 8 (.dat (.int .i64))])], draws := [(12, [0, 1, 0, 7, 15, 31, 0, 64, 255], .op 0 (.op 1 (.op 2 (.op 3 (.op 4 (.op 5 (.op 6 (.op 7 (.op 8 (.done))))))))))] } (fn := Tryz.f170) Tryz.func170 (by kernel_rfl) (by kernel_rfl) ?_
  rintro ⟨a0, ⟨⟩⟩ K ⟨r, h, hK⟩
  change spec_l03Pins a0 = some r at h
  unfold spec_l03Pins at h
  conv => whnf
  refine vIfDs h (fun h => ?_) (fun h => ?_)
  · conv => whnf
    cases h
    exact hK
  · conv => whnf
    refine vIfD h (fun h => ?_) (fun h => ?_)
    · conv => whnf
      cases h
      exact hK
    · conv => whnf
      refine vLoop h ?_
      rintro I0 μ0 ⟨v0, v1, ⟨⟩⟩ zs0 h hI0 hR0
      change spec_l03Pins_loop1 a0 v0 v1 = some zs0 at h
      unfold spec_l03Pins_loop1 at h
      conv => whnf
      refine vIfD h (fun h => ?_) (fun h => ?_)
      · conv => whnf
        refine vAt h (fun x0 he1a he1b he1x h => ?_)
        conv => whnf
        refine vLoop h ?_
        rintro I2 μ2 ⟨v2, ⟨⟩⟩ zs2 h hI2 hR2
        change spec_l03Pins_loop0 a0 v0 v1 x0 v2 = some zs2 at h
        unfold spec_l03Pins_loop0 at h
        conv => whnf
        refine vIfD h (fun h => ?_) (fun h => ?_)
        · conv => whnf
          refine ⟨by kernel_rfl, ?_⟩
          conv => whnf
          refine vAt h (fun x1 he3a he3b he3x h => ?_)
          conv => whnf
          refine vIfD h (fun h => ?_) (fun h => ?_)
          · conv => whnf
            cases h
            obtain rfl := hR2 _ rfl
            obtain rfl := hR0 _ rfl
            exact hK
          · conv => whnf
            cases h
            exact ⟨⟨rfl, rfl⟩, hI2 _ rfl⟩
        · conv => whnf
          refine vBind h (fun l03Name0 hb4 h => ?_)
          conv => whnf
          refine vNot ?_
          refine vIfB h (fun h => ?_) (fun h => ?_)
          · conv => whnf
            refine vBind h (fun l01In0 hb5 h => ?_)
            conv => whnf
            refine vNots ?_
            refine vIfB h (fun h => ?_) (fun h => ?_)
            · conv => whnf
              refine vIfD h (fun h => ?_) (fun h => ?_)
              · conv => whnf
                refine vNot ?_
                refine vIfD h (fun h => ?_) (fun h => ?_)
                · conv => whnf
                  refine vNot ?_
                  refine vIfD h (fun h => ?_) (fun h => ?_)
                  · conv => whnf
                    refine vIfBs h (fun h => ?_) (fun h => ?_)
                    · conv => whnf
                      cases h
                      obtain rfl := hR2 _ rfl
                      obtain rfl := hR0 _ rfl
                      exact hK
                    · conv => whnf
                      refine vIfD h (fun h => ?_) (fun h => ?_)
                      · conv => whnf
                        refine vNots ?_
                        refine vIfD h (fun h => ?_) (fun h => ?_)
                        · conv => whnf
                          refine vIfB h (fun h => ?_) (fun h => ?_)
                          · conv => whnf
                            cases h
                            obtain rfl := hR2 _ rfl
                            exact ⟨⟨rfl, rfl⟩, hI0 _ rfl⟩
                          · conv => whnf
                            cases h
                            obtain rfl := hR2 _ rfl
                            exact ⟨⟨rfl, rfl⟩, hI0 _ rfl⟩
                        · conv => whnf
                          cases h
                          obtain rfl := hR2 _ rfl
                          obtain rfl := hR0 _ rfl
                          exact hK
                      · conv => whnf
                        refine vIfB h (fun h => ?_) (fun h => ?_)
                        · conv => whnf
                          cases h
                          obtain rfl := hR2 _ rfl
                          exact ⟨⟨rfl, rfl⟩, hI0 _ rfl⟩
                        · conv => whnf
                          cases h
                          obtain rfl := hR2 _ rfl
                          exact ⟨⟨rfl, rfl⟩, hI0 _ rfl⟩
                  · conv => whnf
                    cases h
                    obtain rfl := hR2 _ rfl
                    obtain rfl := hR0 _ rfl
                    exact hK
                · conv => whnf
                  cases h
                  obtain rfl := hR2 _ rfl
                  obtain rfl := hR0 _ rfl
                  exact hK
              · conv => whnf
                refine vIfD h (fun h => ?_) (fun h => ?_)
                · conv => whnf
                  refine vNots ?_
                  refine vIfD h (fun h => ?_) (fun h => ?_)
                  · conv => whnf
                    refine vIfB h (fun h => ?_) (fun h => ?_)
                    · conv => whnf
                      cases h
                      obtain rfl := hR2 _ rfl
                      exact ⟨⟨rfl, rfl⟩, hI0 _ rfl⟩
                    · conv => whnf
                      cases h
                      obtain rfl := hR2 _ rfl
                      exact ⟨⟨rfl, rfl⟩, hI0 _ rfl⟩
                  · conv => whnf
                    cases h
                    obtain rfl := hR2 _ rfl
                    obtain rfl := hR0 _ rfl
                    exact hK
                · conv => whnf
                  refine vIfB h (fun h => ?_) (fun h => ?_)
                  · conv => whnf
                    cases h
                    obtain rfl := hR2 _ rfl
                    exact ⟨⟨rfl, rfl⟩, hI0 _ rfl⟩
                  · conv => whnf
                    cases h
                    obtain rfl := hR2 _ rfl
                    exact ⟨⟨rfl, rfl⟩, hI0 _ rfl⟩
            · conv => whnf
              cases h
              obtain rfl := hR2 _ rfl
              obtain rfl := hR0 _ rfl
              exact hK
          · conv => whnf
            cases h
            obtain rfl := hR2 _ rfl
            obtain rfl := hR0 _ rfl
            exact hK
      · conv => whnf
        cases h
        obtain rfl := hR0 _ rfl
        exact hK
end Go.Proofs.YtenpdmpfepgkjaaGreatDoor
