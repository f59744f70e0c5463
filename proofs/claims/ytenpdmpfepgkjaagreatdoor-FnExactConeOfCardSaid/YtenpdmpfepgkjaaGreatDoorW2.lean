/-
  The functions keep their contracts, if what they call does. Printed by program.
-/
import Derived.Test.YtenpdmpfepgkjaaGreatDoorM
import Derived.KernelRfl
namespace Go.Proofs.YtenpdmpfepgkjaaGreatDoor
open Go Go.Sx
set_option maxRecDepth 100000
set_option linter.unusedVariables false
set_option linter.unusedSimpArgs false
set_option maxRecDepth 100000 in
theorem w_impl_Block_cellLinks (k_impl_Arc_transitions' : SoundC Tryz.prog 141 c_impl_Arc_transitions) : SoundC Tryz.prog 102 c_impl_Block_cellLinks := by
  refine fn_sound tab_ok (gam_cons k_impl_Arc_transitions' gam_nil) mixed { loops := [(0, [.reg 7 (.own (.ol 117 (.flat (tLink)))), .reg 21 (.dat (.int .i64))]), (2, [.reg 7 (.own (.ol 117 (.flat (tLink)))), .reg 29 (.dat (.int .i64))])] } (fn := Tryz.f102) Tryz.func102 (by kernel_rfl) (by kernel_rfl) ?_
  rintro ⟨b0, x0, first0, ⟨⟩⟩ K ⟨r, h, hK⟩
  change impl_Block_cellLinks b0 x0 first0 = some r at h
  unfold impl_Block_cellLinks at h
  conv => whnf
  refine vAt h (fun x1 he0a he0b he0x h => ?_)
  conv => whnf
  refine vLoop h ?_
  rintro I1 μ1 ⟨list0, v0, ⟨⟩⟩ zs1 h hI1 hR1
  change impl_Block_cellLinks_loop1 first0 x1 list0 v0 = some zs1 at h
  unfold impl_Block_cellLinks_loop1 at h
  conv => whnf
  refine vIfD h (fun h => ?_) (fun h => ?_)
  · conv => whnf
    refine vAt h (fun x2 he2a he2b he2x h => ?_)
    conv => whnf
    refine vBind h (fun transitions0 hb3 h => ?_)
    conv => whnf
    refine vLoop h ?_
    rintro I4 μ4 ⟨list1, v1, ⟨⟩⟩ zs4 h hI4 hR4
    change impl_Block_cellLinks_loop0 first0 v0 x2 transitions0 list1 v1 = some zs4 at h
    unfold impl_Block_cellLinks_loop0 at h
    conv => whnf
    refine vIfD h (fun h => ?_) (fun h => ?_)
    · conv => whnf
      refine vAt h (fun x3 he5a he5b he5x h => ?_)
      conv => whnf
      refine ⟨by kernel_rfl, ?_⟩
      conv => whnf
      refine ⟨he5a, he5b, vAgain he5x ?_⟩
      conv => whnf
      refine vPre h (fun hp6 h => ?_)
      conv => whnf
      cases h
      exact ⟨⟨rfl, rfl⟩, hI4 _ rfl⟩
    · conv => whnf
      cases h
      obtain rfl := hR4 _ rfl
      exact ⟨⟨rfl, rfl⟩, hI1 _ rfl⟩
  · conv => whnf
    cases h
    obtain rfl := hR1 _ rfl
    exact hK
set_option maxRecDepth 100000 in
theorem w_impl_Block_exactDelays (k_impl_Block_nodeDelays' : SoundC Tryz.prog 144 c_impl_Block_nodeDelays) : SoundC Tryz.prog 105 c_impl_Block_exactDelays := by
  refine fn_sound tab_ok (gam_cons k_impl_Block_nodeDelays' gam_nil) mixed { loops := [(0, [.reg 6 (.own (.ol 2 (.flat (.int .i64)))), .reg 19 (.dat (.int .i64))])] } (fn := Tryz.f105) Tryz.func105 (by kernel_rfl) (by kernel_rfl) ?_
  rintro ⟨b0, net0, ⟨⟩⟩ K ⟨r, h, hK⟩
  change impl_Block_exactDelays b0 net0 = some r at h
  unfold impl_Block_exactDelays at h
  conv => whnf
  refine vBind h (fun nodeDelays0 hb0 h => ?_)
  conv => whnf
  refine vAt h (fun x0 he1a he1b he1x h => ?_)
  conv => whnf
  refine vLoop h ?_
  rintro I2 μ2 ⟨out0, v0, ⟨⟩⟩ zs2 h hI2 hR2
  change impl_Block_exactDelays_loop0 nodeDelays0 x0 out0 v0 = some zs2 at h
  unfold impl_Block_exactDelays_loop0 at h
  conv => whnf
  refine vIfD h (fun h => ?_) (fun h => ?_)
  · conv => whnf
    refine vAt h (fun x1 he3a he3b he3x h => ?_)
    conv => whnf
    refine vAt h (fun x2 he4a he4b he4x h => ?_)
    conv => whnf
    refine ⟨by kernel_rfl, ?_⟩
    conv => whnf
    refine ⟨he4a, he4b, vAgain he4x ?_⟩
    conv => whnf
    refine vPre h (fun hp5 h => ?_)
    conv => whnf
    cases h
    exact ⟨⟨rfl, rfl⟩, hI2 _ rfl⟩
  · conv => whnf
    cases h
    obtain rfl := hR2 _ rfl
    exact hK
set_option maxRecDepth 100000 in
theorem w_impl_areWithin (k_slices_ContainsFunc_Sint64_int64_at_impl_areWithin_c1' : SoundC Tryz.prog 107 c_slices_ContainsFunc_Sint64_int64_at_impl_areWithin_c1) : SoundC Tryz.prog 60 c_impl_areWithin := by
  refine fn_sound tab_ok (gam_cons k_slices_ContainsFunc_Sint64_int64_at_impl_areWithin_c1' gam_nil) mixed {} (fn := Tryz.f60) Tryz.func60 (by kernel_rfl) (by kernel_rfl) ?_
  rintro ⟨list0, low0, high0, ⟨⟩⟩ K ⟨r, h, hK⟩
  change impl_areWithin list0 low0 high0 = some r at h
  unfold impl_areWithin at h
  conv => whnf
  refine vBind h (fun c1_0 hb0 h => ?_)
  conv => whnf
  cases h
  exact hK
set_option maxRecDepth 100000 in
theorem w_impl_areWithin_c1 (k_impl_within' : SoundC Tryz.prog 109 c_impl_within) : SoundC Tryz.prog 108 c_impl_areWithin_c1 := by
  refine fn_sound tab_ok (gam_cons k_impl_within' gam_nil) mixed {} (fn := Tryz.f108) Tryz.func108 (by kernel_rfl) (by kernel_rfl) ?_
  rintro ⟨n0, a0, a1, ⟨⟩⟩ K ⟨r, h, hK⟩
  change impl_areWithin_c1 n0 a0 a1 = some r at h
  unfold impl_areWithin_c1 at h
  conv => whnf
  refine vBind h (fun within0 hb0 h => ?_)
  conv => whnf
  cases h
  exact hK
set_option maxRecDepth 100000 in
theorem w_impl_graph_reach_at_impl_forward (k_impl_view_nodes' : SoundC Tryz.prog 61 c_impl_view_nodes) (k_impl_forward' : SoundC Tryz.prog 27 c_impl_forward) (k_slices_Clone_Sint64_int64' : SoundC Tryz.prog 63 c_slices_Clone_Sint64_int64) : SoundC Tryz.prog 26 c_impl_graph_reach_at_impl_forward := by
  refine fn_sound tabC_ok (gam_cons k_impl_view_nodes' (gam_cons k_impl_forward' (gam_cons k_slices_Clone_Sint64_int64' gam_nil))) mixed { loops := [(0, [.reg 29 (.dat (.int .i64)), .ent 0 (nat_lit 35) (Dp.ol (2 : Go.TypeId) (Dp.flat (Ty.int IntKind.i64)))]), (2, [.reg 13 (.own (.ol 2 (.flat (.int .i64)))), .ent 0 (nat_lit 35) (Dp.ol (2 : Go.TypeId) (Dp.flat (Ty.int IntKind.i64))), .ent 1 (nat_lit 4) (.flat tiC73.ety)])] } (fn := Tryz.f26) Tryz.func26 (by kernel_rfl) (by kernel_rfl) ?_
  rintro ⟨a0, a1, a2, ⟨⟩⟩ K ⟨r, h, hK⟩
  change impl_graph_reach_at_impl_forward a0 a1 a2 = some r at h
  unfold impl_graph_reach_at_impl_forward at h
  conv => whnf
  refine vBind h (fun nodes0 hb0 h => ?_)
  conv => whnf
  refine vPre h (fun hp1 h => ?_)
  conv => whnf
  refine vPre h (fun hp2 h => ?_)
  conv => whnf
  refine vPre h (fun hp3 h => ?_)
  conv => whnf
  refine vPre h (fun hp4 h => ?_)
  conv => whnf
  intro fp5
  conv => whnf
  refine vLoop h ?_
  rintro I6 μ6 ⟨v0, l0, ⟨⟩⟩ zs6 h hI6 hR6
  change impl_graph_reach_at_impl_forward_loop1 a0 a1 nodes0 v0 l0 = some zs6 at h
  unfold impl_graph_reach_at_impl_forward_loop1 at h
  conv => whnf
  intro fp7
  conv => whnf
  refine vIfD h (fun h => ?_) (fun h => ?_)
  · conv => whnf
    refine vAt h (fun x0 he8a he8b he8x h => ?_)
    conv => whnf
    refine vBind h (fun forward0 hb9 h => ?_)
    conv => whnf
    refine vAt h (fun x1 he10a he10b he10x h => ?_)
    conv => whnf
    refine vIfB h (fun h => ?_) (fun h => ?_)
    · conv => whnf
      refine vAt h (fun x2 he11a he11b he11x h => ?_)
      conv => whnf
      refine ⟨he11a, he11b, vAgain he11x ?_⟩
      conv => whnf
      intro fp12
      conv => whnf
      refine vPre h (fun hp13 h => ?_)
      conv => whnf
      refine ⟨he11a, he11b, vAgain he11x ?_⟩
      conv => whnf
      refine .inl ⟨rfl, ?_⟩
      conv => whnf
      cases h
      exact ⟨⟨rfl, rfl⟩, hI6 _ rfl⟩
    · conv => whnf
      cases h
      exact ⟨⟨rfl, rfl⟩, hI6 _ rfl⟩
  · conv => whnf
    refine ⟨_, hb0, ?_⟩
    conv => whnf
    refine ⟨hp1, ?_⟩
    conv => whnf
    refine ⟨hp2, ?_⟩
    conv => whnf
    refine ⟨hp3, ?_⟩
    conv => whnf
    refine vPre h (fun hp14 h => ?_)
    conv => whnf
    refine vBind h (fun int64_0 hb15 h => ?_)
    conv => whnf
    refine vLoop h ?_
    rintro I16 μ16 ⟨v1, l1, l2, ⟨⟩⟩ zs16 h hI16 hR16
    change impl_graph_reach_at_impl_forward_loop0 v1 l1 l2 = some zs16 at h
    unfold impl_graph_reach_at_impl_forward_loop0 at h
    conv => whnf
    intro fp17
    conv => whnf
    refine vIfD h (fun h => ?_) (fun h => ?_)
    · conv => whnf
      refine vAt h (fun x0 he18a he18b he18x h => ?_)
      conv => whnf
      refine ⟨by kernel_rfl, ?_⟩
      conv => whnf
      refine ⟨he18a, he18b, vAgain he18x ?_⟩
      conv => whnf
      refine ⟨by decide, ?_⟩
      conv => whnf
      refine vPre h (fun hp19 h => ?_)
      conv => whnf
      refine vPre h (fun hp20 h => ?_)
      conv => whnf
      refine vAt h (fun x1 he21a he21b he21x h => ?_)
      conv => whnf
      refine ⟨by kernel_rfl, ?_⟩
      conv => whnf
      refine ⟨he21a, he21b, vAgain he21x ?_⟩
      conv => whnf
      refine vNots ?_
      refine vIfB h (fun h => ?_) (fun h => ?_)
      · conv => whnf
        cases h
        exact ⟨⟨rfl, rfl⟩, hI16 _ rfl⟩
      · conv => whnf
        refine ⟨he21a, he21b, vAgain he21x ?_⟩
        conv => whnf
        refine ⟨by kernel_rfl, ?_⟩
        conv => whnf
        refine ⟨by decide, ?_⟩
        conv => whnf
        refine ⟨he21a, he21b, vAgain he21x ?_⟩
        conv => whnf
        refine vAt h (fun x2 he22a he22b he22x h => ?_)
        conv => whnf
        refine ⟨he22a, he22b, vAgain he22x ?_⟩
        conv => whnf
        intro fp23
        conv => whnf
        refine vPre h (fun hp24 h => ?_)
        conv => whnf
        cases h
        exact ⟨⟨rfl, rfl⟩, hI16 _ rfl⟩
    · conv => whnf
      cases h
      obtain rfl := hR16 _ rfl
      obtain rfl := hR6 _ rfl
      exact hK
set_option maxRecDepth 100000 in
theorem w_impl_isName (k_impl_within' : SoundC Tryz.prog 109 c_impl_within) (k_strings_Trim' : SoundC Tryz.prog 183 c_strings_Trim) (k_strings_IndexByte' : SoundC Tryz.prog 184 c_strings_IndexByte) : SoundC Tryz.prog 173 c_impl_isName := by
  refine fn_sound tab_ok (gam_cons k_impl_within' (gam_cons k_strings_Trim' (gam_cons k_strings_IndexByte' gam_nil))) mixed {} (fn := Tryz.f173) Tryz.func173 (by kernel_rfl) (by kernel_rfl) ?_
  rintro ⟨s0, ⟨⟩⟩ K ⟨r, h, hK⟩
  change impl_isName s0 = some r at h
  unfold impl_isName at h
  conv => whnf
  refine vBind h (fun within0 hb0 h => ?_)
  conv => whnf
  refine vIfB h (fun h => ?_) (fun h => ?_)
  · conv => whnf
    refine vPre h (fun hp1 h => ?_)
    conv => whnf
    refine ⟨by decide, ?_⟩
    conv => whnf
    refine ⟨by kernel_rfl, ?_⟩
    conv => whnf
    refine vIfD h (fun h => ?_) (fun h => ?_)
    · conv => whnf
      refine vAt h (fun x0 he2a he2b he2x h => ?_)
      conv => whnf
      cases h
      exact hK
    · conv => whnf
      cases h
      exact hK
  · conv => whnf
    cases h
    exact hK
set_option maxRecDepth 100000 in
theorem w_impl_length_impl_Cell : SoundC Tryz.prog 159 c_impl_length_impl_Cell := by
  refine fn_sound tab_ok gam_nil mixed {} (fn := Tryz.f159) Tryz.func159 (by kernel_rfl) (by kernel_rfl) ?_
  rintro ⟨list0, ⟨⟩⟩ K ⟨r, h, hK⟩
  change impl_length_impl_Cell list0 = some r at h
  unfold impl_length_impl_Cell at h
  conv => whnf
  cases h
  exact hK
set_option maxRecDepth 100000 in
theorem w_impl_length_impl_place : SoundC Tryz.prog 110 c_impl_length_impl_place := by
  refine fn_sound tab_ok gam_nil mixed {} (fn := Tryz.f110) Tryz.func110 (by kernel_rfl) (by kernel_rfl) ?_
  rintro ⟨list0, ⟨⟩⟩ K ⟨r, h, hK⟩
  change impl_length_impl_place list0 = some r at h
  unfold impl_length_impl_place at h
  conv => whnf
  cases h
  exact hK
set_option maxRecDepth 100000 in
theorem w_impl_view_areNodes (k_impl_view_nodes' : SoundC Tryz.prog 61 c_impl_view_nodes) (k_impl_areWithin' : SoundC Tryz.prog 60 c_impl_areWithin) (k_impl_isIncreasing' : SoundC Tryz.prog 62 c_impl_isIncreasing) : SoundC Tryz.prog 24 c_impl_view_areNodes := by
  refine fn_sound tab_ok (gam_cons k_impl_view_nodes' (gam_cons k_impl_areWithin' (gam_cons k_impl_isIncreasing' gam_nil))) mixed {} (fn := Tryz.f24) Tryz.func24 (by kernel_rfl) (by kernel_rfl) ?_
  rintro ⟨v0, list0, ⟨⟩⟩ K ⟨r, h, hK⟩
  change impl_view_areNodes v0 list0 = some r at h
  unfold impl_view_areNodes at h
  conv => whnf
  refine vBind h (fun nodes0 hb0 h => ?_)
  conv => whnf
  refine vBind h (fun areWithin0 hb1 h => ?_)
  conv => whnf
  refine vIfB h (fun h => ?_) (fun h => ?_)
  · conv => whnf
    refine vBind h (fun isIncreasing0 hb2 h => ?_)
    conv => whnf
    cases h
    exact hK
  · conv => whnf
    cases h
    exact hK
set_option maxRecDepth 100000 in
theorem w_laws_eqDesign (k_laws_eqInstanceS' : SoundC Tryz.prog 84 c_laws_eqInstanceS) (k_laws_eqStringS' : SoundC Tryz.prog 85 c_laws_eqStringS) (k_laws_eqPortS' : SoundC Tryz.prog 86 c_laws_eqPortS) : SoundC Tryz.prog 43 c_laws_eqDesign := by
  refine fn_sound tab_ok (gam_cons k_laws_eqInstanceS' (gam_cons k_laws_eqStringS' (gam_cons k_laws_eqPortS' gam_nil))) mixed {} (fn := Tryz.f43) Tryz.func43 (by kernel_rfl) (by kernel_rfl) ?_
  rintro ⟨a0, b0, ⟨⟩⟩ K ⟨r, h, hK⟩
  change laws_eqDesign a0 b0 = some r at h
  unfold laws_eqDesign at h
  conv => whnf
  refine vBind h (fun eqInstanceS0 hb0 h => ?_)
  conv => whnf
  refine vNots ?_
  refine vIfB h (fun h => ?_) (fun h => ?_)
  · conv => whnf
    refine vBind h (fun eqStringS0 hb1 h => ?_)
    conv => whnf
    refine vNots ?_
    refine vIfB h (fun h => ?_) (fun h => ?_)
    · conv => whnf
      refine vBind h (fun eqPortS0 hb2 h => ?_)
      conv => whnf
      refine vNots ?_
      refine vIfB h (fun h => ?_) (fun h => ?_)
      · conv => whnf
        cases h
        exact hK
      · conv => whnf
        cases h
        exact hK
    · conv => whnf
      cases h
      exact hK
  · conv => whnf
    cases h
    exact hK
set_option maxRecDepth 100000 in
theorem w_laws_eqPin : SoundC Tryz.prog 167 c_laws_eqPin := by
  refine fn_sound tab_ok gam_nil mixed {} (fn := Tryz.f167) Tryz.func167 (by kernel_rfl) (by kernel_rfl) ?_
  rintro ⟨a0, b0, ⟨⟩⟩ K ⟨r, h, hK⟩
  change laws_eqPin a0 b0 = some r at h
  unfold laws_eqPin at h
  conv => whnf
  refine vNots ?_
  refine vIfD h (fun h => ?_) (fun h => ?_)
  · conv => whnf
    refine vNots ?_
    refine vIfD h (fun h => ?_) (fun h => ?_)
    · conv => whnf
      refine vNots ?_
      refine vIfD h (fun h => ?_) (fun h => ?_)
      · conv => whnf
        refine vNots ?_
        refine vIfB h (fun h => ?_) (fun h => ?_)
        · conv => whnf
          cases h
          exact hK
        · conv => whnf
          cases h
          exact hK
      · conv => whnf
        cases h
        exact hK
    · conv => whnf
      cases h
      exact hK
  · conv => whnf
    cases h
    exact hK
set_option maxRecDepth 100000 in
theorem w_laws_eqWire (k_laws_eqInt64S' : SoundC Tryz.prog 15 c_laws_eqInt64S) : SoundC Tryz.prog 87 c_laws_eqWire := by
  refine fn_sound tab_ok (gam_cons k_laws_eqInt64S' gam_nil) mixed {} (fn := Tryz.f87) Tryz.func87 (by kernel_rfl) (by kernel_rfl) ?_
  rintro ⟨a0, b0, ⟨⟩⟩ K ⟨r, h, hK⟩
  change laws_eqWire a0 b0 = some r at h
  unfold laws_eqWire at h
  conv => whnf
  refine vBind h (fun eqInt64S0 hb0 h => ?_)
  conv => whnf
  refine vNots ?_
  refine vIfB h (fun h => ?_) (fun h => ?_)
  · conv => whnf
    refine vBind h (fun eqInt64S1 hb1 h => ?_)
    conv => whnf
    refine vNots ?_
    refine vIfB h (fun h => ?_) (fun h => ?_)
    · conv => whnf
      refine vBind h (fun eqInt64S2 hb2 h => ?_)
      conv => whnf
      refine vNots ?_
      refine vIfB h (fun h => ?_) (fun h => ?_)
      · conv => whnf
        refine vBind h (fun eqInt64S3 hb3 h => ?_)
        conv => whnf
        refine vNots ?_
        refine vIfB h (fun h => ?_) (fun h => ?_)
        · conv => whnf
          cases h
          exact hK
        · conv => whnf
          cases h
          exact hK
      · conv => whnf
        cases h
        exact hK
    · conv => whnf
      cases h
      exact hK
  · conv => whnf
    cases h
    exact hK
set_option maxRecDepth 100000 in
theorem w_laws_eqWireS (k_laws_eqWire' : SoundC Tryz.prog 87 c_laws_eqWire) : SoundC Tryz.prog 44 c_laws_eqWireS := by
  refine fn_sound tab_ok (gam_cons k_laws_eqWire' gam_nil) mixed { loops := [(0, [.reg 5 (.dat (.int .i64))])], draws := [(6, [0, 0, 3, 7, 0, 0, 48, 112, 255, 511], .op 0 (.op 1 (.op 2 (.op 3 (.op 4 (.op 5 (.op 6 (.op 7 (.alt 8 (.op 9 (.done)) (.done))))))))))] } (fn := Tryz.f44) Tryz.func44 (by kernel_rfl) (by kernel_rfl) ?_
  rintro ⟨a0, b0, ⟨⟩⟩ K ⟨r, h, hK⟩
  change laws_eqWireS a0 b0 = some r at h
  unfold laws_eqWireS at h
  conv => whnf
  refine vNots ?_
  refine vIfD h (fun h => ?_) (fun h => ?_)
  · conv => whnf
    refine vLoop h ?_
    rintro I0 μ0 ⟨i0, ⟨⟩⟩ zs0 h hI0 hR0
    change laws_eqWireS_loop0 a0 b0 i0 = some zs0 at h
    unfold laws_eqWireS_loop0 at h
    conv => whnf
    refine vIfD h (fun h => ?_) (fun h => ?_)
    · conv => whnf
      refine ⟨by kernel_rfl, ?_⟩
      conv => whnf
      refine vAt h (fun x0 he1a he1b he1x h => ?_)
      conv => whnf
      refine vAt h (fun x1 he2a he2b he2x h => ?_)
      conv => whnf
      refine vBind h (fun eqWire0 hb3 h => ?_)
      conv => whnf
      refine vNots ?_
      refine vIfB h (fun h => ?_) (fun h => ?_)
      · conv => whnf
        cases h
        exact ⟨⟨rfl, rfl⟩, hI0 _ rfl⟩
      · conv => whnf
        cases h
        obtain rfl := hR0 _ rfl
        exact hK
    · conv => whnf
      cases h
      obtain rfl := hR0 _ rfl
      exact hK
  · conv => whnf
    cases h
    exact hK
set_option maxRecDepth 100000 in
theorem w_laws_markArcS (k_laws_markTableS' : SoundC Tryz.prog 152 c_laws_markTableS) : SoundC Tryz.prog 124 c_laws_markArcS := by
  refine fn_sound tabD_ok (gam_cons k_laws_markTableS' gam_nil) mixed { loops := [(0, [.reg 1 (.dat (.int .i64)), .reg 5 (.dat (.int .i64)), .ent 0 (nat_lit 127) (Dp.pair (Dp.flat (Ty.int IntKind.i64)) (Dp.pair (Dp.flat (Ty.int IntKind.i64)) (Dp.pair (Dp.flat (Ty.int IntKind.i64)) (Dp.pair (Dp.flat (Ty.int IntKind.i64)) (Dp.pair (Dp.ol (243 : Go.TypeId) dTable) (Dp.pair (Dp.ol (243 : Go.TypeId) dTable) (Dp.flat Ty.unit)))))))])] } (fn := Tryz.f124) Tryz.func124 (by kernel_rfl) (by kernel_rfl) ?_
  rintro ⟨a0, k0, ⟨⟩⟩ K ⟨r, h, hK⟩
  change laws_markArcS a0 k0 = some r at h
  unfold laws_markArcS at h
  conv => whnf
  intro fp0
  conv => whnf
  refine vLoop h ?_
  rintro I1 μ1 ⟨k1, i0, l0, ⟨⟩⟩ zs1 h hI1 hR1
  change laws_markArcS_loop0 k1 i0 l0 = some zs1 at h
  unfold laws_markArcS_loop0 at h
  conv => whnf
  intro fp2
  conv => whnf
  refine vIfD h (fun h => ?_) (fun h => ?_)
  · conv => whnf
    refine vAt h (fun x0 he3a he3b he3x h => ?_)
    conv => whnf
    refine ⟨he3a, he3b, vAgain he3x ?_⟩
    conv => whnf
    intro fp4
    conv => whnf
    intro fp5
    conv => whnf
    intro fp6
    conv => whnf
    refine ⟨he3a, he3b, vAgain he3x ?_⟩
    conv => whnf
    refine .inl ⟨rfl, ?_⟩
    conv => whnf
    refine ⟨he3a, he3b, vAgain he3x ?_⟩
    conv => whnf
    refine .inl ⟨rfl, ?_⟩
    conv => whnf
    refine ⟨he3a, he3b, vAgain he3x ?_⟩
    conv => whnf
    refine .inl ⟨rfl, ?_⟩
    conv => whnf
    refine ⟨he3a, he3b, vAgain he3x ?_⟩
    conv => whnf
    refine .inl ⟨rfl, ?_⟩
    conv => whnf
    refine vBind h (fun markTableS0 hb7 h => ?_)
    conv => whnf
    intro fp8
    conv => whnf
    refine ⟨he3a, he3b, vAgain he3x ?_⟩
    conv => whnf
    refine .inl ⟨rfl, ?_⟩
    conv => whnf
    refine vBind h (fun markTableS1 hb9 h => ?_)
    conv => whnf
    intro fp10
    conv => whnf
    cases h
    exact ⟨⟨rfl, rfl⟩, hI1 _ rfl⟩
  · conv => whnf
    cases h
    obtain rfl := hR1 _ rfl
    exact hK
set_option maxRecDepth 100000 in
theorem w_laws_markInstanceS (k_laws_markText' : SoundC Tryz.prog 122 c_laws_markText) (k_laws_markInt64S' : SoundC Tryz.prog 18 c_laws_markInt64S) : SoundC Tryz.prog 89 c_laws_markInstanceS := by
  refine fn_sound tabD_ok (gam_cons k_laws_markText' (gam_cons k_laws_markInt64S' gam_nil)) mixed { loops := [(0, [.reg 1 (.dat (.int .i64)), .reg 5 (.dat (.int .i64)), .ent 0 (nat_lit 124) (Dp.pair (Dp.flat Ty.str) (Dp.pair (Dp.flat (Ty.int IntKind.i64)) (Dp.pair (Dp.ol (2 : Go.TypeId) (Dp.flat (Ty.int IntKind.i64))) (Dp.flat Ty.unit))))])] } (fn := Tryz.f89) Tryz.func89 (by kernel_rfl) (by kernel_rfl) ?_
  rintro ⟨a0, k0, ⟨⟩⟩ K ⟨r, h, hK⟩
  change laws_markInstanceS a0 k0 = some r at h
  unfold laws_markInstanceS at h
  conv => whnf
  intro fp0
  conv => whnf
  refine vLoop h ?_
  rintro I1 μ1 ⟨k1, i0, l0, ⟨⟩⟩ zs1 h hI1 hR1
  change laws_markInstanceS_loop0 k1 i0 l0 = some zs1 at h
  unfold laws_markInstanceS_loop0 at h
  conv => whnf
  intro fp2
  conv => whnf
  refine vIfD h (fun h => ?_) (fun h => ?_)
  · conv => whnf
    refine vBind h (fun markText0 hb3 h => ?_)
    conv => whnf
    refine vAt h (fun x0 he4a he4b he4x h => ?_)
    conv => whnf
    refine ⟨he4a, he4b, vAgain he4x ?_⟩
    conv => whnf
    intro fp5
    conv => whnf
    refine ⟨he4a, he4b, vAgain he4x ?_⟩
    conv => whnf
    refine .inl ⟨rfl, ?_⟩
    conv => whnf
    refine ⟨he4a, he4b, vAgain he4x ?_⟩
    conv => whnf
    refine .inl ⟨rfl, ?_⟩
    conv => whnf
    refine vBind h (fun markInt64S0 hb6 h => ?_)
    conv => whnf
    cases h
    exact ⟨⟨rfl, rfl⟩, hI1 _ rfl⟩
  · conv => whnf
    cases h
    obtain rfl := hR1 _ rfl
    exact hK
set_option maxRecDepth 100000 in
theorem w_laws_szInstance (k_laws_szInt64S' : SoundC Tryz.prog 115 c_laws_szInt64S) : SoundC Tryz.prog 113 c_laws_szInstance := by
  refine fn_sound tab_ok (gam_cons k_laws_szInt64S' gam_nil) mixed {} (fn := Tryz.f113) Tryz.func113 (by kernel_rfl) (by kernel_rfl) ?_
  rintro ⟨a0, left0, ⟨⟩⟩ K ⟨r, h, hK⟩
  change laws_szInstance a0 left0 = some r at h
  unfold laws_szInstance at h
  conv => whnf
  refine vIfD h (fun h => ?_) (fun h => ?_)
  · conv => whnf
    cases h
    exact hK
  · conv => whnf
    refine vBind h (fun szInt64S0 hb0 h => ?_)
    conv => whnf
    refine vIfD h (fun h => ?_) (fun h => ?_)
    · conv => whnf
      cases h
      exact hK
    · conv => whnf
      cases h
      exact hK
set_option maxRecDepth 100000 in
theorem w_laws_szPinS (k_laws_szPin' : SoundC Tryz.prog 163 c_laws_szPin) : SoundC Tryz.prog 146 c_laws_szPinS := by
  refine fn_sound tab_ok (gam_cons k_laws_szPin' gam_nil) mixed { loops := [(0, [.reg 1 (.dat (.int .i64)), .reg 5 (.dat (.int .i64))])] } (fn := Tryz.f146) Tryz.func146 (by kernel_rfl) (by kernel_rfl) ?_
  rintro ⟨a0, left0, ⟨⟩⟩ K ⟨r, h, hK⟩
  change laws_szPinS a0 left0 = some r at h
  unfold laws_szPinS at h
  conv => whnf
  refine vIfD h (fun h => ?_) (fun h => ?_)
  · conv => whnf
    cases h
    exact hK
  · conv => whnf
    refine vLoop h ?_
    rintro I0 μ0 ⟨left1, i0, ⟨⟩⟩ zs0 h hI0 hR0
    change laws_szPinS_loop0 a0 left1 i0 = some zs0 at h
    unfold laws_szPinS_loop0 at h
    conv => whnf
    refine vIfD h (fun h => ?_) (fun h => ?_)
    · conv => whnf
      refine vAt h (fun x0 he1a he1b he1x h => ?_)
      conv => whnf
      refine vBind h (fun szPin0 hb2 h => ?_)
      conv => whnf
      refine vIfD h (fun h => ?_) (fun h => ?_)
      · conv => whnf
        cases h
        obtain rfl := hR0 _ rfl
        exact hK
      · conv => whnf
        cases h
        exact ⟨⟨rfl, rfl⟩, hI0 _ rfl⟩
    · conv => whnf
      cases h
      obtain rfl := hR0 _ rfl
      exact hK
set_option maxRecDepth 100000 in
theorem w_laws_toArcS (k_laws_toArc' : SoundC Tryz.prog 166 c_laws_toArc) : SoundC Tryz.prog 149 c_laws_toArcS := by
  refine fn_sound tabD_ok (gam_cons k_laws_toArc' gam_nil) mixed { loops := [(0, [.reg 4 (.dat (.int .i64)), .ent 0 (nat_lit 127) dArc])] } (fn := Tryz.f149) Tryz.func149 (by kernel_rfl) (by kernel_rfl) ?_
  rintro ⟨a0, ⟨⟩⟩ K ⟨r, h, hK⟩
  change laws_toArcS a0 = some r at h
  unfold laws_toArcS at h
  conv => whnf
  refine vPre h (fun hp0 h => ?_)
  conv => whnf
  refine vPre h (fun hp1 h => ?_)
  conv => whnf
  refine vPre h (fun hp2 h => ?_)
  conv => whnf
  refine vPre h (fun hp3 h => ?_)
  conv => whnf
  intro fp4
  conv => whnf
  refine vLoop h ?_
  rintro I5 μ5 ⟨i0, l0, ⟨⟩⟩ zs5 h hI5 hR5
  change laws_toArcS_loop0 a0 i0 l0 = some zs5 at h
  unfold laws_toArcS_loop0 at h
  conv => whnf
  intro fp6
  conv => whnf
  refine vIfD h (fun h => ?_) (fun h => ?_)
  · conv => whnf
    refine vAt h (fun x0 he7a he7b he7x h => ?_)
    conv => whnf
    refine vBind h (fun toArc0 hb8 h => ?_)
    conv => whnf
    intro fp9
    conv => whnf
    intro fp10
    conv => whnf
    refine vAt h (fun x1 he11a he11b he11x h => ?_)
    conv => whnf
    refine ⟨he11a, he11b, vAgain he11x ?_⟩
    conv => whnf
    intro fp12
    conv => whnf
    intro fp13
    conv => whnf
    intro fp14
    conv => whnf
    cases h
    exact ⟨⟨rfl, rfl⟩, hI5 _ rfl⟩
  · conv => whnf
    cases h
    obtain rfl := hR5 _ rfl
    exact hK
set_option maxRecDepth 100000 in
theorem w_laws_toCell (k_laws_toPinS' : SoundC Tryz.prog 148 c_laws_toPinS) (k_laws_toArcS' : SoundC Tryz.prog 149 c_laws_toArcS) (k_laws_toInt64S' : SoundC Tryz.prog 14 c_laws_toInt64S) : SoundC Tryz.prog 116 c_laws_toCell := by
  refine fn_sound tabD_ok (gam_cons k_laws_toPinS' (gam_cons k_laws_toArcS' (gam_cons k_laws_toInt64S' gam_nil))) mixed {} (fn := Tryz.f116) Tryz.func116 (by kernel_rfl) (by kernel_rfl) ?_
  rintro ⟨a0, ⟨⟩⟩ K ⟨r, h, hK⟩
  change laws_toCell a0 = some r at h
  unfold laws_toCell at h
  conv => whnf
  refine vBind h (fun toPinS0 hb0 h => ?_)
  conv => whnf
  refine vBind h (fun toArcS0 hb1 h => ?_)
  conv => whnf
  intro fp2
  conv => whnf
  refine vBind h (fun toInt64S0 hb3 h => ?_)
  conv => whnf
  cases h
  exact hK
set_option maxRecDepth 100000 in
theorem w_laws_toInstance (k_laws_toInt64S' : SoundC Tryz.prog 14 c_laws_toInt64S) : SoundC Tryz.prog 117 c_laws_toInstance := by
  refine fn_sound tab_ok (gam_cons k_laws_toInt64S' gam_nil) mixed {} (fn := Tryz.f117) Tryz.func117 (by kernel_rfl) (by kernel_rfl) ?_
  rintro ⟨a0, ⟨⟩⟩ K ⟨r, h, hK⟩
  change laws_toInstance a0 = some r at h
  unfold laws_toInstance at h
  conv => whnf
  refine vBind h (fun toInt64S0 hb0 h => ?_)
  conv => whnf
  cases h
  exact hK
set_option maxRecDepth 100000 in
theorem w_laws_toPort : SoundC Tryz.prog 118 c_laws_toPort := by
  refine fn_sound tab_ok gam_nil mixed {} (fn := Tryz.f118) Tryz.func118 (by kernel_rfl) (by kernel_rfl) ?_
  rintro ⟨a0, ⟨⟩⟩ K ⟨r, h, hK⟩
  change laws_toPort a0 = some r at h
  unfold laws_toPort at h
  conv => whnf
  cases h
  exact hK
set_option maxRecDepth 100000 in
theorem w_laws_toTable (k_laws_toInt64S' : SoundC Tryz.prog 14 c_laws_toInt64S) : SoundC Tryz.prog 193 c_laws_toTable := by
  refine fn_sound tab_ok (gam_cons k_laws_toInt64S' gam_nil) mixed {} (fn := Tryz.f193) Tryz.func193 (by kernel_rfl) (by kernel_rfl) ?_
  rintro ⟨a0, ⟨⟩⟩ K ⟨r, h, hK⟩
  change laws_toTable a0 = some r at h
  unfold laws_toTable at h
  conv => whnf
  refine vBind h (fun toInt64S0 hb0 h => ?_)
  conv => whnf
  refine vBind h (fun toInt64S1 hb1 h => ?_)
  conv => whnf
  refine vBind h (fun toInt64S2 hb2 h => ?_)
  conv => whnf
  cases h
  exact hK
set_option maxRecDepth 100000 in
theorem w_slices_IndexFunc_Simpl_Arc_impl_Arc_at_impl_Cell_has_c1 (k_impl_Cell_has_c1' : SoundC Tryz.prog 210 c_impl_Cell_has_c1) : SoundC Tryz.prog 209 c_slices_IndexFunc_Simpl_Arc_impl_Arc_at_impl_Cell_has_c1 := by
  refine fn_sound tab_ok (gam_cons k_impl_Cell_has_c1' gam_nil) mixed { loops := [(0, [.reg 8 (.dat (.int .i64))])] } (fn := Tryz.f209) Tryz.func209 (by kernel_rfl) (by kernel_rfl) ?_
  rintro ⟨s0, f0, ⟨⟩⟩ K ⟨r, h, hK⟩
  change slices_IndexFunc_Simpl_Arc_impl_Arc_at_impl_Cell_has_c1 s0 f0 = some r at h
  unfold slices_IndexFunc_Simpl_Arc_impl_Arc_at_impl_Cell_has_c1 at h
  conv => whnf
  refine vLoop h ?_
  rintro I0 μ0 ⟨v0, ⟨⟩⟩ zs0 h hI0 hR0
  change slices_IndexFunc_Simpl_Arc_impl_Arc_at_impl_Cell_has_c1_loop0 s0 f0 v0 = some zs0 at h
  unfold slices_IndexFunc_Simpl_Arc_impl_Arc_at_impl_Cell_has_c1_loop0 at h
  conv => whnf
  refine vIfD h (fun h => ?_) (fun h => ?_)
  · conv => whnf
    refine vAt h (fun x0 he1a he1b he1x h => ?_)
    conv => whnf
    refine vBind h (fun c1_0 hb2 h => ?_)
    conv => whnf
    refine vIfB h (fun h => ?_) (fun h => ?_)
    · conv => whnf
      cases h
      obtain rfl := hR0 _ rfl
      exact hK
    · conv => whnf
      cases h
      exact ⟨⟨rfl, rfl⟩, hI0 _ rfl⟩
  · conv => whnf
    cases h
    obtain rfl := hR0 _ rfl
    exact hK
set_option maxRecDepth 100000 in
theorem w_spec_IsDesign (k_spec_IsLibrary' : SoundC Tryz.prog 130 c_spec_IsLibrary) (k_spec_l05Parts' : SoundC Tryz.prog 131 c_spec_l05Parts) (k_spec_l05Names' : SoundC Tryz.prog 132 c_spec_l05Names) : SoundC Tryz.prog 96 c_spec_IsDesign := by
  refine fn_sound tab_ok (gam_cons k_spec_IsLibrary' (gam_cons k_spec_l05Parts' (gam_cons k_spec_l05Names' gam_nil))) mixed { loops := [(0, [.reg 5 (.own (.ol 9 (.flat (.str)))), .reg 6 (.dat (.int .i64))]), (2, [.reg 7 (.own (.ol 9 (.flat (.str)))), .reg 8 (.dat (.int .i64))]), (4, [.reg 10 (.dat (.int .i64)), .ent 6 (nat_lit 2) (.flat ti35.ety)]), (6, [.reg 12 (.dat (.int .i64)), .ent 6 (nat_lit 2) (.flat ti35.ety)]), (8, [.reg 13 (.dat (.int .i64))])] } (fn := Tryz.f96) Tryz.func96 (by kernel_rfl) (by kernel_rfl) ?_
  rintro ⟨a0, a1, ⟨⟩⟩ K ⟨r, h, hK⟩
  change spec_IsDesign a0 a1 = some r at h
  unfold spec_IsDesign at h
  conv => whnf
  refine vBind h (fun IsLibrary0 hb0 h => ?_)
  conv => whnf
  refine vNot ?_
  refine vIfB h (fun h => ?_) (fun h => ?_)
  · conv => whnf
    refine vIfDs h (fun h => ?_) (fun h => ?_)
    · conv => whnf
      cases h
      exact hK
    · conv => whnf
      refine vIfDs h (fun h => ?_) (fun h => ?_)
      · conv => whnf
        cases h
        exact hK
      · conv => whnf
        refine vIfDs h (fun h => ?_) (fun h => ?_)
        · conv => whnf
          cases h
          exact hK
        · conv => whnf
          refine vBind h (fun l05Parts0 hb1 h => ?_)
          conv => whnf
          refine vNots ?_
          refine vIfB h (fun h => ?_) (fun h => ?_)
          · conv => whnf
            refine vLoop h ?_
            rintro I2 μ2 ⟨v0, v1, ⟨⟩⟩ zs2 h hI2 hR2
            change spec_IsDesign_loop4 a1 v0 v1 = some zs2 at h
            unfold spec_IsDesign_loop4 at h
            conv => whnf
            refine vIfD h (fun h => ?_) (fun h => ?_)
            · conv => whnf
              refine vAt h (fun x0 he3a he3b he3x h => ?_)
              conv => whnf
              refine vPre h (fun hp4 h => ?_)
              conv => whnf
              cases h
              exact ⟨⟨rfl, rfl⟩, hI2 _ rfl⟩
            · conv => whnf
              refine vLoop h ?_
              rintro I5 μ5 ⟨v2, v3, ⟨⟩⟩ zs5 h hI5 hR5
              change spec_IsDesign_loop3 a1 v0 v2 v3 = some zs5 at h
              unfold spec_IsDesign_loop3 at h
              conv => whnf
              refine vIfD h (fun h => ?_) (fun h => ?_)
              · conv => whnf
                refine vAt h (fun x0 he6a he6b he6x h => ?_)
                conv => whnf
                refine vPre h (fun hp7 h => ?_)
                conv => whnf
                cases h
                exact ⟨⟨rfl, rfl⟩, hI5 _ rfl⟩
              · conv => whnf
                refine vBind h (fun l05Names0 hb8 h => ?_)
                conv => whnf
                refine vNot ?_
                refine vIfB h (fun h => ?_) (fun h => ?_)
                · conv => whnf
                  refine vBind h (fun l05Names1 hb9 h => ?_)
                  conv => whnf
                  refine vNot ?_
                  refine vIfB h (fun h => ?_) (fun h => ?_)
                  · conv => whnf
                    refine vBind h (fun l05Names2 hb10 h => ?_)
                    conv => whnf
                    refine vNots ?_
                    refine vIfB h (fun h => ?_) (fun h => ?_)
                    · conv => whnf
                      refine vPre h (fun hp11 h => ?_)
                      conv => whnf
                      refine vPre h (fun hp12 h => ?_)
                      conv => whnf
                      refine vPre h (fun hp13 h => ?_)
                      conv => whnf
                      refine vPre h (fun hp14 h => ?_)
                      conv => whnf
                      refine vLoop h ?_
                      rintro I15 μ15 ⟨v4, l0, ⟨⟩⟩ zs15 h hI15 hR15
                      change spec_IsDesign_loop2 a1 v4 l0 = some zs15 at h
                      unfold spec_IsDesign_loop2 at h
                      conv => whnf
                      refine vIfD h (fun h => ?_) (fun h => ?_)
                      · conv => whnf
                        refine vAt h (fun x0 he16a he16b he16x h => ?_)
                        conv => whnf
                        refine vAt h (fun x1 he17a he17b he17x h => ?_)
                        conv => whnf
                        refine vAt h (fun x2 he18a he18b he18x h => ?_)
                        conv => whnf
                        refine ⟨by kernel_rfl, ?_⟩
                        conv => whnf
                        refine ⟨he18a, he18b, vAgain he18x ?_⟩
                        conv => whnf
                        refine ⟨he18a, he18b, vAgain he18x ?_⟩
                        conv => whnf
                        refine ⟨by kernel_rfl, ?_⟩
                        conv => whnf
                        refine ⟨by decide, ?_⟩
                        conv => whnf
                        refine ⟨he18a, he18b, vAgain he18x ?_⟩
                        conv => whnf
                        cases h
                        exact ⟨⟨rfl, rfl⟩, hI15 _ rfl⟩
                      · conv => whnf
                        refine vLoop h ?_
                        rintro I19 μ19 ⟨v5, l1, ⟨⟩⟩ zs19 h hI19 hR19
                        change spec_IsDesign_loop1 a1 v5 l1 = some zs19 at h
                        unfold spec_IsDesign_loop1 at h
                        conv => whnf
                        refine vIfD h (fun h => ?_) (fun h => ?_)
                        · conv => whnf
                          refine vAt h (fun x0 he20a he20b he20x h => ?_)
                          conv => whnf
                          refine vIfD h (fun h => ?_) (fun h => ?_)
                          · conv => whnf
                            refine ⟨he20a, he20b, vAgain he20x ?_⟩
                            conv => whnf
                            refine vAt h (fun x1 he21a he21b he21x h => ?_)
                            conv => whnf
                            refine ⟨by kernel_rfl, ?_⟩
                            conv => whnf
                            refine ⟨he21a, he21b, vAgain he21x ?_⟩
                            conv => whnf
                            refine ⟨he21a, he21b, vAgain he21x ?_⟩
                            conv => whnf
                            refine ⟨by kernel_rfl, ?_⟩
                            conv => whnf
                            refine ⟨by decide, ?_⟩
                            conv => whnf
                            refine ⟨he21a, he21b, vAgain he21x ?_⟩
                            conv => whnf
                            cases h
                            exact ⟨⟨rfl, rfl⟩, hI19 _ rfl⟩
                          · conv => whnf
                            cases h
                            exact ⟨⟨rfl, rfl⟩, hI19 _ rfl⟩
                        · conv => whnf
                          refine vLoop h ?_
                          rintro I22 μ22 ⟨v6, ⟨⟩⟩ zs22 h hI22 hR22
                          change spec_IsDesign_loop0 l1 v6 = some zs22 at h
                          unfold spec_IsDesign_loop0 at h
                          conv => whnf
                          refine vIfD h (fun h => ?_) (fun h => ?_)
                          · conv => whnf
                            refine vAt h (fun x0 he23a he23b he23x h => ?_)
                            conv => whnf
                            refine ⟨by kernel_rfl, ?_⟩
                            conv => whnf
                            refine ⟨he23a, he23b, vAgain he23x ?_⟩
                            conv => whnf
                            refine vNots ?_
                            refine vIfD h (fun h => ?_) (fun h => ?_)
                            · conv => whnf
                              cases h
                              exact ⟨⟨rfl, rfl⟩, hI22 _ rfl⟩
                            · conv => whnf
                              cases h
                              obtain rfl := hR22 _ rfl
                              obtain rfl := hR19 _ rfl
                              obtain rfl := hR15 _ rfl
                              obtain rfl := hR5 _ rfl
                              obtain rfl := hR2 _ rfl
                              exact hK
                          · conv => whnf
                            cases h
                            obtain rfl := hR22 _ rfl
                            obtain rfl := hR19 _ rfl
                            obtain rfl := hR15 _ rfl
                            obtain rfl := hR5 _ rfl
                            obtain rfl := hR2 _ rfl
                            exact hK
                    · conv => whnf
                      cases h
                      obtain rfl := hR5 _ rfl
                      obtain rfl := hR2 _ rfl
                      exact hK
                  · conv => whnf
                    cases h
                    obtain rfl := hR5 _ rfl
                    obtain rfl := hR2 _ rfl
                    exact hK
                · conv => whnf
                  cases h
                  obtain rfl := hR5 _ rfl
                  obtain rfl := hR2 _ rfl
                  exact hK
          · conv => whnf
            cases h
            exact hK
  · conv => whnf
    cases h
    exact hK
set_option maxRecDepth 100000 in
theorem w_spec_l05Find (k_spec_l05Places' : SoundC Tryz.prog 71 c_spec_l05Places) : SoundC Tryz.prog 66 c_spec_l05Find := by
  refine fn_sound tab_ok (gam_cons k_spec_l05Places' gam_nil) mixed { loops := [(0, [.reg 8 (.dat (.int .i64))])] } (fn := Tryz.f66) Tryz.func66 (by kernel_rfl) (by kernel_rfl) ?_
  rintro ⟨d0, instance0, pin0, ⟨⟩⟩ K ⟨r, h, hK⟩
  change spec_l05Find d0 instance0 pin0 = some r at h
  unfold spec_l05Find at h
  conv => whnf
  refine vBind h (fun l05Places0 hb0 h => ?_)
  conv => whnf
  refine vLoop h ?_
  rintro I1 μ1 ⟨i0, ⟨⟩⟩ zs1 h hI1 hR1
  change spec_l05Find_loop0 instance0 pin0 l05Places0 i0 = some zs1 at h
  unfold spec_l05Find_loop0 at h
  conv => whnf
  refine vIfD h (fun h => ?_) (fun h => ?_)
  · conv => whnf
    refine vAt h (fun x0 he2a he2b he2x h => ?_)
    conv => whnf
    refine ⟨by kernel_rfl, ?_⟩
    conv => whnf
    refine ⟨he2a, he2b, vAgain he2x ?_⟩
    conv => whnf
    refine vIfD h (fun h => ?_) (fun h => ?_)
    · conv => whnf
      refine ⟨he2a, he2b, vAgain he2x ?_⟩
      conv => whnf
      refine ⟨by kernel_rfl, ?_⟩
      conv => whnf
      refine ⟨he2a, he2b, vAgain he2x ?_⟩
      conv => whnf
      refine vIfD h (fun h => ?_) (fun h => ?_)
      · conv => whnf
        cases h
        obtain rfl := hR1 _ rfl
        exact hK
      · conv => whnf
        cases h
        exact ⟨⟨rfl, rfl⟩, hI1 _ rfl⟩
    · conv => whnf
      cases h
      exact ⟨⟨rfl, rfl⟩, hI1 _ rfl⟩
  · conv => whnf
    cases h
    obtain rfl := hR1 _ rfl
    exact hK
set_option maxRecDepth 100000 in
theorem w_spec_l09Arc (k_spec_l09Pair' : SoundC Tryz.prog 69 c_spec_l09Pair) : SoundC Tryz.prog 65 c_spec_l09Arc := by
  refine fn_sound tabD_ok (gam_cons k_spec_l09Pair' gam_nil) mixed { loops := [(0, [.reg 0 (.own (.ol 117 (.flat (tLink)))), .reg 11 (.dat (.int .i64))]), (2, [.reg 0 (.own (.ol 117 (.flat (tLink)))), .reg 12 (.dat (.int .i64))])] } (fn := Tryz.f65) Tryz.func65 (by kernel_rfl) (by kernel_rfl) ?_
  rintro ⟨list0, arc0, from0, to0, index0, ⟨⟩⟩ K ⟨r, h, hK⟩
  change spec_l09Arc list0 arc0 from0 to0 index0 = some r at h
  unfold spec_l09Arc at h
  conv => whnf
  refine vLoop h ?_
  rintro I0 μ0 ⟨list1, a0, ⟨⟩⟩ zs0 h hI0 hR0
  change spec_l09Arc_loop1 arc0 from0 to0 index0 list1 a0 = some zs0 at h
  unfold spec_l09Arc_loop1 at h
  conv => whnf
  refine vIfD h (fun h => ?_) (fun h => ?_)
  · conv => whnf
    refine vLoop h ?_
    rintro I1 μ1 ⟨list2, b0, ⟨⟩⟩ zs1 h hI1 hR1
    change spec_l09Arc_loop0 arc0 from0 to0 index0 a0 list2 b0 = some zs1 at h
    unfold spec_l09Arc_loop0 at h
    conv => whnf
    refine vIfD h (fun h => ?_) (fun h => ?_)
    · conv => whnf
      refine vIfD h (fun h => ?_) (fun h => ?_)
      · conv => whnf
        refine vIfDs h (fun h => ?_) (fun h => ?_)
        · conv => whnf
          refine vBind h (fun l09Pair0 hb2 h => ?_)
          conv => whnf
          cases h
          exact ⟨⟨rfl, rfl⟩, hI1 _ rfl⟩
        · conv => whnf
          refine vIfB h (fun h => ?_) (fun h => ?_)
          · conv => whnf
            refine vBind h (fun l09Pair0 hb3 h => ?_)
            conv => whnf
            cases h
            exact ⟨⟨rfl, rfl⟩, hI1 _ rfl⟩
          · conv => whnf
            cases h
            exact ⟨⟨rfl, rfl⟩, hI1 _ rfl⟩
      · conv => whnf
        refine vIfD h (fun h => ?_) (fun h => ?_)
        · conv => whnf
          refine vIfD h (fun h => ?_) (fun h => ?_)
          · conv => whnf
            refine vBind h (fun l09Pair0 hb4 h => ?_)
            conv => whnf
            cases h
            exact ⟨⟨rfl, rfl⟩, hI1 _ rfl⟩
          · conv => whnf
            cases h
            exact ⟨⟨rfl, rfl⟩, hI1 _ rfl⟩
        · conv => whnf
          refine vIfD h (fun h => ?_) (fun h => ?_)
          · conv => whnf
            refine vIfD h (fun h => ?_) (fun h => ?_)
            · conv => whnf
              refine vBind h (fun l09Pair0 hb5 h => ?_)
              conv => whnf
              cases h
              exact ⟨⟨rfl, rfl⟩, hI1 _ rfl⟩
            · conv => whnf
              cases h
              exact ⟨⟨rfl, rfl⟩, hI1 _ rfl⟩
          · conv => whnf
            cases h
            exact ⟨⟨rfl, rfl⟩, hI1 _ rfl⟩
    · conv => whnf
      cases h
      obtain rfl := hR1 _ rfl
      exact ⟨⟨rfl, rfl⟩, hI0 _ rfl⟩
  · conv => whnf
    cases h
    obtain rfl := hR0 _ rfl
    exact hK
set_option maxRecDepth 100000 in
theorem w_spec_l09Code (k_spec_IsBlock' : SoundC Tryz.prog 53 c_spec_IsBlock) (k_spec_l09Links' : SoundC Tryz.prog 30 c_spec_l09Links) (k_spec_l09Rising' : SoundC Tryz.prog 64 c_spec_l09Rising) : SoundC Tryz.prog 28 c_spec_l09Code := by
  refine fn_sound tab_ok (gam_cons k_spec_IsBlock' (gam_cons k_spec_l09Links' (gam_cons k_spec_l09Rising' gam_nil))) mixed {} (fn := Tryz.f28) Tryz.func28 (by kernel_rfl) (by kernel_rfl) ?_
  rintro ⟨b0, broken0, ⟨⟩⟩ K ⟨r, h, hK⟩
  change spec_l09Code b0 broken0 = some r at h
  unfold spec_l09Code at h
  conv => whnf
  refine vBind h (fun IsBlock0 hb0 h => ?_)
  conv => whnf
  refine vNots ?_
  refine vIfB h (fun h => ?_) (fun h => ?_)
  · conv => whnf
    refine vBind h (fun l09Links0 hb1 h => ?_)
    conv => whnf
    refine vBind h (fun l09Rising0 hb2 h => ?_)
    conv => whnf
    refine vNots ?_
    refine vIfB h (fun h => ?_) (fun h => ?_)
    · conv => whnf
      cases h
      exact hK
    · conv => whnf
      cases h
      exact hK
  · conv => whnf
    cases h
    exact hK
set_option maxRecDepth 100000 in
theorem w_spec_l09Listed : SoundC Tryz.prog 34 c_spec_l09Listed := by
  refine fn_sound tab_ok gam_nil mixed { loops := [(0, [.reg 3 (.own (.ol 2 (.flat (.int .i64)))), .reg 4 (.dat (.int .i64))])] } (fn := Tryz.f34) Tryz.func34 (by kernel_rfl) (by kernel_rfl) ?_
  rintro ⟨set0, ⟨⟩⟩ K ⟨r, h, hK⟩
  change spec_l09Listed set0 = some r at h
  unfold spec_l09Listed at h
  conv => whnf
  refine vLoop h ?_
  rintro I0 μ0 ⟨out0, i0, ⟨⟩⟩ zs0 h hI0 hR0
  change spec_l09Listed_loop0 set0 out0 i0 = some zs0 at h
  unfold spec_l09Listed_loop0 at h
  conv => whnf
  refine vIfD h (fun h => ?_) (fun h => ?_)
  · conv => whnf
    refine vAt h (fun x0 he1a he1b he1x h => ?_)
    conv => whnf
    refine vIfB h (fun h => ?_) (fun h => ?_)
    · conv => whnf
      refine vPre h (fun hp2 h => ?_)
      conv => whnf
      cases h
      exact ⟨⟨rfl, rfl⟩, hI0 _ rfl⟩
    · conv => whnf
      cases h
      exact ⟨⟨rfl, rfl⟩, hI0 _ rfl⟩
  · conv => whnf
    cases h
    obtain rfl := hR0 _ rfl
    exact hK
set_option maxRecDepth 100000 in
theorem w_spec_l09Reach : SoundC Tryz.prog 33 c_spec_l09Reach := by
  refine fn_sound tab_ok gam_nil mixed { loops := [(0, [.reg 12 (.dat (.bool)), .ent 0 (nat_lit 4) (.flat ti73.ety)]), (2, [.reg 12 (.dat (.bool)), .reg 13 (.dat (.int .i64)), .ent 0 (nat_lit 4) (.flat ti73.ety)])], draws := [(9, [0, 0, 3, 7, 15, 0, 0, 96, 224, 480, 31, 2047], .op 0 (.op 1 (.op 2 (.op 3 (.op 4 (.op 5 (.op 6 (.op 7 (.op 8 (.op 9 (.op 10 (.op 11 (.done)))))))))))))] } (fn := Tryz.f33) Tryz.func33 (by kernel_rfl) (by kernel_rfl) ?_
  rintro ⟨n0, links0, live0, node0, forward0, ⟨⟩⟩ K ⟨r, h, hK⟩
  change spec_l09Reach n0 links0 live0 node0 forward0 = some r at h
  unfold spec_l09Reach at h
  conv => whnf
  refine vPre h (fun hp0 h => ?_)
  conv => whnf
  refine vPre h (fun hp1 h => ?_)
  conv => whnf
  refine vPre h (fun hp2 h => ?_)
  conv => whnf
  refine vPre h (fun hp3 h => ?_)
  conv => whnf
  refine vAt h (fun x0 he4a he4b he4x h => ?_)
  conv => whnf
  refine ⟨by kernel_rfl, ?_⟩
  conv => whnf
  refine ⟨by decide, ?_⟩
  conv => whnf
  refine ⟨he4a, he4b, vAgain he4x ?_⟩
  conv => whnf
  refine vLoop h ?_
  rintro I5 μ5 ⟨changed0, l0, ⟨⟩⟩ zs5 h hI5 hR5
  change spec_l09Reach_loop1 links0 live0 forward0 changed0 l0 = some zs5 at h
  unfold spec_l09Reach_loop1 at h
  conv => whnf
  refine vIfB h (fun h => ?_) (fun h => ?_)
  · conv => whnf
    refine vLoop h ?_
    rintro I6 μ6 ⟨changed1, k0, l1, ⟨⟩⟩ zs6 h hI6 hR6
    change spec_l09Reach_loop0 links0 live0 forward0 changed1 k0 l1 = some zs6 at h
    unfold spec_l09Reach_loop0 at h
    conv => whnf
    refine vIfD h (fun h => ?_) (fun h => ?_)
    · conv => whnf
      refine ⟨by kernel_rfl, ?_⟩
      conv => whnf
      refine vAt h (fun x1 he7a he7b he7x h => ?_)
      conv => whnf
      refine ⟨he7a, he7b, vAgain he7x ?_⟩
      conv => whnf
      refine vNots ?_
      refine vIfB h (fun h => ?_) (fun h => ?_)
      · conv => whnf
        refine vAt h (fun x2 he8a he8b he8x h => ?_)
        conv => whnf
        refine vIfB h (fun h => ?_) (fun h => ?_)
        · conv => whnf
          refine vAt h (fun x3 he9a he9b he9x h => ?_)
          conv => whnf
          refine ⟨by kernel_rfl, ?_⟩
          conv => whnf
          refine ⟨he9a, he9b, vAgain he9x ?_⟩
          conv => whnf
          refine vIfB h (fun h => ?_) (fun h => ?_)
          · conv => whnf
            refine vAt h (fun x4 he10a he10b he10x h => ?_)
            conv => whnf
            refine ⟨by kernel_rfl, ?_⟩
            conv => whnf
            refine ⟨he10a, he10b, vAgain he10x ?_⟩
            conv => whnf
            refine vNots ?_
            refine vIfB h (fun h => ?_) (fun h => ?_)
            · conv => whnf
              cases h
              exact ⟨⟨rfl, rfl⟩, hI6 _ rfl⟩
            · conv => whnf
              refine ⟨he10a, he10b, vAgain he10x ?_⟩
              conv => whnf
              refine ⟨by kernel_rfl, ?_⟩
              conv => whnf
              refine ⟨by decide, ?_⟩
              conv => whnf
              refine ⟨he10a, he10b, vAgain he10x ?_⟩
              conv => whnf
              cases h
              exact ⟨⟨rfl, rfl⟩, hI6 _ rfl⟩
          · conv => whnf
            cases h
            exact ⟨⟨rfl, rfl⟩, hI6 _ rfl⟩
        · conv => whnf
          cases h
          exact ⟨⟨rfl, rfl⟩, hI6 _ rfl⟩
      · conv => whnf
        refine vAt h (fun x2 he11a he11b he11x h => ?_)
        conv => whnf
        refine vIfB h (fun h => ?_) (fun h => ?_)
        · conv => whnf
          refine vAt h (fun x3 he12a he12b he12x h => ?_)
          conv => whnf
          refine ⟨by kernel_rfl, ?_⟩
          conv => whnf
          refine ⟨he12a, he12b, vAgain he12x ?_⟩
          conv => whnf
          refine vIfB h (fun h => ?_) (fun h => ?_)
          · conv => whnf
            refine vAt h (fun x4 he13a he13b he13x h => ?_)
            conv => whnf
            refine ⟨by kernel_rfl, ?_⟩
            conv => whnf
            refine ⟨he13a, he13b, vAgain he13x ?_⟩
            conv => whnf
            refine vNots ?_
            refine vIfB h (fun h => ?_) (fun h => ?_)
            · conv => whnf
              cases h
              exact ⟨⟨rfl, rfl⟩, hI6 _ rfl⟩
            · conv => whnf
              refine ⟨he13a, he13b, vAgain he13x ?_⟩
              conv => whnf
              refine ⟨by kernel_rfl, ?_⟩
              conv => whnf
              refine ⟨by decide, ?_⟩
              conv => whnf
              refine ⟨he13a, he13b, vAgain he13x ?_⟩
              conv => whnf
              cases h
              exact ⟨⟨rfl, rfl⟩, hI6 _ rfl⟩
          · conv => whnf
            cases h
            exact ⟨⟨rfl, rfl⟩, hI6 _ rfl⟩
        · conv => whnf
          cases h
          exact ⟨⟨rfl, rfl⟩, hI6 _ rfl⟩
    · conv => whnf
      cases h
      obtain rfl := hR6 _ rfl
      exact ⟨⟨rfl, rfl⟩, hI5 _ rfl⟩
  · conv => whnf
    cases h
    obtain rfl := hR5 _ rfl
    exact hK
set_option maxRecDepth 100000 in
theorem w_spec_l09Rising (k_spec_l01In' : SoundC Tryz.prog 111 c_spec_l01In) : SoundC Tryz.prog 64 c_spec_l09Rising := by
  refine fn_sound tab_ok (gam_cons k_spec_l01In' gam_nil) mixed { loops := [(0, [.reg 5 (.dat (.int .i64))])], draws := [(4, [0, 0, 3, 7, 0, 16, 63, 127, 255, 511, 1023, 2047, 4095, 4095, 12287, 32767, 65535, 4095, 4095, 397311, 921599, 2097151, 4194303, 8388607], .op 0 (.op 1 (.op 2 (.op 3 (.op 4 (.op 5 (.alt 6 (.op 7 (.op 8 (.op 9 (.op 10 (.op 11 (.op 12 (.op 13 (.op 14 (.op 15 (.op 16 (.op 17 (.op 18 (.op 19 (.op 20 (.op 21 (.op 22 (.op 23 (.done)))))))))))))))))) (.done))))))))] } (fn := Tryz.f64) Tryz.func64 (by kernel_rfl) (by kernel_rfl) ?_
  rintro ⟨list0, n0, ⟨⟩⟩ K ⟨r, h, hK⟩
  change spec_l09Rising list0 n0 = some r at h
  unfold spec_l09Rising at h
  conv => whnf
  refine vLoop h ?_
  rintro I0 μ0 ⟨i0, ⟨⟩⟩ zs0 h hI0 hR0
  change spec_l09Rising_loop0 list0 n0 i0 = some zs0 at h
  unfold spec_l09Rising_loop0 at h
  conv => whnf
  refine vIfD h (fun h => ?_) (fun h => ?_)
  · conv => whnf
    refine ⟨by kernel_rfl, ?_⟩
    conv => whnf
    refine vAt h (fun x0 he1a he1b he1x h => ?_)
    conv => whnf
    refine vBind h (fun l01In0 hb2 h => ?_)
    conv => whnf
    refine vNot ?_
    refine vIfB h (fun h => ?_) (fun h => ?_)
    · conv => whnf
      refine vIfD h (fun h => ?_) (fun h => ?_)
      · conv => whnf
        refine vAt h (fun x1 he3a he3b he3x h => ?_)
        conv => whnf
        refine ⟨he1a, he1b, vAgain he1x ?_⟩
        conv => whnf
        refine vIfD h (fun h => ?_) (fun h => ?_)
        · conv => whnf
          cases h
          obtain rfl := hR0 _ rfl
          exact hK
        · conv => whnf
          cases h
          exact ⟨⟨rfl, rfl⟩, hI0 _ rfl⟩
      · conv => whnf
        cases h
        exact ⟨⟨rfl, rfl⟩, hI0 _ rfl⟩
    · conv => whnf
      cases h
      obtain rfl := hR0 _ rfl
      exact hK
  · conv => whnf
    cases h
    obtain rfl := hR0 _ rfl
    exact hK
end Go.Proofs.YtenpdmpfepgkjaaGreatDoor
