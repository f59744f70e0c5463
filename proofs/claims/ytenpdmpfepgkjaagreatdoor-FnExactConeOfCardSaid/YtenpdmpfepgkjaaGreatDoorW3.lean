/-
  The functions keep their contracts, if what they call does. Printed by program.
-/
import Derived.Test.YtenpdmpfepgkjaaGreatDoorM
import Derived.KernelRfl
namespace Go.Proofs.YtenpdmpfepgkjaaGreatDoor
open Go Go.Sx
set_option maxRecDepth 100000
set_option linter.unusedVariables false
set_option linter.unusedSimpArgs false
set_option maxRecDepth 100000 in
theorem w_impl_Block_nodeLoads (k_slices_Clone_Sint64_int64' : SoundC Tryz.prog 63 c_slices_Clone_Sint64_int64) (k_impl_Design_places' : SoundC Tryz.prog 100 c_impl_Design_places) (k_impl_Design_sinks' : SoundC Tryz.prog 142 c_impl_Design_sinks) (k_impl_Design_capOf' : SoundC Tryz.prog 143 c_impl_Design_capOf) : SoundC Tryz.prog 104 c_impl_Block_nodeLoads := by
  refine fn_sound tab_ok (gam_cons k_slices_Clone_Sint64_int64' (gam_cons k_impl_Design_places' (gam_cons k_impl_Design_sinks' (gam_cons k_impl_Design_capOf' gam_nil)))) mixed { loops := [(0, [.reg 27 (.dat (.int .i64)), .ent 2 (nat_lit 2) (.flat (Ty.int IntKind.i64))]), (2, [.reg 10 (.dat (.int .i64)), .ent 2 (nat_lit 2) (.flat (Ty.int IntKind.i64))])], draws := [(7, [0, 0, 2, 0, 14, 30, 63, 127, 0, 256, 0, 1024, 0, 0, 12288, 28672, 65280, 131071, 262143, 524287], .op 0 (.op 1 (.op 2 (.op 3 (.op 4 (.op 5 (.op 6 (.op 7 (.op 8 (.op 9 (.op 10 (.op 11 (.op 12 (.op 13 (.op 14 (.op 15 (.alt 16 (.op 17 (.op 18 (.alt 19 (.done) (.done)))) (.done)))))))))))))))))), (12, [0, 0, 2, 0, 14, 30, 63, 127, 0, 0, 768, 1792, 4095, 8191, 16383], .op 0 (.op 1 (.op 2 (.op 3 (.op 4 (.op 5 (.op 6 (.op 7 (.op 8 (.op 9 (.op 10 (.op 11 (.op 12 (.op 13 (.alt 14 (.done) (.done))))))))))))))))] } (fn := Tryz.f104) Tryz.func104 (by kernel_rfl) (by kernel_rfl) ?_
  rintro ⟨a0, a1, ⟨⟩⟩ K ⟨r, h, hK⟩
  change impl_Block_nodeLoads a0 a1 = some r at h
  unfold impl_Block_nodeLoads at h
  conv => whnf
  refine vAt h (fun x0 he0a he0b he0x h => ?_)
  conv => whnf
  refine vBind h (fun int64_0 hb1 h => ?_)
  conv => whnf
  refine vBind h (fun places0 hb2 h => ?_)
  conv => whnf
  refine vBind h (fun sinks0 hb3 h => ?_)
  conv => whnf
  refine vLoop h ?_
  rintro I4 μ4 ⟨v0, l0, ⟨⟩⟩ zs4 h hI4 hR4
  change impl_Block_nodeLoads_loop1 a0 x0 places0 sinks0 v0 l0 = some zs4 at h
  unfold impl_Block_nodeLoads_loop1 at h
  conv => whnf
  refine vIfD h (fun h => ?_) (fun h => ?_)
  · conv => whnf
    refine vAt h (fun x1 he5a he5b he5x h => ?_)
    conv => whnf
    refine ⟨by kernel_rfl, ?_⟩
    conv => whnf
    refine ⟨he5a, he5b, vAgain he5x ?_⟩
    conv => whnf
    refine ⟨by kernel_rfl, ?_⟩
    conv => whnf
    refine vAt h (fun x2 he6a he6b he6x h => ?_)
    conv => whnf
    refine vAt h (fun x3 he7a he7b he7x h => ?_)
    conv => whnf
    refine ⟨by kernel_rfl, ?_⟩
    conv => whnf
    refine ⟨he7a, he7b, vAgain he7x ?_⟩
    conv => whnf
    refine vAt h (fun x4 he8a he8b he8x h => ?_)
    conv => whnf
    refine ⟨by kernel_rfl, ?_⟩
    conv => whnf
    refine ⟨he8a, he8b, vAgain he8x ?_⟩
    conv => whnf
    refine vBind h (fun capOf0 hb9 h => ?_)
    conv => whnf
    refine ⟨he7a, he7b, vAgain he7x ?_⟩
    conv => whnf
    refine ⟨by kernel_rfl, ?_⟩
    conv => whnf
    refine ⟨by decide, ?_⟩
    conv => whnf
    refine ⟨he7a, he7b, vAgain he7x ?_⟩
    conv => whnf
    cases h
    exact ⟨⟨rfl, rfl⟩, hI4 _ rfl⟩
  · conv => whnf
    refine vLoop h ?_
    rintro I10 μ10 ⟨v1, l1, ⟨⟩⟩ zs10 h hI10 hR10
    change impl_Block_nodeLoads_loop0 x0 v1 l1 = some zs10 at h
    unfold impl_Block_nodeLoads_loop0 at h
    conv => whnf
    refine vIfD h (fun h => ?_) (fun h => ?_)
    · conv => whnf
      refine ⟨by kernel_rfl, ?_⟩
      conv => whnf
      refine vAt h (fun x1 he11a he11b he11x h => ?_)
      conv => whnf
      refine vAt h (fun x2 he12a he12b he12x h => ?_)
      conv => whnf
      refine ⟨by kernel_rfl, ?_⟩
      conv => whnf
      refine ⟨he12a, he12b, vAgain he12x ?_⟩
      conv => whnf
      refine vAt h (fun x3 he13a he13b he13x h => ?_)
      conv => whnf
      refine ⟨by kernel_rfl, ?_⟩
      conv => whnf
      refine ⟨he13a, he13b, vAgain he13x ?_⟩
      conv => whnf
      refine ⟨he12a, he12b, vAgain he12x ?_⟩
      conv => whnf
      refine ⟨by kernel_rfl, ?_⟩
      conv => whnf
      refine ⟨by decide, ?_⟩
      conv => whnf
      refine ⟨he12a, he12b, vAgain he12x ?_⟩
      conv => whnf
      cases h
      exact ⟨⟨rfl, rfl⟩, hI10 _ rfl⟩
    · conv => whnf
      cases h
      obtain rfl := hR10 _ rfl
      obtain rfl := hR4 _ rfl
      exact hK
set_option maxRecDepth 100000 in
theorem w_impl_Design_isNet (k_impl_length_string' : SoundC Tryz.prog 161 c_impl_length_string) (k_impl_within' : SoundC Tryz.prog 109 c_impl_within) : SoundC Tryz.prog 137 c_impl_Design_isNet := by
  refine fn_sound tab_ok (gam_cons k_impl_length_string' (gam_cons k_impl_within' gam_nil)) mixed {} (fn := Tryz.f137) Tryz.func137 (by kernel_rfl) (by kernel_rfl) ?_
  rintro ⟨d0, net0, ⟨⟩⟩ K ⟨r, h, hK⟩
  change impl_Design_isNet d0 net0 = some r at h
  unfold impl_Design_isNet at h
  conv => whnf
  refine vBind h (fun string0 hb0 h => ?_)
  conv => whnf
  refine vBind h (fun within0 hb1 h => ?_)
  conv => whnf
  cases h
  exact hK
set_option maxRecDepth 100000 in
theorem w_impl_Design_sinks (k_impl_Design_places' : SoundC Tryz.prog 100 c_impl_Design_places) : SoundC Tryz.prog 142 c_impl_Design_sinks := by
  refine fn_sound tab_ok (gam_cons k_impl_Design_places' gam_nil) mixed { loops := [(0, [.reg 5 (.own (.ol 2 (.flat (.int .i64)))), .reg 11 (.dat (.int .i64))])] } (fn := Tryz.f142) Tryz.func142 (by kernel_rfl) (by kernel_rfl) ?_
  rintro ⟨d0, net0, ⟨⟩⟩ K ⟨r, h, hK⟩
  change impl_Design_sinks d0 net0 = some r at h
  unfold impl_Design_sinks at h
  conv => whnf
  refine vBind h (fun places0 hb0 h => ?_)
  conv => whnf
  refine vLoop h ?_
  rintro I1 μ1 ⟨list0, v0, ⟨⟩⟩ zs1 h hI1 hR1
  change impl_Design_sinks_loop0 net0 places0 list0 v0 = some zs1 at h
  unfold impl_Design_sinks_loop0 at h
  conv => whnf
  refine vIfD h (fun h => ?_) (fun h => ?_)
  · conv => whnf
    refine vAt h (fun x0 he2a he2b he2x h => ?_)
    conv => whnf
    refine ⟨by kernel_rfl, ?_⟩
    conv => whnf
    refine ⟨he2a, he2b, vAgain he2x ?_⟩
    conv => whnf
    refine vIfD h (fun h => ?_) (fun h => ?_)
    · conv => whnf
      refine vNots ?_
      refine vIfB h (fun h => ?_) (fun h => ?_)
      · conv => whnf
        cases h
        exact ⟨⟨rfl, rfl⟩, hI1 _ rfl⟩
      · conv => whnf
        refine vPre h (fun hp3 h => ?_)
        conv => whnf
        cases h
        exact ⟨⟨rfl, rfl⟩, hI1 _ rfl⟩
    · conv => whnf
      cases h
      exact ⟨⟨rfl, rfl⟩, hI1 _ rfl⟩
  · conv => whnf
    cases h
    obtain rfl := hR1 _ rfl
    exact hK
set_option maxRecDepth 100000 in
theorem w_impl_areNames (k_impl_isName' : SoundC Tryz.prog 173 c_impl_isName) (k_slices_Contains_Sstring_string' : SoundC Tryz.prog 177 c_slices_Contains_Sstring_string) : SoundC Tryz.prog 158 c_impl_areNames := by
  refine fn_sound tab_ok (gam_cons k_impl_isName' (gam_cons k_slices_Contains_Sstring_string' gam_nil)) mixed { loops := [(0, [.reg 7 (.dat (.int .i64))])] } (fn := Tryz.f158) Tryz.func158 (by kernel_rfl) (by kernel_rfl) ?_
  rintro ⟨list0, ⟨⟩⟩ K ⟨r, h, hK⟩
  change impl_areNames list0 = some r at h
  unfold impl_areNames at h
  conv => whnf
  refine vLoop h ?_
  rintro I0 μ0 ⟨v0, ⟨⟩⟩ zs0 h hI0 hR0
  change impl_areNames_loop0 list0 v0 = some zs0 at h
  unfold impl_areNames_loop0 at h
  conv => whnf
  refine vIfD h (fun h => ?_) (fun h => ?_)
  · conv => whnf
    refine vAt h (fun x0 he1a he1b he1x h => ?_)
    conv => whnf
    refine vBind h (fun isName0 hb2 h => ?_)
    conv => whnf
    refine vNot ?_
    refine vIfB h (fun h => ?_) (fun h => ?_)
    · conv => whnf
      refine ⟨by decide, ?_⟩
      conv => whnf
      refine vPre h (fun hp3 h => ?_)
      conv => whnf
      refine vPre h (fun hp4 h => ?_)
      conv => whnf
      refine vBind h (fun string0 hb5 h => ?_)
      conv => whnf
      refine vIfB h (fun h => ?_) (fun h => ?_)
      · conv => whnf
        cases h
        obtain rfl := hR0 _ rfl
        exact hK
      · conv => whnf
        cases h
        exact ⟨⟨rfl, rfl⟩, hI0 _ rfl⟩
    · conv => whnf
      cases h
      obtain rfl := hR0 _ rfl
      exact hK
  · conv => whnf
    cases h
    obtain rfl := hR0 _ rfl
    exact hK
set_option maxRecDepth 100000 in
theorem w_impl_areTables_c1 (k_impl_IsTable' : SoundC Tryz.prog 219 c_impl_IsTable) (k_slices_Min_Sint64_int64' : SoundC Tryz.prog 220 c_slices_Min_Sint64_int64) : SoundC Tryz.prog 218 c_impl_areTables_c1 := by
  refine fn_sound tab_ok (gam_cons k_impl_IsTable' (gam_cons k_slices_Min_Sint64_int64' gam_nil)) mixed {} (fn := Tryz.f218) Tryz.func218 (by kernel_rfl) (by kernel_rfl) ?_
  rintro ⟨t0, a0, ⟨⟩⟩ K ⟨r, h, hK⟩
  change impl_areTables_c1 t0 a0 = some r at h
  unfold impl_areTables_c1 at h
  conv => whnf
  refine vBind h (fun IsTable0 hb0 h => ?_)
  conv => whnf
  refine vNot ?_
  refine vIfB h (fun h => ?_) (fun h => ?_)
  · conv => whnf
    refine vIfB h (fun h => ?_) (fun h => ?_)
    · conv => whnf
      refine vBind h (fun int64_0 hb1 h => ?_)
      conv => whnf
      cases h
      exact hK
    · conv => whnf
      cases h
      exact hK
  · conv => whnf
    cases h
    exact hK
set_option maxRecDepth 100000 in
theorem w_impl_length_int64 : SoundC Tryz.prog 103 c_impl_length_int64 := by
  refine fn_sound tab_ok gam_nil mixed {} (fn := Tryz.f103) Tryz.func103 (by kernel_rfl) (by kernel_rfl) ?_
  rintro ⟨list0, ⟨⟩⟩ K ⟨r, h, hK⟩
  change impl_length_int64 list0 = some r at h
  unfold impl_length_int64 at h
  conv => whnf
  cases h
  exact hK
set_option maxRecDepth 100000 in
theorem w_impl_newView (k_impl_Design_places' : SoundC Tryz.prog 100 c_impl_Design_places) (k_impl_Block_cellLinks' : SoundC Tryz.prog 102 c_impl_Block_cellLinks) (k_impl_length_int64' : SoundC Tryz.prog 103 c_impl_length_int64) (k_impl_Block_nodeLoads' : SoundC Tryz.prog 104 c_impl_Block_nodeLoads) (k_impl_Block_exactDelays' : SoundC Tryz.prog 105 c_impl_Block_exactDelays) : SoundC Tryz.prog 57 c_impl_newView := by
  refine fn_sound tabD_ok (gam_cons k_impl_Design_places' (gam_cons k_impl_Block_cellLinks' (gam_cons k_impl_length_int64' (gam_cons k_impl_Block_nodeLoads' (gam_cons k_impl_Block_exactDelays' gam_nil))))) mixed { loops := [(0, [.reg 4 (.dat (.int .i64)), .reg 25 (.dat (.int .i64)), .cello 2 6 (.ol 117 (.flat (tLink)))]), (2, [.reg 60 (.dat (.int .i64)), .ent 4 (nat_lit 2) (.flat ti35.ety), .ent 5 (nat_lit 35) (Dp.ol (2 : Go.TypeId) (Dp.flat (Ty.int IntKind.i64)))]), (4, [.reg 88 (.dat (.int .i64)), .cello 2 7 (.ol 2 (.flat (.int .i64))), .cello 2 8 (.ol 35 (.ol 2 (.flat (.int .i64)))), .cello 2 6 (.ol (nat_lit 117) (.flat tLink)), .ent 5 (nat_lit 35) (Dp.ol (2 : Go.TypeId) (Dp.flat (Ty.int IntKind.i64)))]), (6, [.reg 122 (.dat (.int .i64)), .cello 2 6 (.ol (nat_lit 117) (.flat tLink))]), (8, [.reg 127 (.dat (.int .i64)), .cello 2 6 (.ol (nat_lit 117) (.flat tLink))])], draws := [(1, [0, 0, 2, 6, 15, 31, 63], .op 0 (.op 1 (.op 2 (.alt 3 (.op 4 (.alt 5 (.op 6 (.done)) (.done))) (.done))))), (6, [0, 0, 2, 6, 14, 0, 0, 0, 224, 510, 1023, 2047, 4095], .op 0 (.op 1 (.op 2 (.op 3 (.op 4 (.op 5 (.op 6 (.op 7 (.alt 8 (.alt 9 (.op 10 (.op 11 (.alt 12 (.done) (.done)))) (.done)) (.done)))))))))), (16, [0, 0, 2, 0, 0, 16, 56, 120, 0, 256, 1016, 2047, 4095], .op 0 (.op 1 (.op 3 (.op 4 (.op 5 (.op 6 (.op 7 (.op 8 (.alt 2 (.alt 9 (.alt 10 (.op 11 (.alt 12 (.done) (.done))) (.done)) (.done)) (.alt 9 (.alt 2 (.alt 10 (.op 11 (.alt 12 (.done) (.done))) (.done)) (.alt 10 (.alt 2 (.op 11 (.alt 12 (.done) (.done))) (.done)) (.done))) (.done))))))))))), (21, [0, 0, 2, 6, 14, 0, 0, 96, 224, 480, 992, 2046, 4095, 8191, 16383], .op 0 (.op 1 (.op 2 (.op 3 (.op 4 (.op 5 (.op 6 (.alt 7 (.op 8 (.op 9 (.alt 10 (.alt 11 (.op 12 (.op 13 (.alt 14 (.done) (.done)))) (.done)) (.done)))) (.done))))))))), (22, [0, 0, 2, 6, 14, 0, 0, 96, 224, 510, 1023, 2047, 4095], .op 0 (.op 1 (.op 2 (.op 3 (.op 4 (.op 5 (.op 6 (.alt 7 (.alt 8 (.alt 9 (.op 10 (.op 11 (.alt 12 (.done) (.done)))) (.done)) (.done)) (.done))))))))), (29, [0, 0, 2, 6, 14, 0, 0, 96, 224, 480, 0, 2016, 0, 4096, 0, 28672, 0, 131040, 262112, 524286, 1048575, 2097151, 4194303], .op 0 (.op 1 (.op 2 (.op 3 (.op 4 (.op 5 (.op 6 (.op 7 (.op 8 (.op 9 (.op 10 (.op 11 (.op 12 (.op 13 (.op 14 (.op 15 (.op 16 (.op 17 (.alt 18 (.alt 19 (.op 20 (.op 21 (.alt 22 (.done) (.done)))) (.done)) (.done))))))))))))))))))))] } (fn := Tryz.f57) Tryz.func57 (by kernel_rfl) (by kernel_rfl) ?_
  rintro ⟨a0, ⟨⟩⟩ K ⟨r, h, hK⟩
  change impl_newView a0 = some r at h
  unfold impl_newView at h
  conv => whnf
  refine ⟨by kernel_rfl, ?_⟩
  conv => whnf
  refine vBind h (fun places0 hb0 h => ?_)
  conv => whnf
  refine vLoop h ?_
  rintro I1 μ1 ⟨v0, v1, c0, ⟨⟩⟩ zs1 h hI1 hR1
  change impl_newView_loop4 a0 places0 v0 v1 c0 = some zs1 at h
  unfold impl_newView_loop4 at h
  conv => whnf
  refine vIfD h (fun h => ?_) (fun h => ?_)
  · conv => whnf
    refine vAt h (fun x0 he2a he2b he2x h => ?_)
    conv => whnf
    refine ⟨by kernel_rfl, ?_⟩
    conv => whnf
    refine vBind h (fun cellLinks0 hb3 h => ?_)
    conv => whnf
    refine vPre h (fun hp4 h => ?_)
    conv => whnf
    refine vBind h (fun int64_0 hb5 h => ?_)
    conv => whnf
    cases h
    exact ⟨⟨rfl, rfl⟩, hI1 _ rfl⟩
  · conv => whnf
    refine vPre h (fun hp6 h => ?_)
    conv => whnf
    refine vPre h (fun hp7 h => ?_)
    conv => whnf
    refine vPre h (fun hp8 h => ?_)
    conv => whnf
    refine vPre h (fun hp9 h => ?_)
    conv => whnf
    refine ⟨hp6, ?_⟩
    conv => whnf
    refine ⟨hp7, ?_⟩
    conv => whnf
    refine ⟨hp8, ?_⟩
    conv => whnf
    refine vPre h (fun hp10 h => ?_)
    conv => whnf
    intro fp11
    conv => whnf
    refine vLoop h ?_
    rintro I12 μ12 ⟨v2, l0, l1, ⟨⟩⟩ zs12 h hI12 hR12
    change impl_newView_loop3 a0 places0 c0 v2 l0 l1 = some zs12 at h
    unfold impl_newView_loop3 at h
    conv => whnf
    intro fp13
    conv => whnf
    refine vIfD h (fun h => ?_) (fun h => ?_)
    · conv => whnf
      refine vAt h (fun x0 he14a he14b he14x h => ?_)
      conv => whnf
      refine ⟨by kernel_rfl, ?_⟩
      conv => whnf
      refine ⟨he14a, he14b, vAgain he14x ?_⟩
      conv => whnf
      refine vIfB h (fun h => ?_) (fun h => ?_)
      · conv => whnf
        refine vAt h (fun x1 he15a he15b he15x h => ?_)
        conv => whnf
        refine ⟨by kernel_rfl, ?_⟩
        conv => whnf
        refine ⟨by decide, ?_⟩
        conv => whnf
        refine ⟨he15a, he15b, vAgain he15x ?_⟩
        conv => whnf
        cases h
        exact ⟨⟨rfl, rfl⟩, hI12 _ rfl⟩
      · conv => whnf
        refine ⟨by kernel_rfl, ?_⟩
        conv => whnf
        refine vAt h (fun x1 he16a he16b he16x h => ?_)
        conv => whnf
        refine ⟨he16a, he16b, vAgain he16x ?_⟩
        conv => whnf
        intro fp17
        conv => whnf
        refine ⟨?_, ?_⟩
        · conv => whnf
          refine vPre h (fun hp18 h => ?_)
          conv => whnf
          refine ⟨he16a, he16b, vAgain he16x ?_⟩
          conv => whnf
          refine .inl ⟨rfl, ?_⟩
          conv => whnf
          cases h
          exact ⟨⟨rfl, rfl⟩, hI12 _ rfl⟩
        · obtain ⟨hp18, h⟩ := guardE h
          conv => whnf
          refine ⟨?_, ?_⟩
          · conv => whnf
            refine ⟨hp18, ?_⟩
            conv => whnf
            refine ⟨he16a, he16b, vAgain he16x ?_⟩
            conv => whnf
            refine .inl ⟨rfl, ?_⟩
            conv => whnf
            cases h
            exact ⟨⟨rfl, rfl⟩, hI12 _ rfl⟩
          · conv => whnf
            refine ⟨hp18, ?_⟩
            conv => whnf
            refine ⟨he16a, he16b, vAgain he16x ?_⟩
            conv => whnf
            refine .inl ⟨rfl, ?_⟩
            conv => whnf
            cases h
            exact ⟨⟨rfl, rfl⟩, hI12 _ rfl⟩
    · conv => whnf
      refine vLoop h ?_
      rintro I19 μ19 ⟨v3, c1, c2, c3, l2, ⟨⟩⟩ zs19 h hI19 hR19
      change impl_newView_loop2 a0 places0 l0 v3 c1 c2 c3 l2 = some zs19 at h
      unfold impl_newView_loop2 at h
      conv => whnf
      intro fp20
      conv => whnf
      intro fp21
      conv => whnf
      refine vIfD h (fun h => ?_) (fun h => ?_)
      · conv => whnf
        refine ⟨by kernel_rfl, ?_⟩
        conv => whnf
        refine vBind h (fun nodeLoads0 hb22 h => ?_)
        conv => whnf
        refine vAt h (fun x0 he23a he23b he23x h => ?_)
        conv => whnf
        refine ⟨by kernel_rfl, ?_⟩
        conv => whnf
        refine ⟨he23a, he23b, vAgain he23x ?_⟩
        conv => whnf
        refine vPre h (fun hp24 h => ?_)
        conv => whnf
        refine ⟨by kernel_rfl, ?_⟩
        conv => whnf
        refine vBind h (fun exactDelays0 hb25 h => ?_)
        conv => whnf
        intro fp26
        conv => whnf
        refine vPre h (fun hp27 h => ?_)
        conv => whnf
        intro fp28
        conv => whnf
        refine vAt h (fun x1 he29a he29b he29x h => ?_)
        conv => whnf
        refine ⟨he29a, he29b, vAgain he29x ?_⟩
        conv => whnf
        intro fp30
        conv => whnf
        refine vLoop h ?_
        rintro I31 μ31 ⟨v4, c4, ⟨⟩⟩ zs31 h hI31 hR31
        change impl_newView_loop1 l0 v3 c1 c2 l2 x0 exactDelays0 x1 v4 c4 = some zs31 at h
        unfold impl_newView_loop1 at h
        conv => whnf
        refine vIfD h (fun h => ?_) (fun h => ?_)
        · conv => whnf
          refine vAt h (fun x2 he32a he32b he32x h => ?_)
          conv => whnf
          refine ⟨by kernel_rfl, ?_⟩
          conv => whnf
          refine ⟨he32a, he32b, vAgain he32x ?_⟩
          conv => whnf
          refine vLoop h ?_
          rintro I33 μ33 ⟨v5, c5, ⟨⟩⟩ zs33 h hI33 hR33
          change impl_newView_loop0 l0 v3 v4 x2 v5 c5 = some zs33 at h
          unfold impl_newView_loop0 at h
          conv => whnf
          refine vIfD h (fun h => ?_) (fun h => ?_)
          · conv => whnf
            refine ⟨by kernel_rfl, ?_⟩
            conv => whnf
            refine vAt h (fun x3 he34a he34b he34x h => ?_)
            conv => whnf
            refine ⟨by kernel_rfl, ?_⟩
            conv => whnf
            refine ⟨he34a, he34b, vAgain he34x ?_⟩
            conv => whnf
            refine vPre h (fun hp35 h => ?_)
            conv => whnf
            cases h
            exact ⟨⟨rfl, rfl⟩, hI33 _ rfl⟩
          · conv => whnf
            cases h
            obtain rfl := hR33 _ rfl
            exact ⟨⟨rfl, rfl⟩, hI31 _ rfl⟩
        · conv => whnf
          cases h
          obtain rfl := hR31 _ rfl
          exact ⟨⟨rfl, rfl⟩, hI19 _ rfl⟩
      · conv => whnf
        cases h
        obtain rfl := hR19 _ rfl
        obtain rfl := hR12 _ rfl
        obtain rfl := hR1 _ rfl
        exact hK
set_option maxRecDepth 100000 in
theorem w_laws_eqBlock (k_laws_eqLibrary' : SoundC Tryz.prog 42 c_laws_eqLibrary) (k_laws_eqDesign' : SoundC Tryz.prog 43 c_laws_eqDesign) (k_laws_eqWireS' : SoundC Tryz.prog 44 c_laws_eqWireS) : SoundC Tryz.prog 16 c_laws_eqBlock := by
  refine fn_sound tab_ok (gam_cons k_laws_eqLibrary' (gam_cons k_laws_eqDesign' (gam_cons k_laws_eqWireS' gam_nil))) mixed {} (fn := Tryz.f16) Tryz.func16 (by kernel_rfl) (by kernel_rfl) ?_
  rintro ⟨a0, b0, ⟨⟩⟩ K ⟨r, h, hK⟩
  change laws_eqBlock a0 b0 = some r at h
  unfold laws_eqBlock at h
  conv => whnf
  refine vBind h (fun eqLibrary0 hb0 h => ?_)
  conv => whnf
  refine vNots ?_
  refine vIfB h (fun h => ?_) (fun h => ?_)
  · conv => whnf
    refine vBind h (fun eqDesign0 hb1 h => ?_)
    conv => whnf
    refine vNots ?_
    refine vIfB h (fun h => ?_) (fun h => ?_)
    · conv => whnf
      refine vBind h (fun eqWireS0 hb2 h => ?_)
      conv => whnf
      refine vNots ?_
      refine vIfB h (fun h => ?_) (fun h => ?_)
      · conv => whnf
        cases h
        exact hK
      · conv => whnf
        cases h
        exact hK
    · conv => whnf
      cases h
      exact hK
  · conv => whnf
    cases h
    exact hK
set_option maxRecDepth 100000 in
theorem w_laws_eqCell (k_laws_eqPinS' : SoundC Tryz.prog 150 c_laws_eqPinS) (k_laws_eqArcS' : SoundC Tryz.prog 151 c_laws_eqArcS) (k_laws_eqInt64S' : SoundC Tryz.prog 15 c_laws_eqInt64S) : SoundC Tryz.prog 119 c_laws_eqCell := by
  refine fn_sound tab_ok (gam_cons k_laws_eqPinS' (gam_cons k_laws_eqArcS' (gam_cons k_laws_eqInt64S' gam_nil))) mixed {} (fn := Tryz.f119) Tryz.func119 (by kernel_rfl) (by kernel_rfl) ?_
  rintro ⟨a0, b0, ⟨⟩⟩ K ⟨r, h, hK⟩
  change laws_eqCell a0 b0 = some r at h
  unfold laws_eqCell at h
  conv => whnf
  refine vNots ?_
  refine vIfD h (fun h => ?_) (fun h => ?_)
  · conv => whnf
    refine vNots ?_
    refine vIfD h (fun h => ?_) (fun h => ?_)
    · conv => whnf
      refine vBind h (fun eqPinS0 hb0 h => ?_)
      conv => whnf
      refine vNots ?_
      refine vIfB h (fun h => ?_) (fun h => ?_)
      · conv => whnf
        refine vBind h (fun eqArcS0 hb1 h => ?_)
        conv => whnf
        refine vNots ?_
        refine vIfB h (fun h => ?_) (fun h => ?_)
        · conv => whnf
          refine vBind h (fun eqInt64S0 hb2 h => ?_)
          conv => whnf
          refine vNots ?_
          refine vIfB h (fun h => ?_) (fun h => ?_)
          · conv => whnf
            refine vNots ?_
            refine vIfD h (fun h => ?_) (fun h => ?_)
            · conv => whnf
              refine vNots ?_
              refine vIfD h (fun h => ?_) (fun h => ?_)
              · conv => whnf
                cases h
                exact hK
              · conv => whnf
                cases h
                exact hK
            · conv => whnf
              cases h
              exact hK
          · conv => whnf
            cases h
            exact hK
        · conv => whnf
          cases h
          exact hK
      · conv => whnf
        cases h
        exact hK
    · conv => whnf
      cases h
      exact hK
  · conv => whnf
    cases h
    exact hK
set_option maxRecDepth 100000 in
theorem w_laws_eqInt64S : SoundC Tryz.prog 15 c_laws_eqInt64S := by
  refine fn_sound tab_ok gam_nil mixed { loops := [(0, [.reg 5 (.dat (.int .i64))])], draws := [(6, [0, 0, 3, 7, 0, 0, 48, 112, 255], .op 0 (.op 1 (.op 2 (.op 3 (.op 4 (.op 5 (.op 6 (.op 7 (.op 8 (.done))))))))))] } (fn := Tryz.f15) Tryz.func15 (by kernel_rfl) (by kernel_rfl) ?_
  rintro ⟨a0, b0, ⟨⟩⟩ K ⟨r, h, hK⟩
  change laws_eqInt64S a0 b0 = some r at h
  unfold laws_eqInt64S at h
  conv => whnf
  refine vNots ?_
  refine vIfD h (fun h => ?_) (fun h => ?_)
  · conv => whnf
    refine vLoop h ?_
    rintro I0 μ0 ⟨i0, ⟨⟩⟩ zs0 h hI0 hR0
    change laws_eqInt64S_loop0 a0 b0 i0 = some zs0 at h
    unfold laws_eqInt64S_loop0 at h
    conv => whnf
    refine vIfD h (fun h => ?_) (fun h => ?_)
    · conv => whnf
      refine ⟨by kernel_rfl, ?_⟩
      conv => whnf
      refine vAt h (fun x0 he1a he1b he1x h => ?_)
      conv => whnf
      refine vAt h (fun x1 he2a he2b he2x h => ?_)
      conv => whnf
      refine vNots ?_
      refine vIfD h (fun h => ?_) (fun h => ?_)
      · conv => whnf
        cases h
        exact ⟨⟨rfl, rfl⟩, hI0 _ rfl⟩
      · conv => whnf
        cases h
        obtain rfl := hR0 _ rfl
        exact hK
    · conv => whnf
      cases h
      obtain rfl := hR0 _ rfl
      exact hK
  · conv => whnf
    cases h
    exact hK
set_option maxRecDepth 100000 in
theorem w_laws_eqPortS (k_laws_eqPort' : SoundC Tryz.prog 121 c_laws_eqPort) : SoundC Tryz.prog 86 c_laws_eqPortS := by
  refine fn_sound tab_ok (gam_cons k_laws_eqPort' gam_nil) mixed { loops := [(0, [.reg 5 (.dat (.int .i64))])], draws := [(6, [0, 0, 3, 7, 0, 0, 48, 112, 255, 511], .op 0 (.op 1 (.op 2 (.op 3 (.op 4 (.op 5 (.op 6 (.op 7 (.alt 8 (.op 9 (.done)) (.done))))))))))] } (fn := Tryz.f86) Tryz.func86 (by kernel_rfl) (by kernel_rfl) ?_
  rintro ⟨a0, b0, ⟨⟩⟩ K ⟨r, h, hK⟩
  change laws_eqPortS a0 b0 = some r at h
  unfold laws_eqPortS at h
  conv => whnf
  refine vNots ?_
  refine vIfD h (fun h => ?_) (fun h => ?_)
  · conv => whnf
    refine vLoop h ?_
    rintro I0 μ0 ⟨i0, ⟨⟩⟩ zs0 h hI0 hR0
    change laws_eqPortS_loop0 a0 b0 i0 = some zs0 at h
    unfold laws_eqPortS_loop0 at h
    conv => whnf
    refine vIfD h (fun h => ?_) (fun h => ?_)
    · conv => whnf
      refine ⟨by kernel_rfl, ?_⟩
      conv => whnf
      refine vAt h (fun x0 he1a he1b he1x h => ?_)
      conv => whnf
      refine vAt h (fun x1 he2a he2b he2x h => ?_)
      conv => whnf
      refine vBind h (fun eqPort0 hb3 h => ?_)
      conv => whnf
      refine vNots ?_
      refine vIfB h (fun h => ?_) (fun h => ?_)
      · conv => whnf
        cases h
        exact ⟨⟨rfl, rfl⟩, hI0 _ rfl⟩
      · conv => whnf
        cases h
        obtain rfl := hR0 _ rfl
        exact hK
    · conv => whnf
      cases h
      obtain rfl := hR0 _ rfl
      exact hK
  · conv => whnf
    cases h
    exact hK
set_option maxRecDepth 100000 in
theorem w_laws_eqTable (k_laws_eqInt64S' : SoundC Tryz.prog 15 c_laws_eqInt64S) : SoundC Tryz.prog 194 c_laws_eqTable := by
  refine fn_sound tab_ok (gam_cons k_laws_eqInt64S' gam_nil) mixed {} (fn := Tryz.f194) Tryz.func194 (by kernel_rfl) (by kernel_rfl) ?_
  rintro ⟨a0, b0, ⟨⟩⟩ K ⟨r, h, hK⟩
  change laws_eqTable a0 b0 = some r at h
  unfold laws_eqTable at h
  conv => whnf
  refine vBind h (fun eqInt64S0 hb0 h => ?_)
  conv => whnf
  refine vNots ?_
  refine vIfB h (fun h => ?_) (fun h => ?_)
  · conv => whnf
    refine vBind h (fun eqInt64S1 hb1 h => ?_)
    conv => whnf
    refine vNots ?_
    refine vIfB h (fun h => ?_) (fun h => ?_)
    · conv => whnf
      refine vBind h (fun eqInt64S2 hb2 h => ?_)
      conv => whnf
      refine vNots ?_
      refine vIfB h (fun h => ?_) (fun h => ?_)
      · conv => whnf
        cases h
        exact hK
      · conv => whnf
        cases h
        exact hK
    · conv => whnf
      cases h
      exact hK
  · conv => whnf
    cases h
    exact hK
set_option maxRecDepth 100000 in
theorem w_laws_markCellS (k_laws_markText' : SoundC Tryz.prog 122 c_laws_markText) (k_laws_markPinS' : SoundC Tryz.prog 123 c_laws_markPinS) (k_laws_markArcS' : SoundC Tryz.prog 124 c_laws_markArcS) (k_laws_markInt64S' : SoundC Tryz.prog 18 c_laws_markInt64S) : SoundC Tryz.prog 88 c_laws_markCellS := by
  refine fn_sound tabD_ok (gam_cons k_laws_markText' (gam_cons k_laws_markPinS' (gam_cons k_laws_markArcS' (gam_cons k_laws_markInt64S' gam_nil)))) mixed { loops := [(0, [.reg 1 (.dat (.int .i64)), .reg 5 (.dat (.int .i64)), .ent 0 (nat_lit 122) (Dp.pair (Dp.flat Ty.str) (Dp.pair (Dp.flat (Ty.int IntKind.i64)) (Dp.pair (Dp.ol (223 : Go.TypeId) (Dp.flat tPin)) (Dp.pair (Dp.ol (127 : Go.TypeId) dArc) (Dp.pair (Dp.ol (2 : Go.TypeId) (Dp.flat (Ty.int IntKind.i64))) (Dp.pair (Dp.flat (Ty.int IntKind.i64)) (Dp.pair (Dp.flat (Ty.int IntKind.i64)) (Dp.flat Ty.unit))))))))])] } (fn := Tryz.f88) Tryz.func88 (by kernel_rfl) (by kernel_rfl) ?_
  rintro ⟨a0, k0, ⟨⟩⟩ K ⟨r, h, hK⟩
  change laws_markCellS a0 k0 = some r at h
  unfold laws_markCellS at h
  conv => whnf
  intro fp0
  conv => whnf
  refine vLoop h ?_
  rintro I1 μ1 ⟨k1, i0, l0, ⟨⟩⟩ zs1 h hI1 hR1
  change laws_markCellS_loop0 k1 i0 l0 = some zs1 at h
  unfold laws_markCellS_loop0 at h
  conv => whnf
  intro fp2
  conv => whnf
  refine vIfD h (fun h => ?_) (fun h => ?_)
  · conv => whnf
    refine vBind h (fun markText0 hb3 h => ?_)
    conv => whnf
    refine vAt h (fun x0 he4a he4b he4x h => ?_)
    conv => whnf
    refine ⟨he4a, he4b, vAgain he4x ?_⟩
    conv => whnf
    intro fp5
    conv => whnf
    intro fp6
    conv => whnf
    refine ⟨he4a, he4b, vAgain he4x ?_⟩
    conv => whnf
    refine .inl ⟨rfl, ?_⟩
    conv => whnf
    refine ⟨he4a, he4b, vAgain he4x ?_⟩
    conv => whnf
    refine .inl ⟨rfl, ?_⟩
    conv => whnf
    refine vBind h (fun markPinS0 hb7 h => ?_)
    conv => whnf
    refine ⟨he4a, he4b, vAgain he4x ?_⟩
    conv => whnf
    refine .inl ⟨rfl, ?_⟩
    conv => whnf
    refine vBind h (fun markArcS0 hb8 h => ?_)
    conv => whnf
    intro fp9
    conv => whnf
    refine ⟨he4a, he4b, vAgain he4x ?_⟩
    conv => whnf
    refine .inl ⟨rfl, ?_⟩
    conv => whnf
    refine vBind h (fun markInt64S0 hb10 h => ?_)
    conv => whnf
    refine ⟨he4a, he4b, vAgain he4x ?_⟩
    conv => whnf
    refine .inl ⟨rfl, ?_⟩
    conv => whnf
    refine ⟨he4a, he4b, vAgain he4x ?_⟩
    conv => whnf
    refine .inl ⟨rfl, ?_⟩
    conv => whnf
    cases h
    exact ⟨⟨rfl, rfl⟩, hI1 _ rfl⟩
  · conv => whnf
    cases h
    obtain rfl := hR1 _ rfl
    exact hK
set_option maxRecDepth 100000 in
theorem w_laws_markInt64S : SoundC Tryz.prog 18 c_laws_markInt64S := by
  refine fn_sound tabD_ok gam_nil mixed { loops := [(0, [.reg 1 (.dat (.int .i64)), .reg 5 (.dat (.int .i64)), .ent 0 (nat_lit 2) (.flat (Ty.int IntKind.i64))])] } (fn := Tryz.f18) Tryz.func18 (by kernel_rfl) (by kernel_rfl) ?_
  rintro ⟨a0, k0, ⟨⟩⟩ K ⟨r, h, hK⟩
  change laws_markInt64S a0 k0 = some r at h
  unfold laws_markInt64S at h
  conv => whnf
  refine vLoop h ?_
  rintro I0 μ0 ⟨k1, i0, l0, ⟨⟩⟩ zs0 h hI0 hR0
  change laws_markInt64S_loop0 k1 i0 l0 = some zs0 at h
  unfold laws_markInt64S_loop0 at h
  conv => whnf
  refine vIfD h (fun h => ?_) (fun h => ?_)
  · conv => whnf
    refine vAt h (fun x0 he1a he1b he1x h => ?_)
    conv => whnf
    refine ⟨by kernel_rfl, ?_⟩
    conv => whnf
    refine ⟨by decide, ?_⟩
    conv => whnf
    refine ⟨he1a, he1b, vAgain he1x ?_⟩
    conv => whnf
    cases h
    exact ⟨⟨rfl, rfl⟩, hI0 _ rfl⟩
  · conv => whnf
    cases h
    obtain rfl := hR0 _ rfl
    exact hK
set_option maxRecDepth 100000 in
theorem w_laws_markLibrary (k_laws_markCellS' : SoundC Tryz.prog 88 c_laws_markCellS) : SoundC Tryz.prog 45 c_laws_markLibrary := by
  refine fn_sound tabD_ok (gam_cons k_laws_markCellS' gam_nil) mixed {} (fn := Tryz.f45) Tryz.func45 (by kernel_rfl) (by kernel_rfl) ?_
  rintro ⟨a0, k0, ⟨⟩⟩ K ⟨r, h, hK⟩
  change laws_markLibrary a0 k0 = some r at h
  unfold laws_markLibrary at h
  conv => whnf
  intro fp0
  conv => whnf
  refine vBind h (fun markCellS0 hb1 h => ?_)
  conv => whnf
  intro fp2
  conv => whnf
  cases h
  exact hK
set_option maxRecDepth 100000 in
theorem w_laws_szArc (k_laws_szTableS' : SoundC Tryz.prog 178 c_laws_szTableS) : SoundC Tryz.prog 164 c_laws_szArc := by
  refine fn_sound tab_ok (gam_cons k_laws_szTableS' gam_nil) mixed {} (fn := Tryz.f164) Tryz.func164 (by kernel_rfl) (by kernel_rfl) ?_
  rintro ⟨a0, left0, ⟨⟩⟩ K ⟨r, h, hK⟩
  change laws_szArc a0 left0 = some r at h
  unfold laws_szArc at h
  conv => whnf
  refine vBind h (fun szTableS0 hb0 h => ?_)
  conv => whnf
  refine vIfD h (fun h => ?_) (fun h => ?_)
  · conv => whnf
    cases h
    exact hK
  · conv => whnf
    refine vBind h (fun szTableS1 hb1 h => ?_)
    conv => whnf
    refine vIfD h (fun h => ?_) (fun h => ?_)
    · conv => whnf
      cases h
      exact hK
    · conv => whnf
      cases h
      exact hK
set_option maxRecDepth 100000 in
theorem w_laws_szBlock (k_laws_szLibrary' : SoundC Tryz.prog 36 c_laws_szLibrary) (k_laws_szDesign' : SoundC Tryz.prog 37 c_laws_szDesign) (k_laws_szWireS' : SoundC Tryz.prog 38 c_laws_szWireS) : SoundC Tryz.prog 12 c_laws_szBlock := by
  refine fn_sound tab_ok (gam_cons k_laws_szLibrary' (gam_cons k_laws_szDesign' (gam_cons k_laws_szWireS' gam_nil))) mixed {} (fn := Tryz.f12) Tryz.func12 (by kernel_rfl) (by kernel_rfl) ?_
  rintro ⟨a0, left0, ⟨⟩⟩ K ⟨r, h, hK⟩
  change laws_szBlock a0 left0 = some r at h
  unfold laws_szBlock at h
  conv => whnf
  refine vBind h (fun szLibrary0 hb0 h => ?_)
  conv => whnf
  refine vIfD h (fun h => ?_) (fun h => ?_)
  · conv => whnf
    cases h
    exact hK
  · conv => whnf
    refine vBind h (fun szDesign0 hb1 h => ?_)
    conv => whnf
    refine vIfD h (fun h => ?_) (fun h => ?_)
    · conv => whnf
      cases h
      exact hK
    · conv => whnf
      refine vBind h (fun szWireS0 hb2 h => ?_)
      conv => whnf
      refine vIfD h (fun h => ?_) (fun h => ?_)
      · conv => whnf
        cases h
        exact hK
      · conv => whnf
        cases h
        exact hK
set_option maxRecDepth 100000 in
theorem w_laws_szInt64S : SoundC Tryz.prog 115 c_laws_szInt64S := by
  refine fn_sound tab_ok gam_nil mixed {} (fn := Tryz.f115) Tryz.func115 (by kernel_rfl) (by kernel_rfl) ?_
  rintro ⟨a0, left0, ⟨⟩⟩ K ⟨r, h, hK⟩
  change laws_szInt64S a0 left0 = some r at h
  unfold laws_szInt64S at h
  conv => whnf
  refine vIfD h (fun h => ?_) (fun h => ?_)
  · conv => whnf
    cases h
    exact hK
  · conv => whnf
    cases h
    exact hK
set_option maxRecDepth 100000 in
theorem w_laws_szWireS (k_laws_szWire' : SoundC Tryz.prog 77 c_laws_szWire) : SoundC Tryz.prog 38 c_laws_szWireS := by
  refine fn_sound tab_ok (gam_cons k_laws_szWire' gam_nil) mixed { loops := [(0, [.reg 1 (.dat (.int .i64)), .reg 5 (.dat (.int .i64))])] } (fn := Tryz.f38) Tryz.func38 (by kernel_rfl) (by kernel_rfl) ?_
  rintro ⟨a0, left0, ⟨⟩⟩ K ⟨r, h, hK⟩
  change laws_szWireS a0 left0 = some r at h
  unfold laws_szWireS at h
  conv => whnf
  refine vIfD h (fun h => ?_) (fun h => ?_)
  · conv => whnf
    cases h
    exact hK
  · conv => whnf
    refine vLoop h ?_
    rintro I0 μ0 ⟨left1, i0, ⟨⟩⟩ zs0 h hI0 hR0
    change laws_szWireS_loop0 a0 left1 i0 = some zs0 at h
    unfold laws_szWireS_loop0 at h
    conv => whnf
    refine vIfD h (fun h => ?_) (fun h => ?_)
    · conv => whnf
      refine vAt h (fun x0 he1a he1b he1x h => ?_)
      conv => whnf
      refine vBind h (fun szWire0 hb2 h => ?_)
      conv => whnf
      refine vIfD h (fun h => ?_) (fun h => ?_)
      · conv => whnf
        cases h
        obtain rfl := hR0 _ rfl
        exact hK
      · conv => whnf
        cases h
        exact ⟨⟨rfl, rfl⟩, hI0 _ rfl⟩
    · conv => whnf
      cases h
      obtain rfl := hR0 _ rfl
      exact hK
set_option maxRecDepth 100000 in
theorem w_laws_toPin : SoundC Tryz.prog 165 c_laws_toPin := by
  refine fn_sound tab_ok gam_nil mixed {} (fn := Tryz.f165) Tryz.func165 (by kernel_rfl) (by kernel_rfl) ?_
  rintro ⟨a0, ⟨⟩⟩ K ⟨r, h, hK⟩
  change laws_toPin a0 = some r at h
  unfold laws_toPin at h
  conv => whnf
  cases h
  exact hK
set_option maxRecDepth 100000 in
theorem w_laws_toWire (k_laws_toInt64S' : SoundC Tryz.prog 14 c_laws_toInt64S) : SoundC Tryz.prog 82 c_laws_toWire := by
  refine fn_sound tab_ok (gam_cons k_laws_toInt64S' gam_nil) mixed {} (fn := Tryz.f82) Tryz.func82 (by kernel_rfl) (by kernel_rfl) ?_
  rintro ⟨a0, ⟨⟩⟩ K ⟨r, h, hK⟩
  change laws_toWire a0 = some r at h
  unfold laws_toWire at h
  conv => whnf
  refine vBind h (fun toInt64S0 hb0 h => ?_)
  conv => whnf
  refine vBind h (fun toInt64S1 hb1 h => ?_)
  conv => whnf
  refine vBind h (fun toInt64S2 hb2 h => ?_)
  conv => whnf
  refine vBind h (fun toInt64S3 hb3 h => ?_)
  conv => whnf
  cases h
  exact hK
set_option maxRecDepth 100000 in
theorem w_laws_toWireS (k_laws_toWire' : SoundC Tryz.prog 82 c_laws_toWire) : SoundC Tryz.prog 41 c_laws_toWireS := by
  refine fn_sound tabD_ok (gam_cons k_laws_toWire' gam_nil) mixed { loops := [(0, [.reg 4 (.dat (.int .i64)), .ent 0 (nat_lit 147) dWire])] } (fn := Tryz.f41) Tryz.func41 (by kernel_rfl) (by kernel_rfl) ?_
  rintro ⟨a0, ⟨⟩⟩ K ⟨r, h, hK⟩
  change laws_toWireS a0 = some r at h
  unfold laws_toWireS at h
  conv => whnf
  refine vPre h (fun hp0 h => ?_)
  conv => whnf
  refine vPre h (fun hp1 h => ?_)
  conv => whnf
  refine vPre h (fun hp2 h => ?_)
  conv => whnf
  refine vPre h (fun hp3 h => ?_)
  conv => whnf
  intro fp4
  conv => whnf
  refine vLoop h ?_
  rintro I5 μ5 ⟨i0, l0, ⟨⟩⟩ zs5 h hI5 hR5
  change laws_toWireS_loop0 a0 i0 l0 = some zs5 at h
  unfold laws_toWireS_loop0 at h
  conv => whnf
  intro fp6
  conv => whnf
  refine vIfD h (fun h => ?_) (fun h => ?_)
  · conv => whnf
    refine vAt h (fun x0 he7a he7b he7x h => ?_)
    conv => whnf
    refine vBind h (fun toWire0 hb8 h => ?_)
    conv => whnf
    refine vAt h (fun x1 he9a he9b he9x h => ?_)
    conv => whnf
    refine ⟨he9a, he9b, vAgain he9x ?_⟩
    conv => whnf
    intro fp10
    conv => whnf
    cases h
    exact ⟨⟨rfl, rfl⟩, hI5 _ rfl⟩
  · conv => whnf
    cases h
    obtain rfl := hR5 _ rfl
    exact hK
set_option maxRecDepth 100000 in
theorem w_slices_Clone_Sint64_int64 : SoundC Tryz.prog 63 c_slices_Clone_Sint64_int64 := by
  refine fn_sound tab_ok gam_nil mixed {} (fn := Tryz.f63) Tryz.func63 (by kernel_rfl) (by kernel_rfl) ?_
  rintro ⟨s0, ⟨⟩⟩ K ⟨r, h, hK⟩
  change slices_Clone_Sint64_int64 s0 = some r at h
  unfold slices_Clone_Sint64_int64 at h
  conv => whnf
  refine ⟨fun hd => ?_, ?_⟩
  · have h := vSame (T := (some ([] : List Int))) h (by simp [hd, guardO])
    conv => whnf
    cases h
    exact hK
  · conv => whnf
    refine vPre h (fun hp0 h => ?_)
    conv => whnf
    cases h
    exact hK
set_option maxRecDepth 100000 in
theorem w_slices_IndexFunc_Sint64_int64_at_impl_Design_isInstance_c1 (k_impl_Design_isInstance_c1' : SoundC Tryz.prog 160 c_impl_Design_isInstance_c1) : SoundC Tryz.prog 145 c_slices_IndexFunc_Sint64_int64_at_impl_Design_isInstance_c1 := by
  refine fn_sound tab_ok (gam_cons k_impl_Design_isInstance_c1' gam_nil) mixed { loops := [(0, [.reg 8 (.dat (.int .i64))])] } (fn := Tryz.f145) Tryz.func145 (by kernel_rfl) (by kernel_rfl) ?_
  rintro ⟨s0, f0, ⟨⟩⟩ K ⟨r, h, hK⟩
  change slices_IndexFunc_Sint64_int64_at_impl_Design_isInstance_c1 s0 f0 = some r at h
  unfold slices_IndexFunc_Sint64_int64_at_impl_Design_isInstance_c1 at h
  conv => whnf
  refine vLoop h ?_
  rintro I0 μ0 ⟨v0, ⟨⟩⟩ zs0 h hI0 hR0
  change slices_IndexFunc_Sint64_int64_at_impl_Design_isInstance_c1_loop0 s0 f0 v0 = some zs0 at h
  unfold slices_IndexFunc_Sint64_int64_at_impl_Design_isInstance_c1_loop0 at h
  conv => whnf
  refine vIfD h (fun h => ?_) (fun h => ?_)
  · conv => whnf
    refine vAt h (fun x0 he1a he1b he1x h => ?_)
    conv => whnf
    refine vBind h (fun c1_0 hb2 h => ?_)
    conv => whnf
    refine vIfB h (fun h => ?_) (fun h => ?_)
    · conv => whnf
      cases h
      obtain rfl := hR0 _ rfl
      exact hK
    · conv => whnf
      cases h
      exact ⟨⟨rfl, rfl⟩, hI0 _ rfl⟩
  · conv => whnf
    cases h
    obtain rfl := hR0 _ rfl
    exact hK
set_option maxRecDepth 100000 in
theorem w_slices_IndexFunc_Sint_int_at_impl_IsDesign_c1 (k_impl_IsDesign_c1' : SoundC Tryz.prog 139 c_impl_IsDesign_c1) : SoundC Tryz.prog 162 c_slices_IndexFunc_Sint_int_at_impl_IsDesign_c1 := by
  refine fn_sound tab_ok (gam_cons k_impl_IsDesign_c1' gam_nil) mixed { loops := [(0, [.reg 8 (.dat (.int .i64))])] } (fn := Tryz.f162) Tryz.func162 (by kernel_rfl) (by kernel_rfl) ?_
  rintro ⟨s0, f0, ⟨⟩⟩ K ⟨r, h, hK⟩
  change slices_IndexFunc_Sint_int_at_impl_IsDesign_c1 s0 f0 = some r at h
  unfold slices_IndexFunc_Sint_int_at_impl_IsDesign_c1 at h
  conv => whnf
  refine vLoop h ?_
  rintro I0 μ0 ⟨v0, ⟨⟩⟩ zs0 h hI0 hR0
  change slices_IndexFunc_Sint_int_at_impl_IsDesign_c1_loop0 s0 v0 = some zs0 at h
  unfold slices_IndexFunc_Sint_int_at_impl_IsDesign_c1_loop0 at h
  conv => whnf
  refine vIfD h (fun h => ?_) (fun h => ?_)
  · conv => whnf
    refine vAt h (fun x0 he1a he1b he1x h => ?_)
    conv => whnf
    refine vBind h (fun c1_0 hb2 h => ?_)
    conv => whnf
    refine vIfB h (fun h => ?_) (fun h => ?_)
    · conv => whnf
      cases h
      obtain rfl := hR0 _ rfl
      exact hK
    · conv => whnf
      cases h
      exact ⟨⟨rfl, rfl⟩, hI0 _ rfl⟩
  · conv => whnf
    cases h
    obtain rfl := hR0 _ rfl
    exact hK
set_option maxRecDepth 100000 in
theorem w_spec_IsTable (k_spec_l02Axis' : SoundC Tryz.prog 223 c_spec_l02Axis) (k_spec_l01In' : SoundC Tryz.prog 111 c_spec_l01In) : SoundC Tryz.prog 211 c_spec_IsTable := by
  refine fn_sound tab_ok (gam_cons k_spec_l02Axis' (gam_cons k_spec_l01In' gam_nil)) mixed { loops := [(0, [.reg 3 (.dat (.int .i64))])] } (fn := Tryz.f211) Tryz.func211 (by kernel_rfl) (by kernel_rfl) ?_
  rintro ⟨t0, ⟨⟩⟩ K ⟨r, h, hK⟩
  change spec_IsTable t0 = some r at h
  unfold spec_IsTable at h
  conv => whnf
  refine vBind h (fun l02Axis0 hb0 h => ?_)
  conv => whnf
  refine vNot ?_
  refine vIfB h (fun h => ?_) (fun h => ?_)
  · conv => whnf
    refine vBind h (fun l02Axis1 hb1 h => ?_)
    conv => whnf
    refine vNot ?_
    refine vIfB h (fun h => ?_) (fun h => ?_)
    · conv => whnf
      refine vNots ?_
      refine vIfD h (fun h => ?_) (fun h => ?_)
      · conv => whnf
        refine vLoop h ?_
        rintro I2 μ2 ⟨i0, ⟨⟩⟩ zs2 h hI2 hR2
        change spec_IsTable_loop0 t0 i0 = some zs2 at h
        unfold spec_IsTable_loop0 at h
        conv => whnf
        refine vIfD h (fun h => ?_) (fun h => ?_)
        · conv => whnf
          refine vAt h (fun x0 he3a he3b he3x h => ?_)
          conv => whnf
          refine vBind h (fun l01In0 hb4 h => ?_)
          conv => whnf
          refine vNots ?_
          refine vIfB h (fun h => ?_) (fun h => ?_)
          · conv => whnf
            cases h
            exact ⟨⟨rfl, rfl⟩, hI2 _ rfl⟩
          · conv => whnf
            cases h
            obtain rfl := hR2 _ rfl
            exact hK
        · conv => whnf
          cases h
          obtain rfl := hR2 _ rfl
          exact hK
      · conv => whnf
        cases h
        exact hK
    · conv => whnf
      cases h
      exact hK
  · conv => whnf
    cases h
    exact hK
set_option maxRecDepth 100000 in
theorem w_spec_IsWire (k_spec_l01In' : SoundC Tryz.prog 111 c_spec_l01In) : SoundC Tryz.prog 97 c_spec_IsWire := by
  refine fn_sound tab_ok (gam_cons k_spec_l01In' gam_nil) mixed { loops := [(0, [.reg 6 (.dat (.int .i64))]), (2, [.reg 7 (.dat (.int .i64))])] } (fn := Tryz.f97) Tryz.func97 (by kernel_rfl) (by kernel_rfl) ?_
  rintro ⟨a0, a1, ⟨⟩⟩ K ⟨r, h, hK⟩
  change spec_IsWire a0 a1 = some r at h
  unfold spec_IsWire at h
  conv => whnf
  refine vIfDs h (fun h => ?_) (fun h => ?_)
  · conv => whnf
    cases h
    exact hK
  · conv => whnf
    refine vIfDs h (fun h => ?_) (fun h => ?_)
    · conv => whnf
      cases h
      exact hK
    · conv => whnf
      refine vNot ?_
      refine vIfD h (fun h => ?_) (fun h => ?_)
      · conv => whnf
        refine vNot ?_
        refine vIfD h (fun h => ?_) (fun h => ?_)
        · conv => whnf
          refine vNots ?_
          refine vIfD h (fun h => ?_) (fun h => ?_)
          · conv => whnf
            refine vLoop h ?_
            rintro I0 μ0 ⟨v0, ⟨⟩⟩ zs0 h hI0 hR0
            change spec_IsWire_loop1 a0 v0 = some zs0 at h
            unfold spec_IsWire_loop1 at h
            conv => whnf
            refine vIfD h (fun h => ?_) (fun h => ?_)
            · conv => whnf
              refine vAt h (fun x0 he1a he1b he1x h => ?_)
              conv => whnf
              refine vBind h (fun l01In0 hb2 h => ?_)
              conv => whnf
              refine vNot ?_
              refine vIfB h (fun h => ?_) (fun h => ?_)
              · conv => whnf
                refine vAt h (fun x1 he3a he3b he3x h => ?_)
                conv => whnf
                refine vBind h (fun l01In1 hb4 h => ?_)
                conv => whnf
                refine vNots ?_
                refine vIfB h (fun h => ?_) (fun h => ?_)
                · conv => whnf
                  refine vIfD h (fun h => ?_) (fun h => ?_)
                  · conv => whnf
                    refine vAt h (fun x2 he5a he5b he5x h => ?_)
                    conv => whnf
                    refine vNot ?_
                    refine vIfD h (fun h => ?_) (fun h => ?_)
                    · conv => whnf
                      refine ⟨he3a, he3b, vAgain he3x ?_⟩
                      conv => whnf
                      refine vNot ?_
                      refine vIfD h (fun h => ?_) (fun h => ?_)
                      · conv => whnf
                        refine vIfD h (fun h => ?_) (fun h => ?_)
                        · conv => whnf
                          refine ⟨he5a, he5b, vAgain he5x ?_⟩
                          conv => whnf
                          refine vBind h (fun l01In2 hb6 h => ?_)
                          conv => whnf
                          refine vNots ?_
                          refine vIfB h (fun h => ?_) (fun h => ?_)
                          · conv => whnf
                            cases h
                            exact ⟨⟨rfl, rfl⟩, hI0 _ rfl⟩
                          · conv => whnf
                            cases h
                            obtain rfl := hR0 _ rfl
                            exact hK
                        · conv => whnf
                          cases h
                          exact ⟨⟨rfl, rfl⟩, hI0 _ rfl⟩
                      · conv => whnf
                        cases h
                        obtain rfl := hR0 _ rfl
                        exact hK
                    · conv => whnf
                      cases h
                      obtain rfl := hR0 _ rfl
                      exact hK
                  · conv => whnf
                    refine vIfD h (fun h => ?_) (fun h => ?_)
                    · conv => whnf
                      refine vAt h (fun x2 he7a he7b he7x h => ?_)
                      conv => whnf
                      refine vBind h (fun l01In2 hb8 h => ?_)
                      conv => whnf
                      refine vNots ?_
                      refine vIfB h (fun h => ?_) (fun h => ?_)
                      · conv => whnf
                        cases h
                        exact ⟨⟨rfl, rfl⟩, hI0 _ rfl⟩
                      · conv => whnf
                        cases h
                        obtain rfl := hR0 _ rfl
                        exact hK
                    · conv => whnf
                      cases h
                      exact ⟨⟨rfl, rfl⟩, hI0 _ rfl⟩
                · conv => whnf
                  cases h
                  obtain rfl := hR0 _ rfl
                  exact hK
              · conv => whnf
                cases h
                obtain rfl := hR0 _ rfl
                exact hK
            · conv => whnf
              refine vLoop h ?_
              rintro I9 μ9 ⟨v1, ⟨⟩⟩ zs9 h hI9 hR9
              change spec_IsWire_loop0 a0 v1 = some zs9 at h
              unfold spec_IsWire_loop0 at h
              conv => whnf
              refine vIfD h (fun h => ?_) (fun h => ?_)
              · conv => whnf
                refine vAt h (fun x0 he10a he10b he10x h => ?_)
                conv => whnf
                refine vBind h (fun l01In0 hb11 h => ?_)
                conv => whnf
                refine vNots ?_
                refine vIfB h (fun h => ?_) (fun h => ?_)
                · conv => whnf
                  cases h
                  exact ⟨⟨rfl, rfl⟩, hI9 _ rfl⟩
                · conv => whnf
                  cases h
                  obtain rfl := hR9 _ rfl
                  obtain rfl := hR0 _ rfl
                  exact hK
              · conv => whnf
                cases h
                obtain rfl := hR9 _ rfl
                obtain rfl := hR0 _ rfl
                exact hK
          · conv => whnf
            cases h
            exact hK
        · conv => whnf
          cases h
          exact hK
      · conv => whnf
        cases h
        exact hK
set_option maxRecDepth 100000 in
theorem w_spec_l05Names (k_spec_l03Name' : SoundC Tryz.prog 156 c_spec_l03Name) : SoundC Tryz.prog 132 c_spec_l05Names := by
  refine fn_sound tab_ok (gam_cons k_spec_l03Name' gam_nil) mixed { loops := [(0, [.reg 3 (.dat (.int .i64))]), (2, [.reg 4 (.dat (.int .i64))])], draws := [(9, [0, 0, 3, 7, 0, 0, 48, 112, 255], .op 0 (.op 1 (.op 2 (.op 3 (.op 4 (.op 5 (.op 6 (.op 7 (.op 8 (.done))))))))))] } (fn := Tryz.f132) Tryz.func132 (by kernel_rfl) (by kernel_rfl) ?_
  rintro ⟨list0, ⟨⟩⟩ K ⟨r, h, hK⟩
  change spec_l05Names list0 = some r at h
  unfold spec_l05Names at h
  conv => whnf
  refine vLoop h ?_
  rintro I0 μ0 ⟨i0, ⟨⟩⟩ zs0 h hI0 hR0
  change spec_l05Names_loop1 list0 i0 = some zs0 at h
  unfold spec_l05Names_loop1 at h
  conv => whnf
  refine vIfD h (fun h => ?_) (fun h => ?_)
  · conv => whnf
    refine vAt h (fun x0 he1a he1b he1x h => ?_)
    conv => whnf
    refine vBind h (fun l03Name0 hb2 h => ?_)
    conv => whnf
    refine vNots ?_
    refine vIfB h (fun h => ?_) (fun h => ?_)
    · conv => whnf
      refine vLoop h ?_
      rintro I3 μ3 ⟨k0, ⟨⟩⟩ zs3 h hI3 hR3
      change spec_l05Names_loop0 list0 i0 x0 k0 = some zs3 at h
      unfold spec_l05Names_loop0 at h
      conv => whnf
      refine vIfD h (fun h => ?_) (fun h => ?_)
      · conv => whnf
        refine ⟨by kernel_rfl, ?_⟩
        conv => whnf
        refine vAt h (fun x1 he4a he4b he4x h => ?_)
        conv => whnf
        refine ⟨he1a, he1b, vAgain he1x ?_⟩
        conv => whnf
        refine vIfD h (fun h => ?_) (fun h => ?_)
        · conv => whnf
          cases h
          obtain rfl := hR3 _ rfl
          obtain rfl := hR0 _ rfl
          exact hK
        · conv => whnf
          cases h
          exact ⟨⟨rfl, rfl⟩, hI3 _ rfl⟩
      · conv => whnf
        cases h
        obtain rfl := hR3 _ rfl
        exact ⟨⟨rfl, rfl⟩, hI0 _ rfl⟩
    · conv => whnf
      cases h
      obtain rfl := hR0 _ rfl
      exact hK
  · conv => whnf
    cases h
    obtain rfl := hR0 _ rfl
    exact hK
set_option maxRecDepth 100000 in
theorem w_spec_l09Has : SoundC Tryz.prog 70 c_spec_l09Has := by
  refine fn_sound tab_ok gam_nil mixed { loops := [(0, [.reg 5 (.dat (.int .i64))])] } (fn := Tryz.f70) Tryz.func70 (by kernel_rfl) (by kernel_rfl) ?_
  rintro ⟨list0, x0, ⟨⟩⟩ K ⟨r, h, hK⟩
  change spec_l09Has list0 x0 = some r at h
  unfold spec_l09Has at h
  conv => whnf
  refine vLoop h ?_
  rintro I0 μ0 ⟨i0, ⟨⟩⟩ zs0 h hI0 hR0
  change spec_l09Has_loop0 list0 x0 i0 = some zs0 at h
  unfold spec_l09Has_loop0 at h
  conv => whnf
  refine vIfD h (fun h => ?_) (fun h => ?_)
  · conv => whnf
    refine vAt h (fun x1 he1a he1b he1x h => ?_)
    conv => whnf
    refine vIfD h (fun h => ?_) (fun h => ?_)
    · conv => whnf
      cases h
      obtain rfl := hR0 _ rfl
      exact hK
    · conv => whnf
      cases h
      exact ⟨⟨rfl, rfl⟩, hI0 _ rfl⟩
  · conv => whnf
    cases h
    obtain rfl := hR0 _ rfl
    exact hK
set_option maxRecDepth 100000 in
theorem w_spec_l09Pair : SoundC Tryz.prog 69 c_spec_l09Pair := by
  refine fn_sound tabD_ok gam_nil mixed {} (fn := Tryz.f69) Tryz.func69 (by kernel_rfl) (by kernel_rfl) ?_
  rintro ⟨list0, from0, to0, a0, b0, kind0, index0, ⟨⟩⟩ K ⟨r, h, hK⟩
  change spec_l09Pair list0 from0 to0 a0 b0 kind0 index0 = some r at h
  unfold spec_l09Pair at h
  conv => whnf
  refine vPre h (fun hp0 h => ?_)
  conv => whnf
  cases h
  exact hK
end Go.Proofs.YtenpdmpfepgkjaaGreatDoor
