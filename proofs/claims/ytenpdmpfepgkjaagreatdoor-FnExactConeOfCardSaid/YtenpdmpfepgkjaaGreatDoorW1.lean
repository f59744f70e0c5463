/-
  The functions keep their contracts, if what they call does. Printed by program.
-/
import Derived.Test.YtenpdmpfepgkjaaGreatDoorM
import Derived.KernelRfl
namespace Go.Proofs.YtenpdmpfepgkjaaGreatDoor
open Go Go.Sx
set_option maxRecDepth 100000
set_option linter.unusedVariables false
set_option linter.unusedSimpArgs false
set_option maxRecDepth 100000 in
theorem w_impl_Cell_areArcs_c1 : SoundC Tryz.prog 188 c_impl_Cell_areArcs_c1 := by
  refine fn_sound tab_ok gam_nil mixed {} (fn := Tryz.f188) Tryz.func188 (by kernel_rfl) (by kernel_rfl) ?_
  rintro ⟨o0, a0, ⟨⟩⟩ K ⟨r, h, hK⟩
  change impl_Cell_areArcs_c1 o0 a0 = some r at h
  unfold impl_Cell_areArcs_c1 at h
  conv => whnf
  refine vIfD h (fun h => ?_) (fun h => ?_)
  · conv => whnf
    refine vIfD h (fun h => ?_) (fun h => ?_)
    · conv => whnf
      cases h
      exact hK
    · conv => whnf
      cases h
      exact hK
  · conv => whnf
    cases h
    exact hK
set_option maxRecDepth 100000 in
theorem w_impl_Cell_has_c1 : SoundC Tryz.prog 210 c_impl_Cell_has_c1 := by
  refine fn_sound tab_ok gam_nil mixed {} (fn := Tryz.f210) Tryz.func210 (by kernel_rfl) (by kernel_rfl) ?_
  rintro ⟨a0, a1, ⟨⟩⟩ K ⟨r, h, hK⟩
  change impl_Cell_has_c1 a0 a1 = some r at h
  unfold impl_Cell_has_c1 at h
  conv => whnf
  cases h
  exact hK
set_option maxRecDepth 100000 in
theorem w_impl_Cell_isOfKind (k_impl_Cell_output' : SoundC Tryz.prog 189 c_impl_Cell_output) (k_impl_areWithin' : SoundC Tryz.prog 60 c_impl_areWithin) (k_impl_Cell_has' : SoundC Tryz.prog 190 c_impl_Cell_has) : SoundC Tryz.prog 176 c_impl_Cell_isOfKind := by
  refine fn_sound tab_ok (gam_cons k_impl_Cell_output' (gam_cons k_impl_areWithin' (gam_cons k_impl_Cell_has' gam_nil))) mixed { loops := [(0, [.reg 3 (.dat (.int .i64)), .reg 9 (.dat (.int .i64))])], draws := [(10, [0, 1, 3, 7, 15, 31, 7, 71, 199, 511, 1023, 2047, 4095, 8191, 16383, 32767, 65535], .op 0 (.op 1 (.op 2 (.op 3 (.op 4 (.op 5 (.op 6 (.alt 7 (.op 8 (.op 9 (.op 10 (.op 11 (.op 12 (.op 13 (.alt 14 (.op 15 (.op 16 (.done))) (.done)))))))) (.done))))))))), (12, [0, 1, 3, 7, 15, 31, 63, 127, 255, 511, 1023, 2047, 4095, 8191, 16383, 32767, 16383, 131071, 262143, 524287, 1048575], .op 0 (.op 1 (.op 2 (.op 3 (.op 4 (.op 5 (.op 6 (.op 7 (.op 8 (.op 9 (.alt 10 (.op 11 (.op 12 (.op 13 (.op 14 (.op 16 (.alt 15 (.alt 17 (.op 18 (.op 19 (.op 20 (.done)))) (.done)) (.done))))))) (.done))))))))))))] } (fn := Tryz.f176) Tryz.func176 (by kernel_rfl) (by kernel_rfl) ?_
  rintro ⟨a0, ⟨⟩⟩ K ⟨r, h, hK⟩
  change impl_Cell_isOfKind a0 = some r at h
  unfold impl_Cell_isOfKind at h
  conv => whnf
  refine vLoop h ?_
  rintro I0 μ0 ⟨v0, v1, ⟨⟩⟩ zs0 h hI0 hR0
  change impl_Cell_isOfKind_loop0 a0 v0 v1 = some zs0 at h
  unfold impl_Cell_isOfKind_loop0 at h
  conv => whnf
  refine vIfD h (fun h => ?_) (fun h => ?_)
  · conv => whnf
    refine vAt h (fun x0 he1a he1b he1x h => ?_)
    conv => whnf
    refine vIfB h (fun h => ?_) (fun h => ?_)
    · conv => whnf
      cases h
      exact ⟨⟨rfl, rfl⟩, hI0 _ rfl⟩
    · conv => whnf
      cases h
      exact ⟨⟨rfl, rfl⟩, hI0 _ rfl⟩
  · conv => whnf
    refine vIfD h (fun h => ?_) (fun h => ?_)
    · conv => whnf
      refine ⟨by kernel_rfl, ?_⟩
      conv => whnf
      refine vIfD h (fun h => ?_) (fun h => ?_)
      · conv => whnf
        refine vBind h (fun output0 hb2 h => ?_)
        conv => whnf
        refine vPre h (fun hp3 h => ?_)
        conv => whnf
        refine vIfD h (fun h => ?_) (fun h => ?_)
        · conv => whnf
          refine vBind h (fun areWithin0 hb4 h => ?_)
          conv => whnf
          cases h
          obtain rfl := hR0 _ rfl
          exact hK
        · conv => whnf
          cases h
          obtain rfl := hR0 _ rfl
          exact hK
      · conv => whnf
        cases h
        obtain rfl := hR0 _ rfl
        exact hK
    · conv => whnf
      refine vIfD h (fun h => ?_) (fun h => ?_)
      · conv => whnf
        refine ⟨by kernel_rfl, ?_⟩
        conv => whnf
        refine vIfD h (fun h => ?_) (fun h => ?_)
        · conv => whnf
          refine vIfD h (fun h => ?_) (fun h => ?_)
          · conv => whnf
            refine vBind h (fun has0 hb5 h => ?_)
            conv => whnf
            refine vNots ?_
            refine vIfB h (fun h => ?_) (fun h => ?_)
            · conv => whnf
              cases h
              obtain rfl := hR0 _ rfl
              exact hK
            · conv => whnf
              refine vBind h (fun has1 hb6 h => ?_)
              conv => whnf
              refine vBind h (fun has2 hb7 h => ?_)
              conv => whnf
              cases h
              obtain rfl := hR0 _ rfl
              exact hK
          · conv => whnf
            cases h
            obtain rfl := hR0 _ rfl
            exact hK
        · conv => whnf
          cases h
          obtain rfl := hR0 _ rfl
          exact hK
      · conv => whnf
        refine vIfD h (fun h => ?_) (fun h => ?_)
        · conv => whnf
          refine vIfD h (fun h => ?_) (fun h => ?_)
          · conv => whnf
            refine vIfD h (fun h => ?_) (fun h => ?_)
            · conv => whnf
              refine vBind h (fun has0 hb8 h => ?_)
              conv => whnf
              refine vIfB h (fun h => ?_) (fun h => ?_)
              · conv => whnf
                refine vBind h (fun has1 hb9 h => ?_)
                conv => whnf
                refine vIfB h (fun h => ?_) (fun h => ?_)
                · conv => whnf
                  refine vBind h (fun has2 hb10 h => ?_)
                  conv => whnf
                  cases h
                  obtain rfl := hR0 _ rfl
                  exact hK
                · conv => whnf
                  cases h
                  obtain rfl := hR0 _ rfl
                  exact hK
              · conv => whnf
                cases h
                obtain rfl := hR0 _ rfl
                exact hK
            · conv => whnf
              cases h
              obtain rfl := hR0 _ rfl
              exact hK
          · conv => whnf
            cases h
            obtain rfl := hR0 _ rfl
            exact hK
        · conv => whnf
          cases h
          obtain rfl := hR0 _ rfl
          exact hK
set_option maxRecDepth 100000 in
theorem w_impl_ConeOf (k_impl_newGraph' : SoundC Tryz.prog 23 c_impl_newGraph) (k_impl_view_areNodes' : SoundC Tryz.prog 24 c_impl_view_areNodes) (k_impl_graph_reach_at_impl_forward' : SoundC Tryz.prog 26 c_impl_graph_reach_at_impl_forward) (k_impl_indicesOf' : SoundC Tryz.prog 25 c_impl_indicesOf) : SoundC Tryz.prog 7 c_impl_ConeOf := by
  refine fn_sound tab_ok (gam_cons k_impl_newGraph' (gam_cons k_impl_view_areNodes' (gam_cons k_impl_graph_reach_at_impl_forward' (gam_cons k_impl_indicesOf' gam_nil)))) mixed {} (fn := Tryz.f7) Tryz.func7 (by kernel_rfl) (by kernel_rfl) ?_
  rintro ⟨b0, broken0, nodes0, ⟨⟩⟩ K ⟨r, h, hK⟩
  change impl_ConeOf b0 broken0 nodes0 = some r at h
  unfold impl_ConeOf at h
  conv => whnf
  refine vBind h (fun newGraph0 hb0 h => ?_)
  conv => whnf
  refine vNots ?_
  refine vIfD h (fun h => ?_) (fun h => ?_)
  · conv => whnf
    refine vBind h (fun fst0 hb1 h => ?_)
    conv => whnf
    refine vBind h (fun areNodes0 hb2 h => ?_)
    conv => whnf
    refine vNots ?_
    refine vIfB h (fun h => ?_) (fun h => ?_)
    · conv => whnf
      refine ⟨_, hb1, ?_⟩
      conv => whnf
      refine vBind h (fun forward0 hb3 h => ?_)
      conv => whnf
      refine vBind h (fun indicesOf0 hb4 h => ?_)
      conv => whnf
      cases h
      exact hK
    · conv => whnf
      cases h
      exact hK
  · conv => whnf
    cases h
    exact hK
set_option maxRecDepth 100000 in
theorem w_impl_IsBlock (k_impl_IsDesign' : SoundC Tryz.prog 99 c_impl_IsDesign) (k_impl_Design_places' : SoundC Tryz.prog 100 c_impl_Design_places) (k_impl_IsWire' : SoundC Tryz.prog 101 c_impl_IsWire) : SoundC Tryz.prog 56 c_impl_IsBlock := by
  refine fn_sound tab_ok (gam_cons k_impl_IsDesign' (gam_cons k_impl_Design_places' (gam_cons k_impl_IsWire' gam_nil))) mixed { loops := [(0, [.reg 32 (.dat (.int .i64)), .ent 1 (nat_lit 2) (.flat ti35.ety)]), (2, [.reg 50 (.dat (.int .i64))])], draws := [(13, [0, 0, 0, 6, 14, 31, 63], .op 0 (.op 1 (.op 2 (.op 3 (.op 4 (.alt 5 (.op 6 (.done)) (.done)))))))] } (fn := Tryz.f56) Tryz.func56 (by kernel_rfl) (by kernel_rfl) ?_
  rintro ⟨b0, ⟨⟩⟩ K ⟨r, h, hK⟩
  change impl_IsBlock b0 = some r at h
  unfold impl_IsBlock at h
  conv => whnf
  refine vBind h (fun IsDesign0 hb0 h => ?_)
  conv => whnf
  refine vNot ?_
  refine vIfB h (fun h => ?_) (fun h => ?_)
  · conv => whnf
    refine vNots ?_
    refine vIfD h (fun h => ?_) (fun h => ?_)
    · conv => whnf
      refine vPre h (fun hp1 h => ?_)
      conv => whnf
      refine vPre h (fun hp2 h => ?_)
      conv => whnf
      refine vPre h (fun hp3 h => ?_)
      conv => whnf
      refine vPre h (fun hp4 h => ?_)
      conv => whnf
      refine vBind h (fun places0 hb5 h => ?_)
      conv => whnf
      refine vLoop h ?_
      rintro I6 μ6 ⟨v0, l0, ⟨⟩⟩ zs6 h hI6 hR6
      change impl_IsBlock_loop1 b0 places0 v0 l0 = some zs6 at h
      unfold impl_IsBlock_loop1 at h
      conv => whnf
      refine vIfD h (fun h => ?_) (fun h => ?_)
      · conv => whnf
        refine vAt h (fun x0 he7a he7b he7x h => ?_)
        conv => whnf
        refine ⟨by kernel_rfl, ?_⟩
        conv => whnf
        refine ⟨he7a, he7b, vAgain he7x ?_⟩
        conv => whnf
        refine vNots ?_
        refine vIfB h (fun h => ?_) (fun h => ?_)
        · conv => whnf
          cases h
          exact ⟨⟨rfl, rfl⟩, hI6 _ rfl⟩
        · conv => whnf
          refine vAt h (fun x1 he8a he8b he8x h => ?_)
          conv => whnf
          refine ⟨by kernel_rfl, ?_⟩
          conv => whnf
          refine ⟨he8a, he8b, vAgain he8x ?_⟩
          conv => whnf
          refine ⟨he8a, he8b, vAgain he8x ?_⟩
          conv => whnf
          refine ⟨by kernel_rfl, ?_⟩
          conv => whnf
          refine ⟨by decide, ?_⟩
          conv => whnf
          refine ⟨he8a, he8b, vAgain he8x ?_⟩
          conv => whnf
          cases h
          exact ⟨⟨rfl, rfl⟩, hI6 _ rfl⟩
      · conv => whnf
        refine vLoop h ?_
        rintro I9 μ9 ⟨v1, ⟨⟩⟩ zs9 h hI9 hR9
        change impl_IsBlock_loop0 b0 l0 v1 = some zs9 at h
        unfold impl_IsBlock_loop0 at h
        conv => whnf
        refine vIfD h (fun h => ?_) (fun h => ?_)
        · conv => whnf
          refine vAt h (fun x0 he10a he10b he10x h => ?_)
          conv => whnf
          refine ⟨by kernel_rfl, ?_⟩
          conv => whnf
          refine vAt h (fun x1 he11a he11b he11x h => ?_)
          conv => whnf
          refine ⟨by kernel_rfl, ?_⟩
          conv => whnf
          refine ⟨he11a, he11b, vAgain he11x ?_⟩
          conv => whnf
          refine vBind h (fun IsWire0 hb12 h => ?_)
          conv => whnf
          refine vNots ?_
          refine vIfB h (fun h => ?_) (fun h => ?_)
          · conv => whnf
            cases h
            exact ⟨⟨rfl, rfl⟩, hI9 _ rfl⟩
          · conv => whnf
            cases h
            obtain rfl := hR9 _ rfl
            obtain rfl := hR6 _ rfl
            exact hK
        · conv => whnf
          cases h
          obtain rfl := hR9 _ rfl
          obtain rfl := hR6 _ rfl
          exact hK
    · conv => whnf
      cases h
      exact hK
  · conv => whnf
    cases h
    exact hK
set_option maxRecDepth 100000 in
theorem w_impl_IsCell (k_impl_isName' : SoundC Tryz.prog 173 c_impl_isName) (k_impl_arePins' : SoundC Tryz.prog 174 c_impl_arePins) (k_impl_Cell_areArcs' : SoundC Tryz.prog 175 c_impl_Cell_areArcs) (k_impl_within' : SoundC Tryz.prog 109 c_impl_within) (k_impl_Cell_isOfKind' : SoundC Tryz.prog 176 c_impl_Cell_isOfKind) : SoundC Tryz.prog 157 c_impl_IsCell := by
  refine fn_sound tab_ok (gam_cons k_impl_isName' (gam_cons k_impl_arePins' (gam_cons k_impl_Cell_areArcs' (gam_cons k_impl_within' (gam_cons k_impl_Cell_isOfKind' gam_nil))))) mixed {} (fn := Tryz.f157) Tryz.func157 (by kernel_rfl) (by kernel_rfl) ?_
  rintro ⟨c0, ⟨⟩⟩ K ⟨r, h, hK⟩
  change impl_IsCell c0 = some r at h
  unfold impl_IsCell at h
  conv => whnf
  refine vBind h (fun isName0 hb0 h => ?_)
  conv => whnf
  refine vIfB h (fun h => ?_) (fun h => ?_)
  · conv => whnf
    refine vBind h (fun arePins0 hb1 h => ?_)
    conv => whnf
    refine vIfB h (fun h => ?_) (fun h => ?_)
    · conv => whnf
      refine vBind h (fun areArcs0 hb2 h => ?_)
      conv => whnf
      refine vIfB h (fun h => ?_) (fun h => ?_)
      · conv => whnf
        refine vBind h (fun within0 hb3 h => ?_)
        conv => whnf
        refine vIfB h (fun h => ?_) (fun h => ?_)
        · conv => whnf
          refine vBind h (fun within1 hb4 h => ?_)
          conv => whnf
          refine vIfB h (fun h => ?_) (fun h => ?_)
          · conv => whnf
            refine vBind h (fun isOfKind0 hb5 h => ?_)
            conv => whnf
            cases h
            exact hK
          · conv => whnf
            cases h
            exact hK
        · conv => whnf
          cases h
          exact hK
      · conv => whnf
        cases h
        exact hK
    · conv => whnf
      cases h
      exact hK
  · conv => whnf
    cases h
    exact hK
set_option maxRecDepth 100000 in
theorem w_impl_IsTable (k_impl_isAxis' : SoundC Tryz.prog 228 c_impl_isAxis) (k_impl_areWithin' : SoundC Tryz.prog 60 c_impl_areWithin) : SoundC Tryz.prog 219 c_impl_IsTable := by
  refine fn_sound tab_ok (gam_cons k_impl_isAxis' (gam_cons k_impl_areWithin' gam_nil)) mixed {} (fn := Tryz.f219) Tryz.func219 (by kernel_rfl) (by kernel_rfl) ?_
  rintro ⟨t0, ⟨⟩⟩ K ⟨r, h, hK⟩
  change impl_IsTable t0 = some r at h
  unfold impl_IsTable at h
  conv => whnf
  refine vBind h (fun isAxis0 hb0 h => ?_)
  conv => whnf
  refine vIfB h (fun h => ?_) (fun h => ?_)
  · conv => whnf
    refine vBind h (fun isAxis1 hb1 h => ?_)
    conv => whnf
    refine vIfB h (fun h => ?_) (fun h => ?_)
    · conv => whnf
      refine vIfD h (fun h => ?_) (fun h => ?_)
      · conv => whnf
        refine vBind h (fun areWithin0 hb2 h => ?_)
        conv => whnf
        cases h
        exact hK
      · conv => whnf
        cases h
        exact hK
    · conv => whnf
      cases h
      exact hK
  · conv => whnf
    cases h
    exact hK
set_option maxRecDepth 100000 in
theorem w_impl_arePins (k_impl_within' : SoundC Tryz.prog 109 c_impl_within) (k_impl_length_impl_Pin' : SoundC Tryz.prog 185 c_impl_length_impl_Pin) (k_impl_areNames' : SoundC Tryz.prog 158 c_impl_areNames) : SoundC Tryz.prog 174 c_impl_arePins := by
  refine fn_sound tab_ok (gam_cons k_impl_within' (gam_cons k_impl_length_impl_Pin' (gam_cons k_impl_areNames' gam_nil))) mixed { loops := [(0, [.reg 3 (.own (.ol 9 (.flat (.str)))), .reg 8 (.dat (.int .i64))])] } (fn := Tryz.f174) Tryz.func174 (by kernel_rfl) (by kernel_rfl) ?_
  rintro ⟨list0, ⟨⟩⟩ K ⟨r, h, hK⟩
  change impl_arePins list0 = some r at h
  unfold impl_arePins at h
  conv => whnf
  refine vLoop h ?_
  rintro I0 μ0 ⟨names0, v0, ⟨⟩⟩ zs0 h hI0 hR0
  change impl_arePins_loop0 list0 names0 v0 = some zs0 at h
  unfold impl_arePins_loop0 at h
  conv => whnf
  refine vIfD h (fun h => ?_) (fun h => ?_)
  · conv => whnf
    refine vAt h (fun x0 he1a he1b he1x h => ?_)
    conv => whnf
    refine vPre h (fun hp2 h => ?_)
    conv => whnf
    refine vIfD h (fun h => ?_) (fun h => ?_)
    · conv => whnf
      refine vNot ?_
      refine vIfD h (fun h => ?_) (fun h => ?_)
      · conv => whnf
        refine vNot ?_
        refine vIfD h (fun h => ?_) (fun h => ?_)
        · conv => whnf
          refine vIfB h (fun h => ?_) (fun h => ?_)
          · conv => whnf
            cases h
            obtain rfl := hR0 _ rfl
            exact hK
          · conv => whnf
            cases h
            exact ⟨⟨rfl, rfl⟩, hI0 _ rfl⟩
        · conv => whnf
          cases h
          obtain rfl := hR0 _ rfl
          exact hK
      · conv => whnf
        cases h
        obtain rfl := hR0 _ rfl
        exact hK
    · conv => whnf
      refine vNot ?_
      refine vIfD h (fun h => ?_) (fun h => ?_)
      · conv => whnf
        refine vBind h (fun within0 hb3 h => ?_)
        conv => whnf
        refine vNots ?_
        refine vIfB h (fun h => ?_) (fun h => ?_)
        · conv => whnf
          cases h
          exact ⟨⟨rfl, rfl⟩, hI0 _ rfl⟩
        · conv => whnf
          cases h
          obtain rfl := hR0 _ rfl
          exact hK
      · conv => whnf
        cases h
        obtain rfl := hR0 _ rfl
        exact hK
  · conv => whnf
    refine vBind h (fun Pin0 hb4 h => ?_)
    conv => whnf
    refine vBind h (fun within0 hb5 h => ?_)
    conv => whnf
    refine vIfB h (fun h => ?_) (fun h => ?_)
    · conv => whnf
      refine vBind h (fun areNames0 hb6 h => ?_)
      conv => whnf
      cases h
      obtain rfl := hR0 _ rfl
      exact hK
    · conv => whnf
      cases h
      obtain rfl := hR0 _ rfl
      exact hK
set_option maxRecDepth 100000 in
theorem w_impl_newGraph (k_impl_IsBlock' : SoundC Tryz.prog 56 c_impl_IsBlock) (k_impl_newView' : SoundC Tryz.prog 57 c_impl_newView) (k_impl_view_isBroken' : SoundC Tryz.prog 58 c_impl_view_isBroken) (k_impl_view_graphOf' : SoundC Tryz.prog 59 c_impl_view_graphOf) : SoundC Tryz.prog 23 c_impl_newGraph := by
  refine fn_sound tab_ok (gam_cons k_impl_IsBlock' (gam_cons k_impl_newView' (gam_cons k_impl_view_isBroken' (gam_cons k_impl_view_graphOf' gam_nil)))) mixed {} (fn := Tryz.f23) Tryz.func23 (by kernel_rfl) (by kernel_rfl) ?_
  rintro ⟨b0, broken0, ⟨⟩⟩ K ⟨r, h, hK⟩
  change impl_newGraph b0 broken0 = some r at h
  unfold impl_newGraph at h
  conv => whnf
  refine vBind h (fun IsBlock0 hb0 h => ?_)
  conv => whnf
  refine vNots ?_
  refine vIfB h (fun h => ?_) (fun h => ?_)
  · conv => whnf
    refine vBind h (fun newView0 hb1 h => ?_)
    conv => whnf
    refine vBind h (fun isBroken0 hb2 h => ?_)
    conv => whnf
    refine vNots ?_
    refine vIfB h (fun h => ?_) (fun h => ?_)
    · conv => whnf
      refine vBind h (fun graphOf0 hb3 h => ?_)
      conv => whnf
      cases h
      exact hK
    · conv => whnf
      cases h
      exact hK
  · conv => whnf
    cases h
    exact hK
set_option maxRecDepth 100000 in
theorem w_impl_view_isBroken (k_impl_length_impl_Link' : SoundC Tryz.prog 106 c_impl_length_impl_Link) (k_impl_areWithin' : SoundC Tryz.prog 60 c_impl_areWithin) (k_impl_isIncreasing' : SoundC Tryz.prog 62 c_impl_isIncreasing) : SoundC Tryz.prog 58 c_impl_view_isBroken := by
  refine fn_sound tab_ok (gam_cons k_impl_length_impl_Link' (gam_cons k_impl_areWithin' (gam_cons k_impl_isIncreasing' gam_nil))) mixed {} (fn := Tryz.f58) Tryz.func58 (by kernel_rfl) (by kernel_rfl) ?_
  rintro ⟨v0, list0, ⟨⟩⟩ K ⟨r, h, hK⟩
  change impl_view_isBroken v0 list0 = some r at h
  unfold impl_view_isBroken at h
  conv => whnf
  refine vBind h (fun Link0 hb0 h => ?_)
  conv => whnf
  refine vBind h (fun areWithin0 hb1 h => ?_)
  conv => whnf
  refine vIfB h (fun h => ?_) (fun h => ?_)
  · conv => whnf
    refine vBind h (fun isIncreasing0 hb2 h => ?_)
    conv => whnf
    cases h
    exact hK
  · conv => whnf
    cases h
    exact hK
set_option maxRecDepth 100000 in
theorem w_laws_eqArcS (k_laws_eqArc' : SoundC Tryz.prog 168 c_laws_eqArc) : SoundC Tryz.prog 151 c_laws_eqArcS := by
  refine fn_sound tab_ok (gam_cons k_laws_eqArc' gam_nil) mixed { loops := [(0, [.reg 5 (.dat (.int .i64))])], draws := [(6, [0, 0, 3, 7, 0, 0, 48, 112, 255, 511], .op 0 (.op 1 (.op 2 (.op 3 (.op 4 (.op 5 (.op 6 (.op 7 (.alt 8 (.op 9 (.done)) (.done))))))))))] } (fn := Tryz.f151) Tryz.func151 (by kernel_rfl) (by kernel_rfl) ?_
  rintro ⟨a0, b0, ⟨⟩⟩ K ⟨r, h, hK⟩
  change laws_eqArcS a0 b0 = some r at h
  unfold laws_eqArcS at h
  conv => whnf
  refine vNots ?_
  refine vIfD h (fun h => ?_) (fun h => ?_)
  · conv => whnf
    refine vLoop h ?_
    rintro I0 μ0 ⟨i0, ⟨⟩⟩ zs0 h hI0 hR0
    change laws_eqArcS_loop0 a0 b0 i0 = some zs0 at h
    unfold laws_eqArcS_loop0 at h
    conv => whnf
    refine vIfD h (fun h => ?_) (fun h => ?_)
    · conv => whnf
      refine ⟨by kernel_rfl, ?_⟩
      conv => whnf
      refine vAt h (fun x0 he1a he1b he1x h => ?_)
      conv => whnf
      refine vAt h (fun x1 he2a he2b he2x h => ?_)
      conv => whnf
      refine vBind h (fun eqArc0 hb3 h => ?_)
      conv => whnf
      refine vNots ?_
      refine vIfB h (fun h => ?_) (fun h => ?_)
      · conv => whnf
        cases h
        exact ⟨⟨rfl, rfl⟩, hI0 _ rfl⟩
      · conv => whnf
        cases h
        obtain rfl := hR0 _ rfl
        exact hK
    · conv => whnf
      cases h
      obtain rfl := hR0 _ rfl
      exact hK
  · conv => whnf
    cases h
    exact hK
set_option maxRecDepth 100000 in
theorem w_laws_eqInstanceS (k_laws_eqInstance' : SoundC Tryz.prog 120 c_laws_eqInstance) : SoundC Tryz.prog 84 c_laws_eqInstanceS := by
  refine fn_sound tab_ok (gam_cons k_laws_eqInstance' gam_nil) mixed { loops := [(0, [.reg 5 (.dat (.int .i64))])], draws := [(6, [0, 0, 3, 7, 0, 0, 48, 112, 255, 511], .op 0 (.op 1 (.op 2 (.op 3 (.op 4 (.op 5 (.op 6 (.op 7 (.alt 8 (.op 9 (.done)) (.done))))))))))] } (fn := Tryz.f84) Tryz.func84 (by kernel_rfl) (by kernel_rfl) ?_
  rintro ⟨a0, b0, ⟨⟩⟩ K ⟨r, h, hK⟩
  change laws_eqInstanceS a0 b0 = some r at h
  unfold laws_eqInstanceS at h
  conv => whnf
  refine vNots ?_
  refine vIfD h (fun h => ?_) (fun h => ?_)
  · conv => whnf
    refine vLoop h ?_
    rintro I0 μ0 ⟨i0, ⟨⟩⟩ zs0 h hI0 hR0
    change laws_eqInstanceS_loop0 a0 b0 i0 = some zs0 at h
    unfold laws_eqInstanceS_loop0 at h
    conv => whnf
    refine vIfD h (fun h => ?_) (fun h => ?_)
    · conv => whnf
      refine ⟨by kernel_rfl, ?_⟩
      conv => whnf
      refine vAt h (fun x0 he1a he1b he1x h => ?_)
      conv => whnf
      refine vAt h (fun x1 he2a he2b he2x h => ?_)
      conv => whnf
      refine vBind h (fun eqInstance0 hb3 h => ?_)
      conv => whnf
      refine vNots ?_
      refine vIfB h (fun h => ?_) (fun h => ?_)
      · conv => whnf
        cases h
        exact ⟨⟨rfl, rfl⟩, hI0 _ rfl⟩
      · conv => whnf
        cases h
        obtain rfl := hR0 _ rfl
        exact hK
    · conv => whnf
      cases h
      obtain rfl := hR0 _ rfl
      exact hK
  · conv => whnf
    cases h
    exact hK
set_option maxRecDepth 100000 in
theorem w_laws_markDesign (k_laws_markInstanceS' : SoundC Tryz.prog 89 c_laws_markInstanceS) (k_laws_markStringS' : SoundC Tryz.prog 90 c_laws_markStringS) (k_laws_markPortS' : SoundC Tryz.prog 91 c_laws_markPortS) : SoundC Tryz.prog 46 c_laws_markDesign := by
  refine fn_sound tabD_ok (gam_cons k_laws_markInstanceS' (gam_cons k_laws_markStringS' (gam_cons k_laws_markPortS' gam_nil))) mixed {} (fn := Tryz.f46) Tryz.func46 (by kernel_rfl) (by kernel_rfl) ?_
  rintro ⟨a0, k0, ⟨⟩⟩ K ⟨r, h, hK⟩
  change laws_markDesign a0 k0 = some r at h
  unfold laws_markDesign at h
  conv => whnf
  intro fp0
  conv => whnf
  refine vBind h (fun markInstanceS0 hb1 h => ?_)
  conv => whnf
  intro fp2
  conv => whnf
  refine vBind h (fun markStringS0 hb3 h => ?_)
  conv => whnf
  refine vBind h (fun markPortS0 hb4 h => ?_)
  conv => whnf
  cases h
  exact hK
set_option maxRecDepth 100000 in
theorem w_laws_szInstanceS (k_laws_szInstance' : SoundC Tryz.prog 113 c_laws_szInstance) : SoundC Tryz.prog 74 c_laws_szInstanceS := by
  refine fn_sound tab_ok (gam_cons k_laws_szInstance' gam_nil) mixed { loops := [(0, [.reg 1 (.dat (.int .i64)), .reg 5 (.dat (.int .i64))])] } (fn := Tryz.f74) Tryz.func74 (by kernel_rfl) (by kernel_rfl) ?_
  rintro ⟨a0, left0, ⟨⟩⟩ K ⟨r, h, hK⟩
  change laws_szInstanceS a0 left0 = some r at h
  unfold laws_szInstanceS at h
  conv => whnf
  refine vIfD h (fun h => ?_) (fun h => ?_)
  · conv => whnf
    cases h
    exact hK
  · conv => whnf
    refine vLoop h ?_
    rintro I0 μ0 ⟨left1, i0, ⟨⟩⟩ zs0 h hI0 hR0
    change laws_szInstanceS_loop0 a0 left1 i0 = some zs0 at h
    unfold laws_szInstanceS_loop0 at h
    conv => whnf
    refine vIfD h (fun h => ?_) (fun h => ?_)
    · conv => whnf
      refine vAt h (fun x0 he1a he1b he1x h => ?_)
      conv => whnf
      refine vBind h (fun szInstance0 hb2 h => ?_)
      conv => whnf
      refine vIfD h (fun h => ?_) (fun h => ?_)
      · conv => whnf
        cases h
        obtain rfl := hR0 _ rfl
        exact hK
      · conv => whnf
        cases h
        exact ⟨⟨rfl, rfl⟩, hI0 _ rfl⟩
    · conv => whnf
      cases h
      obtain rfl := hR0 _ rfl
      exact hK
set_option maxRecDepth 100000 in
theorem w_laws_szPin : SoundC Tryz.prog 163 c_laws_szPin := by
  refine fn_sound tab_ok gam_nil mixed {} (fn := Tryz.f163) Tryz.func163 (by kernel_rfl) (by kernel_rfl) ?_
  rintro ⟨a0, left0, ⟨⟩⟩ K ⟨r, h, hK⟩
  change laws_szPin a0 left0 = some r at h
  unfold laws_szPin at h
  conv => whnf
  refine vIfD h (fun h => ?_) (fun h => ?_)
  · conv => whnf
    cases h
    exact hK
  · conv => whnf
    cases h
    exact hK
set_option maxRecDepth 100000 in
theorem w_laws_szStringS : SoundC Tryz.prog 75 c_laws_szStringS := by
  refine fn_sound tab_ok gam_nil mixed { loops := [(0, [.reg 1 (.dat (.int .i64)), .reg 5 (.dat (.int .i64))])] } (fn := Tryz.f75) Tryz.func75 (by kernel_rfl) (by kernel_rfl) ?_
  rintro ⟨a0, left0, ⟨⟩⟩ K ⟨r, h, hK⟩
  change laws_szStringS a0 left0 = some r at h
  unfold laws_szStringS at h
  conv => whnf
  refine vIfD h (fun h => ?_) (fun h => ?_)
  · conv => whnf
    cases h
    exact hK
  · conv => whnf
    refine vLoop h ?_
    rintro I0 μ0 ⟨left1, i0, ⟨⟩⟩ zs0 h hI0 hR0
    change laws_szStringS_loop0 a0 left1 i0 = some zs0 at h
    unfold laws_szStringS_loop0 at h
    conv => whnf
    refine vIfD h (fun h => ?_) (fun h => ?_)
    · conv => whnf
      refine vAt h (fun x0 he1a he1b he1x h => ?_)
      conv => whnf
      refine vIfD h (fun h => ?_) (fun h => ?_)
      · conv => whnf
        cases h
        obtain rfl := hR0 _ rfl
        exact hK
      · conv => whnf
        cases h
        exact ⟨⟨rfl, rfl⟩, hI0 _ rfl⟩
    · conv => whnf
      cases h
      obtain rfl := hR0 _ rfl
      exact hK
set_option maxRecDepth 100000 in
theorem w_laws_toInt64S : SoundC Tryz.prog 14 c_laws_toInt64S := by
  refine fn_sound tab_ok gam_nil mixed { loops := [(0, [.reg 4 (.dat (.int .i64)), .ent 0 (nat_lit 2) (.flat ti35.ety)])] } (fn := Tryz.f14) Tryz.func14 (by kernel_rfl) (by kernel_rfl) ?_
  rintro ⟨a0, ⟨⟩⟩ K ⟨r, h, hK⟩
  change laws_toInt64S a0 = some r at h
  unfold laws_toInt64S at h
  conv => whnf
  refine vPre h (fun hp0 h => ?_)
  conv => whnf
  refine vPre h (fun hp1 h => ?_)
  conv => whnf
  refine vPre h (fun hp2 h => ?_)
  conv => whnf
  refine vPre h (fun hp3 h => ?_)
  conv => whnf
  refine vLoop h ?_
  rintro I4 μ4 ⟨i0, l0, ⟨⟩⟩ zs4 h hI4 hR4
  change laws_toInt64S_loop0 a0 i0 l0 = some zs4 at h
  unfold laws_toInt64S_loop0 at h
  conv => whnf
  refine vIfD h (fun h => ?_) (fun h => ?_)
  · conv => whnf
    refine vAt h (fun x0 he5a he5b he5x h => ?_)
    conv => whnf
    refine vAt h (fun x1 he6a he6b he6x h => ?_)
    conv => whnf
    refine ⟨by kernel_rfl, ?_⟩
    conv => whnf
    refine ⟨by decide, ?_⟩
    conv => whnf
    refine ⟨he6a, he6b, vAgain he6x ?_⟩
    conv => whnf
    cases h
    exact ⟨⟨rfl, rfl⟩, hI4 _ rfl⟩
  · conv => whnf
    cases h
    obtain rfl := hR4 _ rfl
    exact hK
set_option maxRecDepth 100000 in
theorem w_laws_toLibrary (k_laws_toCellS' : SoundC Tryz.prog 78 c_laws_toCellS) : SoundC Tryz.prog 39 c_laws_toLibrary := by
  refine fn_sound tabD_ok (gam_cons k_laws_toCellS' gam_nil) mixed {} (fn := Tryz.f39) Tryz.func39 (by kernel_rfl) (by kernel_rfl) ?_
  rintro ⟨a0, ⟨⟩⟩ K ⟨r, h, hK⟩
  change laws_toLibrary a0 = some r at h
  unfold laws_toLibrary at h
  conv => whnf
  refine vBind h (fun toCellS0 hb0 h => ?_)
  conv => whnf
  intro fp1
  conv => whnf
  cases h
  exact hK
set_option maxRecDepth 100000 in
theorem w_laws_toPinS (k_laws_toPin' : SoundC Tryz.prog 165 c_laws_toPin) : SoundC Tryz.prog 148 c_laws_toPinS := by
  refine fn_sound tab_ok (gam_cons k_laws_toPin' gam_nil) mixed { loops := [(0, [.reg 4 (.dat (.int .i64)), .ent 0 (nat_lit 223) (.flat ti119.ety)])] } (fn := Tryz.f148) Tryz.func148 (by kernel_rfl) (by kernel_rfl) ?_
  rintro ⟨a0, ⟨⟩⟩ K ⟨r, h, hK⟩
  change laws_toPinS a0 = some r at h
  unfold laws_toPinS at h
  conv => whnf
  refine vPre h (fun hp0 h => ?_)
  conv => whnf
  refine vPre h (fun hp1 h => ?_)
  conv => whnf
  refine vPre h (fun hp2 h => ?_)
  conv => whnf
  refine vPre h (fun hp3 h => ?_)
  conv => whnf
  refine vLoop h ?_
  rintro I4 μ4 ⟨i0, l0, ⟨⟩⟩ zs4 h hI4 hR4
  change laws_toPinS_loop0 a0 i0 l0 = some zs4 at h
  unfold laws_toPinS_loop0 at h
  conv => whnf
  refine vIfD h (fun h => ?_) (fun h => ?_)
  · conv => whnf
    refine vAt h (fun x0 he5a he5b he5x h => ?_)
    conv => whnf
    refine vBind h (fun toPin0 hb6 h => ?_)
    conv => whnf
    refine vAt h (fun x1 he7a he7b he7x h => ?_)
    conv => whnf
    refine ⟨by kernel_rfl, ?_⟩
    conv => whnf
    refine ⟨by decide, ?_⟩
    conv => whnf
    refine ⟨he7a, he7b, vAgain he7x ?_⟩
    conv => whnf
    cases h
    exact ⟨⟨rfl, rfl⟩, hI4 _ rfl⟩
  · conv => whnf
    cases h
    obtain rfl := hR4 _ rfl
    exact hK
set_option maxRecDepth 100000 in
theorem w_slices_ContainsFunc_Simpl_Arc_impl_Arc_at_impl_Cell_has_c1 (k_slices_IndexFunc_Simpl_Arc_impl_Arc_at_impl_Cell_has_c1' : SoundC Tryz.prog 209 c_slices_IndexFunc_Simpl_Arc_impl_Arc_at_impl_Cell_has_c1) : SoundC Tryz.prog 187 c_slices_ContainsFunc_Simpl_Arc_impl_Arc_at_impl_Cell_has_c1 := by
  refine fn_sound tab_ok (gam_cons k_slices_IndexFunc_Simpl_Arc_impl_Arc_at_impl_Cell_has_c1' gam_nil) mixed {} (fn := Tryz.f187) Tryz.func187 (by kernel_rfl) (by kernel_rfl) ?_
  rintro ⟨s0, f0, ⟨⟩⟩ K ⟨r, h, hK⟩
  change slices_ContainsFunc_Simpl_Arc_impl_Arc_at_impl_Cell_has_c1 s0 f0 = some r at h
  unfold slices_ContainsFunc_Simpl_Arc_impl_Arc_at_impl_Cell_has_c1 at h
  conv => whnf
  refine vBind h (fun c1_0 hb0 h => ?_)
  conv => whnf
  cases h
  exact hK
set_option maxRecDepth 100000 in
theorem w_slices_ContainsFunc_Sint_int_at_impl_IsDesign_c1 (k_slices_IndexFunc_Sint_int_at_impl_IsDesign_c1' : SoundC Tryz.prog 162 c_slices_IndexFunc_Sint_int_at_impl_IsDesign_c1) : SoundC Tryz.prog 138 c_slices_ContainsFunc_Sint_int_at_impl_IsDesign_c1 := by
  refine fn_sound tab_ok (gam_cons k_slices_IndexFunc_Sint_int_at_impl_IsDesign_c1' gam_nil) mixed {} (fn := Tryz.f138) Tryz.func138 (by kernel_rfl) (by kernel_rfl) ?_
  rintro ⟨s0, f0, ⟨⟩⟩ K ⟨r, h, hK⟩
  change slices_ContainsFunc_Sint_int_at_impl_IsDesign_c1 s0 f0 = some r at h
  unfold slices_ContainsFunc_Sint_int_at_impl_IsDesign_c1 at h
  conv => whnf
  refine vBind h (fun c1_0 hb0 h => ?_)
  conv => whnf
  cases h
  exact hK
set_option maxRecDepth 100000 in
theorem w_slices_IndexFunc_Simpl_Table_impl_Table_at_impl_areTables_c1 (k_impl_areTables_c1' : SoundC Tryz.prog 218 c_impl_areTables_c1) : SoundC Tryz.prog 227 c_slices_IndexFunc_Simpl_Table_impl_Table_at_impl_areTables_c1 := by
  refine fn_sound tab_ok (gam_cons k_impl_areTables_c1' gam_nil) mixed { loops := [(0, [.reg 8 (.dat (.int .i64))])] } (fn := Tryz.f227) Tryz.func227 (by kernel_rfl) (by kernel_rfl) ?_
  rintro ⟨s0, f0, ⟨⟩⟩ K ⟨r, h, hK⟩
  change slices_IndexFunc_Simpl_Table_impl_Table_at_impl_areTables_c1 s0 f0 = some r at h
  unfold slices_IndexFunc_Simpl_Table_impl_Table_at_impl_areTables_c1 at h
  conv => whnf
  refine vLoop h ?_
  rintro I0 μ0 ⟨v0, ⟨⟩⟩ zs0 h hI0 hR0
  change slices_IndexFunc_Simpl_Table_impl_Table_at_impl_areTables_c1_loop0 s0 f0 v0 = some zs0 at h
  unfold slices_IndexFunc_Simpl_Table_impl_Table_at_impl_areTables_c1_loop0 at h
  conv => whnf
  refine vIfD h (fun h => ?_) (fun h => ?_)
  · conv => whnf
    refine vAt h (fun x0 he1a he1b he1x h => ?_)
    conv => whnf
    refine vBind h (fun c1_0 hb2 h => ?_)
    conv => whnf
    refine vIfB h (fun h => ?_) (fun h => ?_)
    · conv => whnf
      cases h
      obtain rfl := hR0 _ rfl
      exact hK
    · conv => whnf
      cases h
      exact ⟨⟨rfl, rfl⟩, hI0 _ rfl⟩
  · conv => whnf
    cases h
    obtain rfl := hR0 _ rfl
    exact hK
set_option maxRecDepth 100000 in
theorem w_slices_Index_Sstring_string : SoundC Tryz.prog 191 c_slices_Index_Sstring_string := by
  refine fn_sound tab_ok gam_nil mixed { loops := [(0, [.reg 8 (.dat (.int .i64))])] } (fn := Tryz.f191) Tryz.func191 (by kernel_rfl) (by kernel_rfl) ?_
  rintro ⟨s0, v0, ⟨⟩⟩ K ⟨r, h, hK⟩
  change slices_Index_Sstring_string s0 v0 = some r at h
  unfold slices_Index_Sstring_string at h
  conv => whnf
  refine vLoop h ?_
  rintro I0 μ0 ⟨v1, ⟨⟩⟩ zs0 h hI0 hR0
  change slices_Index_Sstring_string_loop0 s0 v0 v1 = some zs0 at h
  unfold slices_Index_Sstring_string_loop0 at h
  conv => whnf
  refine vIfD h (fun h => ?_) (fun h => ?_)
  · conv => whnf
    refine vAt h (fun x0 he1a he1b he1x h => ?_)
    conv => whnf
    refine vIfD h (fun h => ?_) (fun h => ?_)
    · conv => whnf
      cases h
      obtain rfl := hR0 _ rfl
      exact hK
    · conv => whnf
      cases h
      exact ⟨⟨rfl, rfl⟩, hI0 _ rfl⟩
  · conv => whnf
    cases h
    obtain rfl := hR0 _ rfl
    exact hK
set_option maxRecDepth 100000 in
theorem w_spec_IsBlock (k_spec_IsDesign' : SoundC Tryz.prog 96 c_spec_IsDesign) (k_spec_l05Sinks' : SoundC Tryz.prog 68 c_spec_l05Sinks) (k_spec_IsWire' : SoundC Tryz.prog 97 c_spec_IsWire) : SoundC Tryz.prog 53 c_spec_IsBlock := by
  refine fn_sound tab_ok (gam_cons k_spec_IsDesign' (gam_cons k_spec_l05Sinks' (gam_cons k_spec_IsWire' gam_nil))) mixed { loops := [(0, [.reg 3 (.dat (.int .i64))])], draws := [(6, [0, 1, 0, 7, 15, 0, 32, 0, 224, 480, 1023, 2047], .op 0 (.op 1 (.op 2 (.op 3 (.op 4 (.op 5 (.op 6 (.op 7 (.alt 8 (.op 9 (.alt 10 (.op 11 (.done)) (.done))) (.done))))))))))] } (fn := Tryz.f53) Tryz.func53 (by kernel_rfl) (by kernel_rfl) ?_
  rintro ⟨b0, ⟨⟩⟩ K ⟨r, h, hK⟩
  change spec_IsBlock b0 = some r at h
  unfold spec_IsBlock at h
  conv => whnf
  refine vBind h (fun IsDesign0 hb0 h => ?_)
  conv => whnf
  refine vNot ?_
  refine vIfB h (fun h => ?_) (fun h => ?_)
  · conv => whnf
    refine vNots ?_
    refine vIfD h (fun h => ?_) (fun h => ?_)
    · conv => whnf
      refine vLoop h ?_
      rintro I1 μ1 ⟨net0, ⟨⟩⟩ zs1 h hI1 hR1
      change spec_IsBlock_loop0 b0 net0 = some zs1 at h
      unfold spec_IsBlock_loop0 at h
      conv => whnf
      refine vIfD h (fun h => ?_) (fun h => ?_)
      · conv => whnf
        refine ⟨by kernel_rfl, ?_⟩
        conv => whnf
        refine vAt h (fun x0 he2a he2b he2x h => ?_)
        conv => whnf
        refine vBind h (fun l05Sinks0 hb3 h => ?_)
        conv => whnf
        refine vBind h (fun IsWire0 hb4 h => ?_)
        conv => whnf
        refine vNots ?_
        refine vIfB h (fun h => ?_) (fun h => ?_)
        · conv => whnf
          cases h
          exact ⟨⟨rfl, rfl⟩, hI1 _ rfl⟩
        · conv => whnf
          cases h
          obtain rfl := hR1 _ rfl
          exact hK
      · conv => whnf
        cases h
        obtain rfl := hR1 _ rfl
        exact hK
    · conv => whnf
      cases h
      exact hK
  · conv => whnf
    cases h
    exact hK
set_option maxRecDepth 100000 in
theorem w_spec_l02Axis (k_spec_l01In' : SoundC Tryz.prog 111 c_spec_l01In) : SoundC Tryz.prog 223 c_spec_l02Axis := by
  refine fn_sound tab_ok (gam_cons k_spec_l01In' gam_nil) mixed { loops := [(0, [.reg 3 (.dat (.int .i64))])], draws := [(4, [0, 0, 3, 7, 15, 31, 63, 127, 255, 511, 1023, 1023, 3071, 8191, 16383, 1023, 1023, 99327, 230399, 524287, 1048575, 2097151], .op 0 (.op 1 (.op 2 (.op 3 (.alt 4 (.op 5 (.op 6 (.op 7 (.op 8 (.op 9 (.op 10 (.op 11 (.op 12 (.op 13 (.op 14 (.op 15 (.op 16 (.op 17 (.op 18 (.op 19 (.op 20 (.op 21 (.done)))))))))))))))))) (.done))))))] } (fn := Tryz.f223) Tryz.func223 (by kernel_rfl) (by kernel_rfl) ?_
  rintro ⟨list0, ⟨⟩⟩ K ⟨r, h, hK⟩
  change spec_l02Axis list0 = some r at h
  unfold spec_l02Axis at h
  conv => whnf
  refine vLoop h ?_
  rintro I0 μ0 ⟨i0, ⟨⟩⟩ zs0 h hI0 hR0
  change spec_l02Axis_loop0 list0 i0 = some zs0 at h
  unfold spec_l02Axis_loop0 at h
  conv => whnf
  refine vIfD h (fun h => ?_) (fun h => ?_)
  · conv => whnf
    refine ⟨by kernel_rfl, ?_⟩
    conv => whnf
    refine vAt h (fun x0 he1a he1b he1x h => ?_)
    conv => whnf
    refine vBind h (fun l01In0 hb2 h => ?_)
    conv => whnf
    refine vNot ?_
    refine vIfB h (fun h => ?_) (fun h => ?_)
    · conv => whnf
      refine vIfD h (fun h => ?_) (fun h => ?_)
      · conv => whnf
        refine vAt h (fun x1 he3a he3b he3x h => ?_)
        conv => whnf
        refine ⟨he1a, he1b, vAgain he1x ?_⟩
        conv => whnf
        refine vIfD h (fun h => ?_) (fun h => ?_)
        · conv => whnf
          cases h
          obtain rfl := hR0 _ rfl
          exact hK
        · conv => whnf
          cases h
          exact ⟨⟨rfl, rfl⟩, hI0 _ rfl⟩
      · conv => whnf
        cases h
        exact ⟨⟨rfl, rfl⟩, hI0 _ rfl⟩
    · conv => whnf
      cases h
      obtain rfl := hR0 _ rfl
      exact hK
  · conv => whnf
    refine vIfD h (fun h => ?_) (fun h => ?_)
    · conv => whnf
      cases h
      obtain rfl := hR0 _ rfl
      exact hK
    · conv => whnf
      cases h
      obtain rfl := hR0 _ rfl
      exact hK
set_option maxRecDepth 100000 in
theorem w_spec_l03Arc (k_spec_l01In' : SoundC Tryz.prog 111 c_spec_l01In) (k_spec_l03Tables' : SoundC Tryz.prog 182 c_spec_l03Tables) : SoundC Tryz.prog 171 c_spec_l03Arc := by
  refine fn_sound tab_ok (gam_cons k_spec_l01In' (gam_cons k_spec_l03Tables' gam_nil)) mixed {} (fn := Tryz.f171) Tryz.func171 (by kernel_rfl) (by kernel_rfl) ?_
  rintro ⟨a0, a1, ⟨⟩⟩ K ⟨r, h, hK⟩
  change spec_l03Arc a0 a1 = some r at h
  unfold spec_l03Arc at h
  conv => whnf
  refine vBind h (fun l01In0 hb0 h => ?_)
  conv => whnf
  refine vNot ?_
  refine vIfB h (fun h => ?_) (fun h => ?_)
  · conv => whnf
    refine vBind h (fun l01In1 hb1 h => ?_)
    conv => whnf
    refine vNots ?_
    refine vIfB h (fun h => ?_) (fun h => ?_)
    · conv => whnf
      refine vAt h (fun x0 he2a he2b he2x h => ?_)
      conv => whnf
      refine vIfD h (fun h => ?_) (fun h => ?_)
      · conv => whnf
        refine vNots ?_
        refine vIfB h (fun h => ?_) (fun h => ?_)
        · conv => whnf
          cases h
          exact hK
        · conv => whnf
          refine vIfD h (fun h => ?_) (fun h => ?_)
          · conv => whnf
            refine vBind h (fun l01In2 hb3 h => ?_)
            conv => whnf
            refine vIfB h (fun h => ?_) (fun h => ?_)
            · conv => whnf
              refine vBind h (fun l03Tables0 hb4 h => ?_)
              conv => whnf
              refine vIfB h (fun h => ?_) (fun h => ?_)
              · conv => whnf
                refine vBind h (fun l03Tables1 hb5 h => ?_)
                conv => whnf
                cases h
                exact hK
              · conv => whnf
                cases h
                exact hK
            · conv => whnf
              cases h
              exact hK
          · conv => whnf
            cases h
            exact hK
      · conv => whnf
        refine vIfD h (fun h => ?_) (fun h => ?_)
        · conv => whnf
          refine vIfD h (fun h => ?_) (fun h => ?_)
          · conv => whnf
            refine vIfB h (fun h => ?_) (fun h => ?_)
            · conv => whnf
              refine vIfD h (fun h => ?_) (fun h => ?_)
              · conv => whnf
                refine vIfD h (fun h => ?_) (fun h => ?_)
                · conv => whnf
                  refine vBind h (fun l03Tables0 hb6 h => ?_)
                  conv => whnf
                  refine vIfB h (fun h => ?_) (fun h => ?_)
                  · conv => whnf
                    refine vBind h (fun l03Tables1 hb7 h => ?_)
                    conv => whnf
                    cases h
                    exact hK
                  · conv => whnf
                    cases h
                    exact hK
                · conv => whnf
                  cases h
                  exact hK
              · conv => whnf
                cases h
                exact hK
            · conv => whnf
              cases h
              exact hK
          · conv => whnf
            refine vIfD h (fun h => ?_) (fun h => ?_)
            · conv => whnf
              refine vIfD h (fun h => ?_) (fun h => ?_)
              · conv => whnf
                refine vIfB h (fun h => ?_) (fun h => ?_)
                · conv => whnf
                  refine vIfD h (fun h => ?_) (fun h => ?_)
                  · conv => whnf
                    refine vAt h (fun x1 he8a he8b he8x h => ?_)
                    conv => whnf
                    refine vNots ?_
                    refine vIfB h (fun h => ?_) (fun h => ?_)
                    · conv => whnf
                      cases h
                      exact hK
                    · conv => whnf
                      refine vIfD h (fun h => ?_) (fun h => ?_)
                      · conv => whnf
                        refine vBind h (fun l03Tables0 hb9 h => ?_)
                        conv => whnf
                        refine vIfB h (fun h => ?_) (fun h => ?_)
                        · conv => whnf
                          cases h
                          exact hK
                        · conv => whnf
                          cases h
                          exact hK
                      · conv => whnf
                        cases h
                        exact hK
                  · conv => whnf
                    cases h
                    exact hK
                · conv => whnf
                  cases h
                  exact hK
              · conv => whnf
                cases h
                exact hK
            · conv => whnf
              refine vIfD h (fun h => ?_) (fun h => ?_)
              · conv => whnf
                refine vIfB h (fun h => ?_) (fun h => ?_)
                · conv => whnf
                  refine vIfD h (fun h => ?_) (fun h => ?_)
                  · conv => whnf
                    refine vAt h (fun x1 he10a he10b he10x h => ?_)
                    conv => whnf
                    refine vNots ?_
                    refine vIfB h (fun h => ?_) (fun h => ?_)
                    · conv => whnf
                      cases h
                      exact hK
                    · conv => whnf
                      refine vIfD h (fun h => ?_) (fun h => ?_)
                      · conv => whnf
                        refine vBind h (fun l03Tables0 hb11 h => ?_)
                        conv => whnf
                        refine vIfB h (fun h => ?_) (fun h => ?_)
                        · conv => whnf
                          cases h
                          exact hK
                        · conv => whnf
                          cases h
                          exact hK
                      · conv => whnf
                        cases h
                        exact hK
                  · conv => whnf
                    cases h
                    exact hK
                · conv => whnf
                  cases h
                  exact hK
              · conv => whnf
                cases h
                exact hK
        · conv => whnf
          refine vIfD h (fun h => ?_) (fun h => ?_)
          · conv => whnf
            refine vIfB h (fun h => ?_) (fun h => ?_)
            · conv => whnf
              refine vIfD h (fun h => ?_) (fun h => ?_)
              · conv => whnf
                refine vIfD h (fun h => ?_) (fun h => ?_)
                · conv => whnf
                  refine vBind h (fun l03Tables0 hb12 h => ?_)
                  conv => whnf
                  refine vIfB h (fun h => ?_) (fun h => ?_)
                  · conv => whnf
                    refine vBind h (fun l03Tables1 hb13 h => ?_)
                    conv => whnf
                    cases h
                    exact hK
                  · conv => whnf
                    cases h
                    exact hK
                · conv => whnf
                  cases h
                  exact hK
              · conv => whnf
                cases h
                exact hK
            · conv => whnf
              cases h
              exact hK
          · conv => whnf
            refine vIfD h (fun h => ?_) (fun h => ?_)
            · conv => whnf
              refine vIfD h (fun h => ?_) (fun h => ?_)
              · conv => whnf
                refine vIfB h (fun h => ?_) (fun h => ?_)
                · conv => whnf
                  refine vIfD h (fun h => ?_) (fun h => ?_)
                  · conv => whnf
                    refine vAt h (fun x1 he14a he14b he14x h => ?_)
                    conv => whnf
                    refine vNots ?_
                    refine vIfB h (fun h => ?_) (fun h => ?_)
                    · conv => whnf
                      cases h
                      exact hK
                    · conv => whnf
                      refine vIfD h (fun h => ?_) (fun h => ?_)
                      · conv => whnf
                        refine vBind h (fun l03Tables0 hb15 h => ?_)
                        conv => whnf
                        refine vIfB h (fun h => ?_) (fun h => ?_)
                        · conv => whnf
                          cases h
                          exact hK
                        · conv => whnf
                          cases h
                          exact hK
                      · conv => whnf
                        cases h
                        exact hK
                  · conv => whnf
                    cases h
                    exact hK
                · conv => whnf
                  cases h
                  exact hK
              · conv => whnf
                cases h
                exact hK
            · conv => whnf
              refine vIfD h (fun h => ?_) (fun h => ?_)
              · conv => whnf
                refine vIfB h (fun h => ?_) (fun h => ?_)
                · conv => whnf
                  refine vIfD h (fun h => ?_) (fun h => ?_)
                  · conv => whnf
                    refine vAt h (fun x1 he16a he16b he16x h => ?_)
                    conv => whnf
                    refine vNots ?_
                    refine vIfB h (fun h => ?_) (fun h => ?_)
                    · conv => whnf
                      cases h
                      exact hK
                    · conv => whnf
                      refine vIfD h (fun h => ?_) (fun h => ?_)
                      · conv => whnf
                        refine vBind h (fun l03Tables0 hb17 h => ?_)
                        conv => whnf
                        refine vIfB h (fun h => ?_) (fun h => ?_)
                        · conv => whnf
                          cases h
                          exact hK
                        · conv => whnf
                          cases h
                          exact hK
                      · conv => whnf
                        cases h
                        exact hK
                  · conv => whnf
                    cases h
                    exact hK
                · conv => whnf
                  cases h
                  exact hK
              · conv => whnf
                cases h
                exact hK
    · conv => whnf
      cases h
      exact hK
  · conv => whnf
    cases h
    exact hK
set_option maxRecDepth 100000 in
theorem w_spec_l03Tables (k_spec_TableBounds' : SoundC Tryz.prog 196 c_spec_TableBounds) : SoundC Tryz.prog 182 c_spec_l03Tables := by
  refine fn_sound tab_ok (gam_cons k_spec_TableBounds' gam_nil) mixed { loops := [(0, [.reg 5 (.dat (.int .i64))])] } (fn := Tryz.f182) Tryz.func182 (by kernel_rfl) (by kernel_rfl) ?_
  rintro ⟨list0, positive0, ⟨⟩⟩ K ⟨r, h, hK⟩
  change spec_l03Tables list0 positive0 = some r at h
  unfold spec_l03Tables at h
  conv => whnf
  refine vNots ?_
  refine vIfD h (fun h => ?_) (fun h => ?_)
  · conv => whnf
    refine vLoop h ?_
    rintro I0 μ0 ⟨i0, ⟨⟩⟩ zs0 h hI0 hR0
    change spec_l03Tables_loop0 list0 positive0 i0 = some zs0 at h
    unfold spec_l03Tables_loop0 at h
    conv => whnf
    refine vIfD h (fun h => ?_) (fun h => ?_)
    · conv => whnf
      refine vAt h (fun x0 he1a he1b he1x h => ?_)
      conv => whnf
      refine vBind h (fun TableBounds0 hb2 h => ?_)
      conv => whnf
      refine vNot ?_
      refine vIfD h (fun h => ?_) (fun h => ?_)
      · conv => whnf
        refine vIfB h (fun h => ?_) (fun h => ?_)
        · conv => whnf
          refine vIfD h (fun h => ?_) (fun h => ?_)
          · conv => whnf
            cases h
            obtain rfl := hR0 _ rfl
            exact hK
          · conv => whnf
            cases h
            exact ⟨⟨rfl, rfl⟩, hI0 _ rfl⟩
        · conv => whnf
          cases h
          exact ⟨⟨rfl, rfl⟩, hI0 _ rfl⟩
      · conv => whnf
        cases h
        obtain rfl := hR0 _ rfl
        exact hK
    · conv => whnf
      cases h
      obtain rfl := hR0 _ rfl
      exact hK
  · conv => whnf
    cases h
    exact hK
set_option maxRecDepth 100000 in
theorem w_spec_l09Count (k_spec_l05Places' : SoundC Tryz.prog 71 c_spec_l05Places) : SoundC Tryz.prog 32 c_spec_l09Count := by
  refine fn_sound tab_ok (gam_cons k_spec_l05Places' gam_nil) mixed {} (fn := Tryz.f32) Tryz.func32 (by kernel_rfl) (by kernel_rfl) ?_
  rintro ⟨b0, ⟨⟩⟩ K ⟨r, h, hK⟩
  change spec_l09Count b0 = some r at h
  unfold spec_l09Count at h
  conv => whnf
  refine vBind h (fun l05Places0 hb0 h => ?_)
  conv => whnf
  cases h
  exact hK
set_option maxRecDepth 100000 in
theorem w_spec_l32Nodes (k_spec_l09Count' : SoundC Tryz.prog 32 c_spec_l09Count) (k_spec_l09Rising' : SoundC Tryz.prog 64 c_spec_l09Rising) : SoundC Tryz.prog 29 c_spec_l32Nodes := by
  refine fn_sound tab_ok (gam_cons k_spec_l09Count' (gam_cons k_spec_l09Rising' gam_nil)) mixed {} (fn := Tryz.f29) Tryz.func29 (by kernel_rfl) (by kernel_rfl) ?_
  rintro ⟨b0, list0, ⟨⟩⟩ K ⟨r, h, hK⟩
  change spec_l32Nodes b0 list0 = some r at h
  unfold spec_l32Nodes at h
  conv => whnf
  refine vBind h (fun l09Count0 hb0 h => ?_)
  conv => whnf
  refine vBind h (fun l09Rising0 hb1 h => ?_)
  conv => whnf
  cases h
  exact hK
end Go.Proofs.YtenpdmpfepgkjaaGreatDoor
