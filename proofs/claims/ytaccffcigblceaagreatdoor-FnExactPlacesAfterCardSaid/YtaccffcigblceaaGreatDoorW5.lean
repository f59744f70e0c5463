/-
  The functions keep their contracts, if what they call does. Printed by program.
-/
import Derived.Test.YtaccffcigblceaaGreatDoorM
import Derived.KernelRfl
namespace Go.Proofs.YtaccffcigblceaaGreatDoor
open Go Go.Sx
set_option maxRecDepth 100000
set_option linter.unusedVariables false
set_option linter.unusedSimpArgs false
theorem w_impl_Design_hasNames (q0 : SoundC Tryz.prog 221 c_impl_areNames) : SoundC Tryz.prog 199 c_impl_Design_hasNames := by
  refine fn_sound tab_ok (gam_cons q0 gam_nil) mixed { loops := [(0, [.reg 3 (.own (.ol 9 (.flat (.str)))), .reg 12 (.dat (.int .i64))]), (2, [.reg 4 (.own (.ol 9 (.flat (.str)))), .reg 25 (.dat (.int .i64))])] } (fn := Tryz.f199) Tryz.func199 (by kernel_rfl) (by kernel_rfl) ?_
  rintro ⟨d0, ⟨⟩⟩ K ⟨r, h, hK⟩
  change impl_Design_hasNames d0 = some r at h
  unfold impl_Design_hasNames at h
  conv => whnf
  refine vLoop h ?_
  rintro I0 μ0 ⟨instances0, v0, ⟨⟩⟩ zs0 h hI0 hR0
  change impl_Design_hasNames_loop1 d0 instances0 v0 = some zs0 at h
  unfold impl_Design_hasNames_loop1 at h
  conv => whnf
  refine vIfD h (fun h => ?_) (fun h => ?_)
  · conv => whnf
    refine vAt h (fun x0 he1a he1b he1x h => ?_)
    conv => whnf
    refine vPre h (fun hp2 h => ?_)
    conv => whnf
    cases h
    exact ⟨⟨rfl, rfl⟩, hI0 _ rfl⟩
  · conv => whnf
    refine vLoop h ?_
    rintro I3 μ3 ⟨ports0, v1, ⟨⟩⟩ zs3 h hI3 hR3
    change impl_Design_hasNames_loop0 d0 instances0 ports0 v1 = some zs3 at h
    unfold impl_Design_hasNames_loop0 at h
    conv => whnf
    refine vIfD h (fun h => ?_) (fun h => ?_)
    · conv => whnf
      refine vAt h (fun x0 he4a he4b he4x h => ?_)
      conv => whnf
      refine vPre h (fun hp5 h => ?_)
      conv => whnf
      cases h
      exact ⟨⟨rfl, rfl⟩, hI3 _ rfl⟩
    · conv => whnf
      refine vIfD h (fun h => ?_) (fun h => ?_)
      · conv => whnf
        refine vIfD h (fun h => ?_) (fun h => ?_)
        · conv => whnf
          refine vIfD h (fun h => ?_) (fun h => ?_)
          · conv => whnf
            refine vBind h (fun areNames0 hb6 h => ?_)
            conv => whnf
            refine vIfB h (fun h => ?_) (fun h => ?_)
            · conv => whnf
              refine vBind h (fun areNames1 hb7 h => ?_)
              conv => whnf
              refine vIfB h (fun h => ?_) (fun h => ?_)
              · conv => whnf
                refine vBind h (fun areNames2 hb8 h => ?_)
                conv => whnf
                cases h
                obtain rfl := hR3 _ rfl
                obtain rfl := hR0 _ rfl
                exact hK
              · conv => whnf
                cases h
                obtain rfl := hR3 _ rfl
                obtain rfl := hR0 _ rfl
                exact hK
            · conv => whnf
              cases h
              obtain rfl := hR3 _ rfl
              obtain rfl := hR0 _ rfl
              exact hK
          · conv => whnf
            cases h
            obtain rfl := hR3 _ rfl
            obtain rfl := hR0 _ rfl
            exact hK
        · conv => whnf
          cases h
          obtain rfl := hR3 _ rfl
          obtain rfl := hR0 _ rfl
          exact hK
      · conv => whnf
        cases h
        obtain rfl := hR3 _ rfl
        obtain rfl := hR0 _ rfl
        exact hK
theorem w_impl_Design_netNamed (q0 : SoundC Tryz.prog 246 c_slices_Index_Sstring_string) : SoundC Tryz.prog 214 c_impl_Design_netNamed := by
  refine fn_sound tab_ok (gam_cons q0 gam_nil) mixed {} (fn := Tryz.f214) Tryz.func214 (by kernel_rfl) (by kernel_rfl) ?_
  rintro ⟨d0, name0, ⟨⟩⟩ K ⟨r, h, hK⟩
  change impl_Design_netNamed d0 name0 = some r at h
  unfold impl_Design_netNamed at h
  conv => whnf
  refine vBind h (fun string0 hb0 h => ?_)
  conv => whnf
  cases h
  exact hK
theorem w_impl_Edit_isInRange (q7 : SoundC Tryz.prog 171 c_impl_within) (q5 : SoundC Tryz.prog 207 c_impl_Edit_own) (q6 : SoundC Tryz.prog 206 c_impl_sameEdit) (q2 : SoundC Tryz.prog 102 c_impl_Design_places) (q0 : SoundC Tryz.prog 208 c_impl_length_impl_place) (q1 : SoundC Tryz.prog 209 c_impl_length_impl_Cell) (q3 : SoundC Tryz.prog 201 c_impl_Design_isNet) (q4 : SoundC Tryz.prog 117 c_impl_length_int64) : SoundC Tryz.prog 159 c_impl_Edit_isInRange := by
  refine fn_sound tab_ok (gam_cons q7 (gam_cons q5 (gam_cons q6 (gam_cons q2 (gam_cons q0 (gam_cons q1 (gam_cons q3 (gam_cons q4 gam_nil)))))))) mixed { draws := [(1, [0, 1, 3, 7, 15, 31, 31, 95, 255, 511, 1023], .op 0 (.op 1 (.alt 2 (.op 3 (.op 4 (.op 5 (.op 6 (.alt 7 (.alt 8 (.op 9 (.op 10 (.done))) (.done)) (.done)))))) (.done)))), (3, [0, 1, 0, 4, 12, 28, 60, 127, 255], .op 0 (.op 1 (.op 2 (.op 3 (.alt 4 (.alt 5 (.op 6 (.alt 7 (.op 8 (.done)) (.done))) (.done)) (.done)))))), (7, [0, 1, 3, 7, 3, 19, 51, 115, 243, 511, 1023, 2047], .op 0 (.op 1 (.op 2 (.op 3 (.op 4 (.op 5 (.op 6 (.alt 7 (.op 8 (.alt 9 (.op 10 (.op 11 (.done))) (.done))) (.done))))))))), (9, [0, 1, 3, 7, 3, 19, 63, 127, 255, 511, 1023, 511, 2559, 511, 8703, 31231, 63999, 129535, 260607, 522751, 1048575, 2097151, 4194303], .op 0 (.op 1 (.op 2 (.op 3 (.op 4 (.op 5 (.alt 6 (.op 7 (.op 8 (.op 9 (.op 10 (.op 11 (.op 12 (.op 13 (.op 14 (.op 15 (.op 16 (.op 17 (.alt 18 (.op 19 (.alt 20 (.op 21 (.op 22 (.done))) (.done))) (.done))))))))))))) (.done))))))))] } (fn := Tryz.f159) Tryz.func159 (by kernel_rfl) (by kernel_rfl) ?_
  rintro ⟨a0, a1, ⟨⟩⟩ K ⟨r, h, hK⟩
  change impl_Edit_isInRange a0 a1 = some r at h
  unfold impl_Edit_isInRange at h
  conv => whnf
  refine ⟨by kernel_rfl, ?_⟩
  conv => whnf
  refine vBind h (fun within0 hb0 h => ?_)
  conv => whnf
  refine vNot ?_
  refine vIfB h (fun h => ?_) (fun h => ?_)
  · conv => whnf
    refine vBind h (fun own0 hb1 h => ?_)
    conv => whnf
    refine vBind h (fun sameEdit0 hb2 h => ?_)
    conv => whnf
    refine vNots ?_
    refine vIfB h (fun h => ?_) (fun h => ?_)
    · conv => whnf
      refine ⟨by kernel_rfl, ?_⟩
      conv => whnf
      refine vBind h (fun places0 hb3 h => ?_)
      conv => whnf
      refine vBind h (fun place0 hb4 h => ?_)
      conv => whnf
      refine vBind h (fun within1 hb5 h => ?_)
      conv => whnf
      refine vIfD h (fun h => ?_) (fun h => ?_)
      · conv => whnf
        refine vIfD h (fun h => ?_) (fun h => ?_)
        · conv => whnf
          refine ⟨by kernel_rfl, ?_⟩
          conv => whnf
          refine vIfB h (fun h => ?_) (fun h => ?_)
          · conv => whnf
            refine vBind h (fun Cell0 hb6 h => ?_)
            conv => whnf
            refine vBind h (fun within2 hb7 h => ?_)
            conv => whnf
            cases h
            exact hK
          · conv => whnf
            cases h
            exact hK
        · conv => whnf
          refine vIfD h (fun h => ?_) (fun h => ?_)
          · conv => whnf
            refine ⟨by kernel_rfl, ?_⟩
            conv => whnf
            refine vIfB h (fun h => ?_) (fun h => ?_)
            · conv => whnf
              refine vBind h (fun isNet0 hb8 h => ?_)
              conv => whnf
              refine vIfB h (fun h => ?_) (fun h => ?_)
              · conv => whnf
                refine vAt h (fun x0 he9a he9b he9x h => ?_)
                conv => whnf
                refine vBind h (fun int64_0 hb10 h => ?_)
                conv => whnf
                refine vBind h (fun within2 hb11 h => ?_)
                conv => whnf
                cases h
                exact hK
              · conv => whnf
                cases h
                exact hK
            · conv => whnf
              cases h
              exact hK
          · conv => whnf
            refine vIfD h (fun h => ?_) (fun h => ?_)
            · conv => whnf
              refine vBind h (fun isNet0 hb12 h => ?_)
              conv => whnf
              cases h
              exact hK
            · conv => whnf
              cases h
              exact hK
      · conv => whnf
        refine vIfD h (fun h => ?_) (fun h => ?_)
        · conv => whnf
          refine ⟨by kernel_rfl, ?_⟩
          conv => whnf
          refine vIfB h (fun h => ?_) (fun h => ?_)
          · conv => whnf
            refine vBind h (fun Cell0 hb13 h => ?_)
            conv => whnf
            refine vBind h (fun within2 hb14 h => ?_)
            conv => whnf
            cases h
            exact hK
          · conv => whnf
            cases h
            exact hK
        · conv => whnf
          refine vIfD h (fun h => ?_) (fun h => ?_)
          · conv => whnf
            refine ⟨by kernel_rfl, ?_⟩
            conv => whnf
            refine vIfB h (fun h => ?_) (fun h => ?_)
            · conv => whnf
              refine vBind h (fun isNet0 hb15 h => ?_)
              conv => whnf
              refine vIfB h (fun h => ?_) (fun h => ?_)
              · conv => whnf
                refine vAt h (fun x0 he16a he16b he16x h => ?_)
                conv => whnf
                refine vBind h (fun int64_0 hb17 h => ?_)
                conv => whnf
                refine vBind h (fun within2 hb18 h => ?_)
                conv => whnf
                cases h
                exact hK
              · conv => whnf
                cases h
                exact hK
            · conv => whnf
              cases h
              exact hK
          · conv => whnf
            refine vIfD h (fun h => ?_) (fun h => ?_)
            · conv => whnf
              refine vBind h (fun isNet0 hb19 h => ?_)
              conv => whnf
              cases h
              exact hK
            · conv => whnf
              cases h
              exact hK
    · conv => whnf
      cases h
      exact hK
  · conv => whnf
    cases h
    exact hK
theorem w_impl_InstanceNamed_c1 : SoundC Tryz.prog 245 c_impl_InstanceNamed_c1 := by
  refine fn_sound tab_ok gam_nil mixed {} (fn := Tryz.f245) Tryz.func245 (by kernel_rfl) (by kernel_rfl) ?_
  rintro ⟨x0, a0, ⟨⟩⟩ K ⟨r, h, hK⟩
  change impl_InstanceNamed_c1 x0 a0 = some r at h
  unfold impl_InstanceNamed_c1 at h
  conv => whnf
  cases h
  exact hK
theorem w_impl_IsDesign (q4 : SoundC Tryz.prog 198 c_impl_IsLibrary) (q2 : SoundC Tryz.prog 199 c_impl_Design_hasNames) (q1 : SoundC Tryz.prog 200 c_impl_Design_isInstance) (q3 : SoundC Tryz.prog 201 c_impl_Design_isNet) (q0 : SoundC Tryz.prog 202 c_slices_ContainsFunc_Sint_int_at_impl_IsDesign_c1) : SoundC Tryz.prog 157 c_impl_IsDesign := by
  refine fn_sound tab_ok (gam_cons q4 (gam_cons q2 (gam_cons q1 (gam_cons q3 (gam_cons q0 gam_nil))))) mixed { loops := [(0, [.reg 25 (.dat (.int .i64)), .ent 2 (nat_lit 3) (.flat ti291.ety)]), (2, [.reg 51 (.dat (.int .i64)), .ent 2 (nat_lit 3) (.flat ti291.ety)])] } (fn := Tryz.f157) Tryz.func157 (by kernel_rfl) (by kernel_rfl) ?_
  rintro ⟨a0, a1, ⟨⟩⟩ K ⟨r, h, hK⟩
  change impl_IsDesign a0 a1 = some r at h
  unfold impl_IsDesign at h
  conv => whnf
  refine vBind h (fun IsLibrary0 hb0 h => ?_)
  conv => whnf
  refine vNot ?_
  refine vIfB h (fun h => ?_) (fun h => ?_)
  · conv => whnf
    refine vBind h (fun hasNames0 hb1 h => ?_)
    conv => whnf
    refine vNots ?_
    refine vIfB h (fun h => ?_) (fun h => ?_)
    · conv => whnf
      refine vPre h (fun hp2 h => ?_)
      conv => whnf
      refine vPre h (fun hp3 h => ?_)
      conv => whnf
      refine vPre h (fun hp4 h => ?_)
      conv => whnf
      refine vPre h (fun hp5 h => ?_)
      conv => whnf
      refine vLoop h ?_
      rintro I6 μ6 ⟨v0, l0, ⟨⟩⟩ zs6 h hI6 hR6
      change impl_IsDesign_loop1 a0 a1 v0 l0 = some zs6 at h
      unfold impl_IsDesign_loop1 at h
      conv => whnf
      refine vIfD h (fun h => ?_) (fun h => ?_)
      · conv => whnf
        refine vAt h (fun x0 he7a he7b he7x h => ?_)
        conv => whnf
        refine vBind h (fun isInstance0 hb8 h => ?_)
        conv => whnf
        refine vNots ?_
        refine vIfB h (fun h => ?_) (fun h => ?_)
        · conv => whnf
          refine vAt h (fun x1 he9a he9b he9x h => ?_)
          conv => whnf
          refine vAt h (fun x2 he10a he10b he10x h => ?_)
          conv => whnf
          refine ⟨by kernel_rfl, ?_⟩
          conv => whnf
          refine ⟨he10a, he10b, vAgain he10x ?_⟩
          conv => whnf
          refine ⟨he10a, he10b, vAgain he10x ?_⟩
          conv => whnf
          refine ⟨by kernel_rfl, ?_⟩
          conv => whnf
          refine ⟨by decide, ?_⟩
          conv => whnf
          refine ⟨he10a, he10b, vAgain he10x ?_⟩
          conv => whnf
          cases h
          exact ⟨⟨rfl, rfl⟩, hI6 _ rfl⟩
        · conv => whnf
          cases h
          obtain rfl := hR6 _ rfl
          exact hK
      · conv => whnf
        refine vLoop h ?_
        rintro I11 μ11 ⟨v1, l1, ⟨⟩⟩ zs11 h hI11 hR11
        change impl_IsDesign_loop0 a1 v1 l1 = some zs11 at h
        unfold impl_IsDesign_loop0 at h
        conv => whnf
        refine vIfD h (fun h => ?_) (fun h => ?_)
        · conv => whnf
          refine vAt h (fun x0 he12a he12b he12x h => ?_)
          conv => whnf
          refine vNots ?_
          refine vIfD h (fun h => ?_) (fun h => ?_)
          · conv => whnf
            refine vBind h (fun isNet0 hb13 h => ?_)
            conv => whnf
            refine vNots ?_
            refine vIfB h (fun h => ?_) (fun h => ?_)
            · conv => whnf
              refine vIfD h (fun h => ?_) (fun h => ?_)
              · conv => whnf
                refine vAt h (fun x1 he14a he14b he14x h => ?_)
                conv => whnf
                refine ⟨by kernel_rfl, ?_⟩
                conv => whnf
                refine ⟨he14a, he14b, vAgain he14x ?_⟩
                conv => whnf
                refine ⟨he14a, he14b, vAgain he14x ?_⟩
                conv => whnf
                refine ⟨by kernel_rfl, ?_⟩
                conv => whnf
                refine ⟨by decide, ?_⟩
                conv => whnf
                refine ⟨he14a, he14b, vAgain he14x ?_⟩
                conv => whnf
                cases h
                exact ⟨⟨rfl, rfl⟩, hI11 _ rfl⟩
              · conv => whnf
                cases h
                exact ⟨⟨rfl, rfl⟩, hI11 _ rfl⟩
            · conv => whnf
              cases h
              obtain rfl := hR11 _ rfl
              obtain rfl := hR6 _ rfl
              exact hK
          · conv => whnf
            refine vNot ?_
            refine vIfD h (fun h => ?_) (fun h => ?_)
            · conv => whnf
              refine vBind h (fun isNet0 hb15 h => ?_)
              conv => whnf
              refine vNots ?_
              refine vIfB h (fun h => ?_) (fun h => ?_)
              · conv => whnf
                refine vIfD h (fun h => ?_) (fun h => ?_)
                · conv => whnf
                  refine vAt h (fun x1 he16a he16b he16x h => ?_)
                  conv => whnf
                  refine ⟨by kernel_rfl, ?_⟩
                  conv => whnf
                  refine ⟨he16a, he16b, vAgain he16x ?_⟩
                  conv => whnf
                  refine ⟨he16a, he16b, vAgain he16x ?_⟩
                  conv => whnf
                  refine ⟨by kernel_rfl, ?_⟩
                  conv => whnf
                  refine ⟨by decide, ?_⟩
                  conv => whnf
                  refine ⟨he16a, he16b, vAgain he16x ?_⟩
                  conv => whnf
                  cases h
                  exact ⟨⟨rfl, rfl⟩, hI11 _ rfl⟩
                · conv => whnf
                  cases h
                  exact ⟨⟨rfl, rfl⟩, hI11 _ rfl⟩
              · conv => whnf
                cases h
                obtain rfl := hR11 _ rfl
                obtain rfl := hR6 _ rfl
                exact hK
            · conv => whnf
              cases h
              obtain rfl := hR11 _ rfl
              obtain rfl := hR6 _ rfl
              exact hK
        · conv => whnf
          refine vBind h (fun c1_0 hb17 h => ?_)
          conv => whnf
          cases h
          obtain rfl := hR11 _ rfl
          obtain rfl := hR6 _ rfl
          exact hK
    · conv => whnf
      cases h
      exact hK
  · conv => whnf
    cases h
    exact hK
theorem w_impl_IsDesign_c1 : SoundC Tryz.prog 203 c_impl_IsDesign_c1 := by
  refine fn_sound tab_ok gam_nil mixed {} (fn := Tryz.f203) Tryz.func203 (by kernel_rfl) (by kernel_rfl) ?_
  rintro ⟨n0, ⟨⟩⟩ K ⟨r, h, hK⟩
  change impl_IsDesign_c1 n0 = some r at h
  unfold impl_IsDesign_c1 at h
  conv => whnf
  cases h
  exact hK
theorem w_impl_isCheck : SoundC Tryz.prog 287 c_impl_isCheck := by
  refine fn_sound tab_ok gam_nil mixed {} (fn := Tryz.f287) Tryz.func287 (by kernel_rfl) (by kernel_rfl) ?_
  rintro ⟨kind0, ⟨⟩⟩ K ⟨r, h, hK⟩
  change impl_isCheck kind0 = some r at h
  unfold impl_isCheck at h
  conv => whnf
  refine vIfDs h (fun h => ?_) (fun h => ?_)
  · conv => whnf
    cases h
    exact hK
  · conv => whnf
    cases h
    exact hK
theorem w_impl_isName (q2 : SoundC Tryz.prog 171 c_impl_within) (q1 : SoundC Tryz.prog 242 c_strings_Trim) (q0 : SoundC Tryz.prog 243 c_strings_IndexByte) : SoundC Tryz.prog 212 c_impl_isName := by
  refine fn_sound tab_ok (gam_cons q2 (gam_cons q1 (gam_cons q0 gam_nil))) mixed {} (fn := Tryz.f212) Tryz.func212 (by kernel_rfl) (by kernel_rfl) ?_
  rintro ⟨s0, ⟨⟩⟩ K ⟨r, h, hK⟩
  change impl_isName s0 = some r at h
  unfold impl_isName at h
  conv => whnf
  refine vBind h (fun within0 hb0 h => ?_)
  conv => whnf
  refine vIfB h (fun h => ?_) (fun h => ?_)
  · conv => whnf
    refine vPre h (fun hp1 h => ?_)
    conv => whnf
    refine ⟨by decide, ?_⟩
    conv => whnf
    refine ⟨by kernel_rfl, ?_⟩
    conv => whnf
    refine vIfD h (fun h => ?_) (fun h => ?_)
    · conv => whnf
      refine vAt h (fun x0 he2a he2b he2x h => ?_)
      conv => whnf
      cases h
      exact hK
    · conv => whnf
      cases h
      exact hK
  · conv => whnf
    cases h
    exact hK
theorem w_impl_sameEdit (q0 : SoundC Tryz.prog 239 c_impl_sameWire) : SoundC Tryz.prog 206 c_impl_sameEdit := by
  refine fn_sound tab_ok (gam_cons q0 gam_nil) mixed {} (fn := Tryz.f206) Tryz.func206 (by kernel_rfl) (by kernel_rfl) ?_
  rintro ⟨a0, b0, ⟨⟩⟩ K ⟨r, h, hK⟩
  change impl_sameEdit a0 b0 = some r at h
  unfold impl_sameEdit at h
  conv => whnf
  refine vIfD h (fun h => ?_) (fun h => ?_)
  · conv => whnf
    refine vIfD h (fun h => ?_) (fun h => ?_)
    · conv => whnf
      refine vIfD h (fun h => ?_) (fun h => ?_)
      · conv => whnf
        refine vIfD h (fun h => ?_) (fun h => ?_)
        · conv => whnf
          refine vIfD h (fun h => ?_) (fun h => ?_)
          · conv => whnf
            refine vIfD h (fun h => ?_) (fun h => ?_)
            · conv => whnf
              refine vBind h (fun sameWire0 hb0 h => ?_)
              conv => whnf
              cases h
              exact hK
            · conv => whnf
              cases h
              exact hK
          · conv => whnf
            cases h
            exact hK
        · conv => whnf
          cases h
          exact hK
      · conv => whnf
        cases h
        exact hK
    · conv => whnf
      cases h
      exact hK
  · conv => whnf
    cases h
    exact hK
theorem w_impl_within : SoundC Tryz.prog 171 c_impl_within := by
  refine fn_sound tab_ok gam_nil mixed {} (fn := Tryz.f171) Tryz.func171 (by kernel_rfl) (by kernel_rfl) ?_
  rintro ⟨x0, low0, high0, ⟨⟩⟩ K ⟨r, h, hK⟩
  change impl_within x0 low0 high0 = some r at h
  unfold impl_within at h
  conv => whnf
  refine vIfD h (fun h => ?_) (fun h => ?_)
  · conv => whnf
    cases h
    exact hK
  · conv => whnf
    cases h
    exact hK
theorem w_laws_eqInt64S : SoundC Tryz.prog 12 c_laws_eqInt64S := by
  refine fn_sound tab_ok gam_nil mixed { loops := [(0, [.reg 5 (.dat (.int .i64))])], draws := [(6, [0, 0, 3, 7, 0, 0, 48, 112, 255], .op 0 (.op 1 (.op 2 (.op 3 (.op 4 (.op 5 (.op 6 (.op 7 (.op 8 (.done))))))))))] } (fn := Tryz.f12) Tryz.func12 (by kernel_rfl) (by kernel_rfl) ?_
  rintro ⟨a0, b0, ⟨⟩⟩ K ⟨r, h, hK⟩
  change laws_eqInt64S a0 b0 = some r at h
  unfold laws_eqInt64S at h
  conv => whnf
  refine vNots ?_
  refine vIfD h (fun h => ?_) (fun h => ?_)
  · conv => whnf
    refine vLoop h ?_
    rintro I0 μ0 ⟨i0, ⟨⟩⟩ zs0 h hI0 hR0
    change laws_eqInt64S_loop0 a0 b0 i0 = some zs0 at h
    unfold laws_eqInt64S_loop0 at h
    conv => whnf
    refine vIfD h (fun h => ?_) (fun h => ?_)
    · conv => whnf
      refine ⟨by kernel_rfl, ?_⟩
      conv => whnf
      refine vAt h (fun x0 he1a he1b he1x h => ?_)
      conv => whnf
      refine vAt h (fun x1 he2a he2b he2x h => ?_)
      conv => whnf
      refine vNots ?_
      refine vIfD h (fun h => ?_) (fun h => ?_)
      · conv => whnf
        cases h
        exact ⟨⟨rfl, rfl⟩, hI0 _ rfl⟩
      · conv => whnf
        cases h
        obtain rfl := hR0 _ rfl
        exact hK
    · conv => whnf
      cases h
      obtain rfl := hR0 _ rfl
      exact hK
  · conv => whnf
    cases h
    exact hK
theorem w_laws_eqLibrary (q0 : SoundC Tryz.prog 103 c_laws_eqCellS) : SoundC Tryz.prog 47 c_laws_eqLibrary := by
  refine fn_sound tab_ok (gam_cons q0 gam_nil) mixed {} (fn := Tryz.f47) Tryz.func47 (by kernel_rfl) (by kernel_rfl) ?_
  rintro ⟨a0, b0, ⟨⟩⟩ K ⟨r, h, hK⟩
  change laws_eqLibrary a0 b0 = some r at h
  unfold laws_eqLibrary at h
  conv => whnf
  refine vBind h (fun eqCellS0 hb0 h => ?_)
  conv => whnf
  refine vNots ?_
  refine vIfB h (fun h => ?_) (fun h => ?_)
  · conv => whnf
    cases h
    exact hK
  · conv => whnf
    cases h
    exact hK
theorem w_laws_eqWireS (q0 : SoundC Tryz.prog 50 c_laws_eqWire) : SoundC Tryz.prog 49 c_laws_eqWireS := by
  refine fn_sound tab_ok (gam_cons q0 gam_nil) mixed { loops := [(0, [.reg 5 (.dat (.int .i64))])], draws := [(6, [0, 0, 3, 7, 0, 0, 48, 112, 255, 511], .op 0 (.op 1 (.op 2 (.op 3 (.op 4 (.op 5 (.op 6 (.op 7 (.alt 8 (.op 9 (.done)) (.done))))))))))] } (fn := Tryz.f49) Tryz.func49 (by kernel_rfl) (by kernel_rfl) ?_
  rintro ⟨a0, b0, ⟨⟩⟩ K ⟨r, h, hK⟩
  change laws_eqWireS a0 b0 = some r at h
  unfold laws_eqWireS at h
  conv => whnf
  refine vNots ?_
  refine vIfD h (fun h => ?_) (fun h => ?_)
  · conv => whnf
    refine vLoop h ?_
    rintro I0 μ0 ⟨i0, ⟨⟩⟩ zs0 h hI0 hR0
    change laws_eqWireS_loop0 a0 b0 i0 = some zs0 at h
    unfold laws_eqWireS_loop0 at h
    conv => whnf
    refine vIfD h (fun h => ?_) (fun h => ?_)
    · conv => whnf
      refine ⟨by kernel_rfl, ?_⟩
      conv => whnf
      refine vAt h (fun x0 he1a he1b he1x h => ?_)
      conv => whnf
      refine vAt h (fun x1 he2a he2b he2x h => ?_)
      conv => whnf
      refine vBind h (fun eqWire0 hb3 h => ?_)
      conv => whnf
      refine vNots ?_
      refine vIfB h (fun h => ?_) (fun h => ?_)
      · conv => whnf
        cases h
        exact ⟨⟨rfl, rfl⟩, hI0 _ rfl⟩
      · conv => whnf
        cases h
        obtain rfl := hR0 _ rfl
        exact hK
    · conv => whnf
      cases h
      obtain rfl := hR0 _ rfl
      exact hK
  · conv => whnf
    cases h
    exact hK
theorem w_laws_markBlock (q0 : SoundC Tryz.prog 51 c_laws_markLibrary) (q1 : SoundC Tryz.prog 52 c_laws_markDesign) (q2 : SoundC Tryz.prog 53 c_laws_markWireS) : SoundC Tryz.prog 15 c_laws_markBlock := by
  refine fn_sound tabD_ok (gam_cons q0 (gam_cons q1 (gam_cons q2 gam_nil))) mixed {} (fn := Tryz.f15) Tryz.func15 (by kernel_rfl) (by kernel_rfl) ?_
  rintro ⟨a0, k0, ⟨⟩⟩ K ⟨r, h, hK⟩
  change laws_markBlock a0 k0 = some r at h
  unfold laws_markBlock at h
  conv => whnf
  intro fp0
  conv => whnf
  intro fp1
  conv => whnf
  intro fp2
  conv => whnf
  refine vBind h (fun markLibrary0 hb3 h => ?_)
  conv => whnf
  intro fp4
  conv => whnf
  refine vBind h (fun markDesign0 hb5 h => ?_)
  conv => whnf
  intro fp6
  conv => whnf
  refine vBind h (fun markWireS0 hb7 h => ?_)
  conv => whnf
  intro fp8
  conv => whnf
  cases h
  exact hK
theorem w_laws_markLibrary (q0 : SoundC Tryz.prog 107 c_laws_markCellS) : SoundC Tryz.prog 51 c_laws_markLibrary := by
  refine fn_sound tabD_ok (gam_cons q0 gam_nil) mixed {} (fn := Tryz.f51) Tryz.func51 (by kernel_rfl) (by kernel_rfl) ?_
  rintro ⟨a0, k0, ⟨⟩⟩ K ⟨r, h, hK⟩
  change laws_markLibrary a0 k0 = some r at h
  unfold laws_markLibrary at h
  conv => whnf
  intro fp0
  conv => whnf
  refine vBind h (fun markCellS0 hb1 h => ?_)
  conv => whnf
  intro fp2
  conv => whnf
  cases h
  exact hK
theorem w_laws_markWireS (q0 : SoundC Tryz.prog 17 c_laws_markInt64S) : SoundC Tryz.prog 53 c_laws_markWireS := by
  refine fn_sound tabD_ok (gam_cons q0 gam_nil) mixed { loops := [(0, [.reg 1 (.dat (.int .i64)), .reg 5 (.dat (.int .i64)), .ent 0 (nat_lit 53) (Dp.pair (Dp.ol (2 : Go.TypeId) (Dp.flat (Ty.int IntKind.i64))) (Dp.pair (Dp.ol (2 : Go.TypeId) (Dp.flat (Ty.int IntKind.i64))) (Dp.pair (Dp.ol (2 : Go.TypeId) (Dp.flat (Ty.int IntKind.i64))) (Dp.pair (Dp.ol (2 : Go.TypeId) (Dp.flat (Ty.int IntKind.i64))) (Dp.flat Ty.unit)))))])] } (fn := Tryz.f53) Tryz.func53 (by kernel_rfl) (by kernel_rfl) ?_
  rintro ⟨a0, k0, ⟨⟩⟩ K ⟨r, h, hK⟩
  change laws_markWireS a0 k0 = some r at h
  unfold laws_markWireS at h
  conv => whnf
  intro fp0
  conv => whnf
  refine vLoop h ?_
  rintro I1 μ1 ⟨k1, i0, l0, ⟨⟩⟩ zs1 h hI1 hR1
  change laws_markWireS_loop0 k1 i0 l0 = some zs1 at h
  unfold laws_markWireS_loop0 at h
  conv => whnf
  intro fp2
  conv => whnf
  refine vIfD h (fun h => ?_) (fun h => ?_)
  · conv => whnf
    refine vAt h (fun x0 he3a he3b he3x h => ?_)
    conv => whnf
    refine ⟨he3a, he3b, vAgain he3x ?_⟩
    conv => whnf
    intro fp4
    conv => whnf
    refine vBind h (fun markInt64S0 hb5 h => ?_)
    conv => whnf
    refine ⟨he3a, he3b, vAgain he3x ?_⟩
    conv => whnf
    refine .inl ⟨rfl, ?_⟩
    conv => whnf
    refine vBind h (fun markInt64S1 hb6 h => ?_)
    conv => whnf
    refine ⟨he3a, he3b, vAgain he3x ?_⟩
    conv => whnf
    refine .inl ⟨rfl, ?_⟩
    conv => whnf
    refine vBind h (fun markInt64S2 hb7 h => ?_)
    conv => whnf
    refine ⟨he3a, he3b, vAgain he3x ?_⟩
    conv => whnf
    refine .inl ⟨rfl, ?_⟩
    conv => whnf
    refine vBind h (fun markInt64S3 hb8 h => ?_)
    conv => whnf
    cases h
    exact ⟨⟨rfl, rfl⟩, hI1 _ rfl⟩
  · conv => whnf
    cases h
    obtain rfl := hR1 _ rfl
    exact hK
theorem w_laws_szArcS (q0 : SoundC Tryz.prog 229 c_laws_szArc) : SoundC Tryz.prog 190 c_laws_szArcS := by
  refine fn_sound tab_ok (gam_cons q0 gam_nil) mixed { loops := [(0, [.reg 1 (.dat (.int .i64)), .reg 5 (.dat (.int .i64))])] } (fn := Tryz.f190) Tryz.func190 (by kernel_rfl) (by kernel_rfl) ?_
  rintro ⟨a0, left0, ⟨⟩⟩ K ⟨r, h, hK⟩
  change laws_szArcS a0 left0 = some r at h
  unfold laws_szArcS at h
  conv => whnf
  refine vIfD h (fun h => ?_) (fun h => ?_)
  · conv => whnf
    cases h
    exact hK
  · conv => whnf
    refine vLoop h ?_
    rintro I0 μ0 ⟨left1, i0, ⟨⟩⟩ zs0 h hI0 hR0
    change laws_szArcS_loop0 a0 left1 i0 = some zs0 at h
    unfold laws_szArcS_loop0 at h
    conv => whnf
    refine vIfD h (fun h => ?_) (fun h => ?_)
    · conv => whnf
      refine vAt h (fun x0 he1a he1b he1x h => ?_)
      conv => whnf
      refine vBind h (fun szArc0 hb2 h => ?_)
      conv => whnf
      refine vIfD h (fun h => ?_) (fun h => ?_)
      · conv => whnf
        cases h
        obtain rfl := hR0 _ rfl
        exact hK
      · conv => whnf
        cases h
        exact ⟨⟨rfl, rfl⟩, hI0 _ rfl⟩
    · conv => whnf
      cases h
      obtain rfl := hR0 _ rfl
      exact hK
theorem w_laws_szInstance (q0 : SoundC Tryz.prog 88 c_laws_szInt64S) : SoundC Tryz.prog 143 c_laws_szInstance := by
  refine fn_sound tab_ok (gam_cons q0 gam_nil) mixed {} (fn := Tryz.f143) Tryz.func143 (by kernel_rfl) (by kernel_rfl) ?_
  rintro ⟨a0, left0, ⟨⟩⟩ K ⟨r, h, hK⟩
  change laws_szInstance a0 left0 = some r at h
  unfold laws_szInstance at h
  conv => whnf
  refine vIfD h (fun h => ?_) (fun h => ?_)
  · conv => whnf
    cases h
    exact hK
  · conv => whnf
    refine vBind h (fun szInt64S0 hb0 h => ?_)
    conv => whnf
    refine vIfD h (fun h => ?_) (fun h => ?_)
    · conv => whnf
      cases h
      exact hK
    · conv => whnf
      cases h
      exact hK
theorem w_laws_szTableS (q0 : SoundC Tryz.prog 271 c_laws_szTable) : SoundC Tryz.prog 252 c_laws_szTableS := by
  refine fn_sound tab_ok (gam_cons q0 gam_nil) mixed { loops := [(0, [.reg 1 (.dat (.int .i64)), .reg 5 (.dat (.int .i64))])] } (fn := Tryz.f252) Tryz.func252 (by kernel_rfl) (by kernel_rfl) ?_
  rintro ⟨a0, left0, ⟨⟩⟩ K ⟨r, h, hK⟩
  change laws_szTableS a0 left0 = some r at h
  unfold laws_szTableS at h
  conv => whnf
  refine vIfD h (fun h => ?_) (fun h => ?_)
  · conv => whnf
    cases h
    exact hK
  · conv => whnf
    refine vLoop h ?_
    rintro I0 μ0 ⟨left1, i0, ⟨⟩⟩ zs0 h hI0 hR0
    change laws_szTableS_loop0 a0 left1 i0 = some zs0 at h
    unfold laws_szTableS_loop0 at h
    conv => whnf
    refine vIfD h (fun h => ?_) (fun h => ?_)
    · conv => whnf
      refine vAt h (fun x0 he1a he1b he1x h => ?_)
      conv => whnf
      refine vBind h (fun szTable0 hb2 h => ?_)
      conv => whnf
      refine vIfD h (fun h => ?_) (fun h => ?_)
      · conv => whnf
        cases h
        obtain rfl := hR0 _ rfl
        exact hK
      · conv => whnf
        cases h
        exact ⟨⟨rfl, rfl⟩, hI0 _ rfl⟩
    · conv => whnf
      cases h
      obtain rfl := hR0 _ rfl
      exact hK
theorem w_laws_szWire (q0 : SoundC Tryz.prog 88 c_laws_szInt64S) : SoundC Tryz.prog 38 c_laws_szWire := by
  refine fn_sound tab_ok (gam_cons q0 gam_nil) mixed {} (fn := Tryz.f38) Tryz.func38 (by kernel_rfl) (by kernel_rfl) ?_
  rintro ⟨a0, left0, ⟨⟩⟩ K ⟨r, h, hK⟩
  change laws_szWire a0 left0 = some r at h
  unfold laws_szWire at h
  conv => whnf
  refine vBind h (fun szInt64S0 hb0 h => ?_)
  conv => whnf
  refine vIfD h (fun h => ?_) (fun h => ?_)
  · conv => whnf
    cases h
    exact hK
  · conv => whnf
    refine vBind h (fun szInt64S1 hb1 h => ?_)
    conv => whnf
    refine vIfD h (fun h => ?_) (fun h => ?_)
    · conv => whnf
      cases h
      exact hK
    · conv => whnf
      refine vBind h (fun szInt64S2 hb2 h => ?_)
      conv => whnf
      refine vIfD h (fun h => ?_) (fun h => ?_)
      · conv => whnf
        cases h
        exact hK
      · conv => whnf
        refine vBind h (fun szInt64S3 hb3 h => ?_)
        conv => whnf
        refine vIfD h (fun h => ?_) (fun h => ?_)
        · conv => whnf
          cases h
          exact hK
        · conv => whnf
          cases h
          exact hK
theorem w_laws_toArcS (q0 : SoundC Tryz.prog 232 c_laws_toArc) : SoundC Tryz.prog 197 c_laws_toArcS := by
  refine fn_sound tabD_ok (gam_cons q0 gam_nil) mixed { loops := [(0, [.reg 4 (.dat (.int .i64)), .ent 0 (nat_lit 266) dArc])] } (fn := Tryz.f197) Tryz.func197 (by kernel_rfl) (by kernel_rfl) ?_
  rintro ⟨a0, ⟨⟩⟩ K ⟨r, h, hK⟩
  change laws_toArcS a0 = some r at h
  unfold laws_toArcS at h
  conv => whnf
  refine vPre h (fun hp0 h => ?_)
  conv => whnf
  refine vPre h (fun hp1 h => ?_)
  conv => whnf
  refine vPre h (fun hp2 h => ?_)
  conv => whnf
  refine vPre h (fun hp3 h => ?_)
  conv => whnf
  intro fp4
  conv => whnf
  refine vLoop h ?_
  rintro I5 μ5 ⟨i0, l0, ⟨⟩⟩ zs5 h hI5 hR5
  change laws_toArcS_loop0 a0 i0 l0 = some zs5 at h
  unfold laws_toArcS_loop0 at h
  conv => whnf
  intro fp6
  conv => whnf
  refine vIfD h (fun h => ?_) (fun h => ?_)
  · conv => whnf
    refine vAt h (fun x0 he7a he7b he7x h => ?_)
    conv => whnf
    refine vBind h (fun toArc0 hb8 h => ?_)
    conv => whnf
    intro fp9
    conv => whnf
    intro fp10
    conv => whnf
    refine vAt h (fun x1 he11a he11b he11x h => ?_)
    conv => whnf
    refine ⟨he11a, he11b, vAgain he11x ?_⟩
    conv => whnf
    intro fp12
    conv => whnf
    intro fp13
    conv => whnf
    intro fp14
    conv => whnf
    cases h
    exact ⟨⟨rfl, rfl⟩, hI5 _ rfl⟩
  · conv => whnf
    cases h
    obtain rfl := hR5 _ rfl
    exact hK
theorem w_slices_ContainsFunc_Simpl_Table_impl_Table_at_impl_areTables_c1 (q0 : SoundC Tryz.prog 307 c_slices_IndexFunc_Simpl_Table_impl_Table_at_impl_areTables_c1) : SoundC Tryz.prog 297 c_slices_ContainsFunc_Simpl_Table_impl_Table_at_impl_areTables_c1 := by
  refine fn_sound tab_ok (gam_cons q0 gam_nil) mixed {} (fn := Tryz.f297) Tryz.func297 (by kernel_rfl) (by kernel_rfl) ?_
  rintro ⟨s0, f0, ⟨⟩⟩ K ⟨r, h, hK⟩
  change slices_ContainsFunc_Simpl_Table_impl_Table_at_impl_areTables_c1 s0 f0 = some r at h
  unfold slices_ContainsFunc_Simpl_Table_impl_Table_at_impl_areTables_c1 at h
  conv => whnf
  refine vBind h (fun c1_0 hb0 h => ?_)
  conv => whnf
  cases h
  exact hK
theorem w_slices_ContainsFunc_Sint64_int64_at_impl_Design_isInstance_c1 (q0 : SoundC Tryz.prog 260 c_slices_IndexFunc_Sint64_int64_at_impl_Design_isInstance_c1) : SoundC Tryz.prog 234 c_slices_ContainsFunc_Sint64_int64_at_impl_Design_isInstance_c1 := by
  refine fn_sound tab_ok (gam_cons q0 gam_nil) mixed {} (fn := Tryz.f234) Tryz.func234 (by kernel_rfl) (by kernel_rfl) ?_
  rintro ⟨s0, f0, ⟨⟩⟩ K ⟨r, h, hK⟩
  change slices_ContainsFunc_Sint64_int64_at_impl_Design_isInstance_c1 s0 f0 = some r at h
  unfold slices_ContainsFunc_Sint64_int64_at_impl_Design_isInstance_c1 at h
  conv => whnf
  refine vBind h (fun c1_0 hb0 h => ?_)
  conv => whnf
  cases h
  exact hK
theorem w_slices_EqualFunc_Simpl_Pin_Simpl_Pin_impl_Pin_impl_Pin_at_impl_fitsSwap_c1 (q0 : SoundC Tryz.prog 241 c_impl_fitsSwap_c1) : SoundC Tryz.prog 240 c_slices_EqualFunc_Simpl_Pin_Simpl_Pin_impl_Pin_impl_Pin_at_impl_fitsSwap_c1 := by
  refine fn_sound tab_ok (gam_cons q0 gam_nil) mixed { loops := [(0, [.reg 17 (.dat (.int .i64))])] } (fn := Tryz.f240) Tryz.func240 (by kernel_rfl) (by kernel_rfl) ?_
  rintro ⟨s1_0, s2_0, eq0, ⟨⟩⟩ K ⟨r, h, hK⟩
  change slices_EqualFunc_Simpl_Pin_Simpl_Pin_impl_Pin_impl_Pin_at_impl_fitsSwap_c1 s1_0 s2_0 eq0 = some r at h
  unfold slices_EqualFunc_Simpl_Pin_Simpl_Pin_impl_Pin_impl_Pin_at_impl_fitsSwap_c1 at h
  conv => whnf
  refine vNots ?_
  refine vIfD h (fun h => ?_) (fun h => ?_)
  · conv => whnf
    refine vLoop h ?_
    rintro I0 μ0 ⟨v0, ⟨⟩⟩ zs0 h hI0 hR0
    change slices_EqualFunc_Simpl_Pin_Simpl_Pin_impl_Pin_impl_Pin_at_impl_fitsSwap_c1_loop0 s1_0 s2_0 v0 = some zs0 at h
    unfold slices_EqualFunc_Simpl_Pin_Simpl_Pin_impl_Pin_impl_Pin_at_impl_fitsSwap_c1_loop0 at h
    conv => whnf
    refine vIfD h (fun h => ?_) (fun h => ?_)
    · conv => whnf
      refine vAt h (fun x0 he1a he1b he1x h => ?_)
      conv => whnf
      refine vAt h (fun x1 he2a he2b he2x h => ?_)
      conv => whnf
      refine vBind h (fun c1_0 hb3 h => ?_)
      conv => whnf
      refine vNots ?_
      refine vIfB h (fun h => ?_) (fun h => ?_)
      · conv => whnf
        cases h
        exact ⟨⟨rfl, rfl⟩, hI0 _ rfl⟩
      · conv => whnf
        cases h
        obtain rfl := hR0 _ rfl
        exact hK
    · conv => whnf
      cases h
      obtain rfl := hR0 _ rfl
      exact hK
  · conv => whnf
    cases h
    exact hK
theorem w_slices_IndexFunc_Sint64_int64_at_impl_Design_isInstance_c1 (q0 : SoundC Tryz.prog 235 c_impl_Design_isInstance_c1) : SoundC Tryz.prog 260 c_slices_IndexFunc_Sint64_int64_at_impl_Design_isInstance_c1 := by
  refine fn_sound tab_ok (gam_cons q0 gam_nil) mixed { loops := [(0, [.reg 8 (.dat (.int .i64))])] } (fn := Tryz.f260) Tryz.func260 (by kernel_rfl) (by kernel_rfl) ?_
  rintro ⟨s0, f0, ⟨⟩⟩ K ⟨r, h, hK⟩
  change slices_IndexFunc_Sint64_int64_at_impl_Design_isInstance_c1 s0 f0 = some r at h
  unfold slices_IndexFunc_Sint64_int64_at_impl_Design_isInstance_c1 at h
  conv => whnf
  refine vLoop h ?_
  rintro I0 μ0 ⟨v0, ⟨⟩⟩ zs0 h hI0 hR0
  change slices_IndexFunc_Sint64_int64_at_impl_Design_isInstance_c1_loop0 s0 f0 v0 = some zs0 at h
  unfold slices_IndexFunc_Sint64_int64_at_impl_Design_isInstance_c1_loop0 at h
  conv => whnf
  refine vIfD h (fun h => ?_) (fun h => ?_)
  · conv => whnf
    refine vAt h (fun x0 he1a he1b he1x h => ?_)
    conv => whnf
    refine vBind h (fun c1_0 hb2 h => ?_)
    conv => whnf
    refine vIfB h (fun h => ?_) (fun h => ?_)
    · conv => whnf
      cases h
      obtain rfl := hR0 _ rfl
      exact hK
    · conv => whnf
      cases h
      exact ⟨⟨rfl, rfl⟩, hI0 _ rfl⟩
  · conv => whnf
    cases h
    obtain rfl := hR0 _ rfl
    exact hK
theorem w_slices_Min_Sint64_int64 : SoundC Tryz.prog 300 c_slices_Min_Sint64_int64 := by
  refine fn_sound tab_ok gam_nil mixed { loops := [(0, [.reg 3 (.dat (.int .i64)), .reg 4 (.dat (.int .i64))])] } (fn := Tryz.f300) Tryz.func300 (by kernel_rfl) (by kernel_rfl) ?_
  rintro ⟨x0, ⟨⟩⟩ K ⟨r, h, hK⟩
  change slices_Min_Sint64_int64 x0 = some r at h
  unfold slices_Min_Sint64_int64 at h
  conv => whnf
  refine vIfD h (fun h => ?_) (fun h => ?_)
  · conv => whnf
    cases h
  · conv => whnf
    refine vAt h (fun x1 he0a he0b he0x h => ?_)
    conv => whnf
    refine vLoop h ?_
    rintro I1 μ1 ⟨m0, i0, ⟨⟩⟩ zs1 h hI1 hR1
    change slices_Min_Sint64_int64_loop0 x0 m0 i0 = some zs1 at h
    unfold slices_Min_Sint64_int64_loop0 at h
    conv => whnf
    refine vIfD h (fun h => ?_) (fun h => ?_)
    · conv => whnf
      refine vAt h (fun x2 he2a he2b he2x h => ?_)
      conv => whnf
      cases h
      exact ⟨⟨rfl, rfl⟩, hI1 _ rfl⟩
    · conv => whnf
      cases h
      obtain rfl := hR1 _ rfl
      exact hK
theorem w_spec_PlacesAfter (q1 : SoundC Tryz.prog 39 c_spec_EditCode) (q0 : SoundC Tryz.prog 40 c_spec_l32Places) : SoundC Tryz.prog 8 c_spec_PlacesAfter := by
  refine fn_sound tab_ok (gam_cons q1 (gam_cons q0 gam_nil)) mixed {} (fn := Tryz.f8) Tryz.func8 (by kernel_rfl) (by kernel_rfl) ?_
  rintro ⟨b0, e0, ⟨⟩⟩ K ⟨r, h, hK⟩
  change spec_PlacesAfter b0 e0 = some r at h
  unfold spec_PlacesAfter at h
  conv => whnf
  refine vBind h (fun EditCode0 hb0 h => ?_)
  conv => whnf
  refine vNots ?_
  refine vIfD h (fun h => ?_) (fun h => ?_)
  · conv => whnf
    refine vBind h (fun l32Places0 hb1 h => ?_)
    conv => whnf
    cases h
    exact hK
  · conv => whnf
    cases h
    exact hK
theorem w_spec_l05Names (q0 : SoundC Tryz.prog 150 c_spec_l03Name) : SoundC Tryz.prog 193 c_spec_l05Names := by
  refine fn_sound tab_ok (gam_cons q0 gam_nil) mixed { loops := [(0, [.reg 3 (.dat (.int .i64))]), (2, [.reg 4 (.dat (.int .i64))])], draws := [(9, [0, 0, 3, 7, 0, 0, 48, 112, 255], .op 0 (.op 1 (.op 2 (.op 3 (.op 4 (.op 5 (.op 6 (.op 7 (.op 8 (.done))))))))))] } (fn := Tryz.f193) Tryz.func193 (by kernel_rfl) (by kernel_rfl) ?_
  rintro ⟨list0, ⟨⟩⟩ K ⟨r, h, hK⟩
  change spec_l05Names list0 = some r at h
  unfold spec_l05Names at h
  conv => whnf
  refine vLoop h ?_
  rintro I0 μ0 ⟨i0, ⟨⟩⟩ zs0 h hI0 hR0
  change spec_l05Names_loop1 list0 i0 = some zs0 at h
  unfold spec_l05Names_loop1 at h
  conv => whnf
  refine vIfD h (fun h => ?_) (fun h => ?_)
  · conv => whnf
    refine vAt h (fun x0 he1a he1b he1x h => ?_)
    conv => whnf
    refine vBind h (fun l03Name0 hb2 h => ?_)
    conv => whnf
    refine vNots ?_
    refine vIfB h (fun h => ?_) (fun h => ?_)
    · conv => whnf
      refine vLoop h ?_
      rintro I3 μ3 ⟨k0, ⟨⟩⟩ zs3 h hI3 hR3
      change spec_l05Names_loop0 list0 i0 x0 k0 = some zs3 at h
      unfold spec_l05Names_loop0 at h
      conv => whnf
      refine vIfD h (fun h => ?_) (fun h => ?_)
      · conv => whnf
        refine ⟨by kernel_rfl, ?_⟩
        conv => whnf
        refine vAt h (fun x1 he4a he4b he4x h => ?_)
        conv => whnf
        refine ⟨he1a, he1b, vAgain he1x ?_⟩
        conv => whnf
        refine vIfD h (fun h => ?_) (fun h => ?_)
        · conv => whnf
          cases h
          obtain rfl := hR3 _ rfl
          obtain rfl := hR0 _ rfl
          exact hK
        · conv => whnf
          cases h
          exact ⟨⟨rfl, rfl⟩, hI3 _ rfl⟩
      · conv => whnf
        cases h
        obtain rfl := hR3 _ rfl
        exact ⟨⟨rfl, rfl⟩, hI0 _ rfl⟩
    · conv => whnf
      cases h
      obtain rfl := hR0 _ rfl
      exact hK
  · conv => whnf
    cases h
    obtain rfl := hR0 _ rfl
    exact hK
theorem w_spec_l05Places : SoundC Tryz.prog 93 c_spec_l05Places := by
  refine fn_sound tab_ok gam_nil mixed { loops := [(0, [.reg 3 (.own (.ol 247 (.flat (tl05Place)))), .reg 4 (.dat (.int .i64))]), (2, [.reg 3 (.own (.ol 247 (.flat (tl05Place)))), .reg 6 (.dat (.int .i64))]), (4, [.reg 3 (.own (.ol 247 (.flat (tl05Place)))), .reg 7 (.dat (.int .i64))])], draws := [(13, [0, 0, 0, 4, 0, 28, 60, 124, 0, 256, 0, 1792, 3840, 7936, 16128, 32766, 65534, 131071, 262143], .op 0 (.op 1 (.op 2 (.op 3 (.op 4 (.op 5 (.op 6 (.op 7 (.op 8 (.op 9 (.op 10 (.op 11 (.op 12 (.op 13 (.op 14 (.op 15 (.alt 16 (.alt 17 (.op 18 (.done)) (.done)) (.done))))))))))))))))))] } (fn := Tryz.f93) Tryz.func93 (by kernel_rfl) (by kernel_rfl) ?_
  rintro ⟨a0, ⟨⟩⟩ K ⟨r, h, hK⟩
  change spec_l05Places a0 = some r at h
  unfold spec_l05Places at h
  conv => whnf
  refine vLoop h ?_
  rintro I0 μ0 ⟨v0, v1, ⟨⟩⟩ zs0 h hI0 hR0
  change spec_l05Places_loop2 a0 v0 v1 = some zs0 at h
  unfold spec_l05Places_loop2 at h
  conv => whnf
  refine vIfD h (fun h => ?_) (fun h => ?_)
  · conv => whnf
    refine vAt h (fun x0 he1a he1b he1x h => ?_)
    conv => whnf
    refine vLoop h ?_
    rintro I2 μ2 ⟨v2, v3, ⟨⟩⟩ zs2 h hI2 hR2
    change spec_l05Places_loop0 v1 x0 v2 v3 = some zs2 at h
    unfold spec_l05Places_loop0 at h
    conv => whnf
    refine vIfD h (fun h => ?_) (fun h => ?_)
    · conv => whnf
      refine vAt h (fun x1 he3a he3b he3x h => ?_)
      conv => whnf
      refine vPre h (fun hp4 h => ?_)
      conv => whnf
      cases h
      exact ⟨⟨rfl, rfl⟩, hI2 _ rfl⟩
    · conv => whnf
      cases h
      obtain rfl := hR2 _ rfl
      exact ⟨⟨rfl, rfl⟩, hI0 _ rfl⟩
  · conv => whnf
    refine vLoop h ?_
    rintro I5 μ5 ⟨v2, v3, ⟨⟩⟩ zs5 h hI5 hR5
    change spec_l05Places_loop1 a0 v2 v3 = some zs5 at h
    unfold spec_l05Places_loop1 at h
    conv => whnf
    refine vIfD h (fun h => ?_) (fun h => ?_)
    · conv => whnf
      refine ⟨by kernel_rfl, ?_⟩
      conv => whnf
      refine vAt h (fun x0 he6a he6b he6x h => ?_)
      conv => whnf
      refine ⟨he6a, he6b, vAgain he6x ?_⟩
      conv => whnf
      refine vPre h (fun hp7 h => ?_)
      conv => whnf
      cases h
      exact ⟨⟨rfl, rfl⟩, hI5 _ rfl⟩
    · conv => whnf
      cases h
      obtain rfl := hR5 _ rfl
      obtain rfl := hR0 _ rfl
      exact hK
theorem w_spec_l08Alike : SoundC Tryz.prog 148 c_spec_l08Alike := by
  refine fn_sound tab_ok gam_nil mixed { loops := [(0, [.reg 5 (.dat (.int .i64))])], draws := [(6, [0, 1, 0, 7, 15, 31, 0, 64, 0, 448, 960, 1984, 4095], .op 0 (.op 1 (.op 2 (.op 3 (.op 4 (.op 5 (.op 6 (.op 7 (.op 8 (.op 9 (.op 10 (.op 11 (.op 12 (.done))))))))))))))] } (fn := Tryz.f148) Tryz.func148 (by kernel_rfl) (by kernel_rfl) ?_
  rintro ⟨a0, b0, ⟨⟩⟩ K ⟨r, h, hK⟩
  change spec_l08Alike a0 b0 = some r at h
  unfold spec_l08Alike at h
  conv => whnf
  refine vNot ?_
  refine vIfD h (fun h => ?_) (fun h => ?_)
  · conv => whnf
    refine vNots ?_
    refine vIfD h (fun h => ?_) (fun h => ?_)
    · conv => whnf
      refine vLoop h ?_
      rintro I0 μ0 ⟨i0, ⟨⟩⟩ zs0 h hI0 hR0
      change spec_l08Alike_loop0 a0 b0 i0 = some zs0 at h
      unfold spec_l08Alike_loop0 at h
      conv => whnf
      refine vIfD h (fun h => ?_) (fun h => ?_)
      · conv => whnf
        refine ⟨by kernel_rfl, ?_⟩
        conv => whnf
        refine vAt h (fun x0 he1a he1b he1x h => ?_)
        conv => whnf
        refine vAt h (fun x1 he2a he2b he2x h => ?_)
        conv => whnf
        refine vNots ?_
        refine vIfB h (fun h => ?_) (fun h => ?_)
        · conv => whnf
          cases h
          exact ⟨⟨rfl, rfl⟩, hI0 _ rfl⟩
        · conv => whnf
          cases h
          obtain rfl := hR0 _ rfl
          exact hK
      · conv => whnf
        cases h
        obtain rfl := hR0 _ rfl
        exact hK
    · conv => whnf
      cases h
      exact hK
  · conv => whnf
    cases h
    exact hK
theorem w_spec_l32Places (q0 : SoundC Tryz.prog 93 c_spec_l05Places) : SoundC Tryz.prog 40 c_spec_l32Places := by
  refine fn_sound tab_ok (gam_cons q0 gam_nil) mixed { loops := [(0, [.reg 5 (.own (.ol 2 (.flat (.int .i64)))), .reg 8 (.dat (.int .i64))])] } (fn := Tryz.f40) Tryz.func40 (by kernel_rfl) (by kernel_rfl) ?_
  rintro ⟨b0, e0, ⟨⟩⟩ K ⟨r, h, hK⟩
  change spec_l32Places b0 e0 = some r at h
  unfold spec_l32Places at h
  conv => whnf
  refine vBind h (fun l05Places0 hb0 h => ?_)
  conv => whnf
  refine vLoop h ?_
  rintro I1 μ1 ⟨out0, p0, ⟨⟩⟩ zs1 h hI1 hR1
  change spec_l32Places_loop0 b0 e0 l05Places0 out0 p0 = some zs1 at h
  unfold spec_l32Places_loop0 at h
  conv => whnf
  refine vIfD h (fun h => ?_) (fun h => ?_)
  · conv => whnf
    refine vIfD h (fun h => ?_) (fun h => ?_)
    · conv => whnf
      refine vIfD h (fun h => ?_) (fun h => ?_)
      · conv => whnf
        refine vPre h (fun hp2 h => ?_)
        conv => whnf
        cases h
        exact ⟨⟨rfl, rfl⟩, hI1 _ rfl⟩
      · conv => whnf
        refine vIfD h (fun h => ?_) (fun h => ?_)
        · conv => whnf
          refine vIfD h (fun h => ?_) (fun h => ?_)
          · conv => whnf
            refine vPre h (fun hp3 h => ?_)
            conv => whnf
            cases h
            exact ⟨⟨rfl, rfl⟩, hI1 _ rfl⟩
          · conv => whnf
            refine vIfD h (fun h => ?_) (fun h => ?_)
            · conv => whnf
              refine vIfD h (fun h => ?_) (fun h => ?_)
              · conv => whnf
                refine vPre h (fun hp4 h => ?_)
                conv => whnf
                cases h
                exact ⟨⟨rfl, rfl⟩, hI1 _ rfl⟩
              · conv => whnf
                refine vPre h (fun hp5 h => ?_)
                conv => whnf
                cases h
                exact ⟨⟨rfl, rfl⟩, hI1 _ rfl⟩
            · conv => whnf
              refine vPre h (fun hp6 h => ?_)
              conv => whnf
              cases h
              exact ⟨⟨rfl, rfl⟩, hI1 _ rfl⟩
        · conv => whnf
          refine vIfD h (fun h => ?_) (fun h => ?_)
          · conv => whnf
            refine vIfD h (fun h => ?_) (fun h => ?_)
            · conv => whnf
              refine vPre h (fun hp7 h => ?_)
              conv => whnf
              cases h
              exact ⟨⟨rfl, rfl⟩, hI1 _ rfl⟩
            · conv => whnf
              refine vPre h (fun hp8 h => ?_)
              conv => whnf
              cases h
              exact ⟨⟨rfl, rfl⟩, hI1 _ rfl⟩
          · conv => whnf
            refine vPre h (fun hp9 h => ?_)
            conv => whnf
            cases h
            exact ⟨⟨rfl, rfl⟩, hI1 _ rfl⟩
    · conv => whnf
      refine vIfD h (fun h => ?_) (fun h => ?_)
      · conv => whnf
        refine vIfD h (fun h => ?_) (fun h => ?_)
        · conv => whnf
          refine vPre h (fun hp10 h => ?_)
          conv => whnf
          cases h
          exact ⟨⟨rfl, rfl⟩, hI1 _ rfl⟩
        · conv => whnf
          refine vIfD h (fun h => ?_) (fun h => ?_)
          · conv => whnf
            refine vIfD h (fun h => ?_) (fun h => ?_)
            · conv => whnf
              refine vPre h (fun hp11 h => ?_)
              conv => whnf
              cases h
              exact ⟨⟨rfl, rfl⟩, hI1 _ rfl⟩
            · conv => whnf
              refine vPre h (fun hp12 h => ?_)
              conv => whnf
              cases h
              exact ⟨⟨rfl, rfl⟩, hI1 _ rfl⟩
          · conv => whnf
            refine vPre h (fun hp13 h => ?_)
            conv => whnf
            cases h
            exact ⟨⟨rfl, rfl⟩, hI1 _ rfl⟩
      · conv => whnf
        refine vIfD h (fun h => ?_) (fun h => ?_)
        · conv => whnf
          refine vIfD h (fun h => ?_) (fun h => ?_)
          · conv => whnf
            refine vPre h (fun hp14 h => ?_)
            conv => whnf
            cases h
            exact ⟨⟨rfl, rfl⟩, hI1 _ rfl⟩
          · conv => whnf
            refine vPre h (fun hp15 h => ?_)
            conv => whnf
            cases h
            exact ⟨⟨rfl, rfl⟩, hI1 _ rfl⟩
        · conv => whnf
          refine vPre h (fun hp16 h => ?_)
          conv => whnf
          cases h
          exact ⟨⟨rfl, rfl⟩, hI1 _ rfl⟩
  · conv => whnf
    cases h
    obtain rfl := hR1 _ rfl
    exact hK
end Go.Proofs.YtaccffcigblceaaGreatDoor
