/-
  The functions keep their contracts, if what they call does. Printed by program.
-/
import Derived.Test.YtaccffcigblceaaGreatDoorM
import Derived.KernelRfl
namespace Go.Proofs.YtaccffcigblceaaGreatDoor
open Go Go.Sx
set_option maxRecDepth 100000
set_option linter.unusedVariables false
set_option linter.unusedSimpArgs false
theorem w_impl_Cell_areArcs_c1 : SoundC Tryz.prog 277 c_impl_Cell_areArcs_c1 := by
  refine fn_sound tab_ok gam_nil mixed {} (fn := Tryz.f277) Tryz.func277 (by kernel_rfl) (by kernel_rfl) ?_
  rintro ⟨o0, a0, ⟨⟩⟩ K ⟨r, h, hK⟩
  change impl_Cell_areArcs_c1 o0 a0 = some r at h
  unfold impl_Cell_areArcs_c1 at h
  conv => whnf
  refine vIfD h (fun h => ?_) (fun h => ?_)
  · conv => whnf
    refine vIfD h (fun h => ?_) (fun h => ?_)
    · conv => whnf
      cases h
      exact hK
    · conv => whnf
      cases h
      exact hK
  · conv => whnf
    cases h
    exact hK
theorem w_impl_Design_isInstance (q1 : SoundC Tryz.prog 209 c_impl_length_impl_Cell) (q2 : SoundC Tryz.prog 171 c_impl_within) (q0 : SoundC Tryz.prog 234 c_slices_ContainsFunc_Sint64_int64_at_impl_Design_isInstance_c1) : SoundC Tryz.prog 200 c_impl_Design_isInstance := by
  refine fn_sound tab_ok (gam_cons q1 (gam_cons q2 (gam_cons q0 gam_nil))) mixed { draws := [(1, [0, 1, 0, 4, 12, 28, 63, 127, 255, 511, 1023, 255, 2303, 255, 8447, 30975, 63743, 129279, 260351, 524287, 1048575, 2097151, 4194303, 8388607, 4194303, 33554431, 67108863, 134217727, 268435455], .op 0 (.op 1 (.op 2 (.op 3 (.alt 4 (.op 5 (.alt 6 (.op 7 (.op 8 (.op 9 (.op 10 (.op 11 (.op 12 (.op 13 (.op 14 (.op 15 (.op 16 (.op 17 (.op 18 (.op 19 (.op 20 (.op 21 (.op 22 (.op 23 (.op 24 (.alt 25 (.op 26 (.op 27 (.op 28 (.done)))) (.done)))))))))))))))))))) (.done))) (.done))))))] } (fn := Tryz.f200) Tryz.func200 (by kernel_rfl) (by kernel_rfl) ?_
  rintro ⟨d0, l0, x0, ⟨⟩⟩ K ⟨r, h, hK⟩
  change impl_Design_isInstance d0 l0 x0 = some r at h
  unfold impl_Design_isInstance at h
  conv => whnf
  refine ⟨by kernel_rfl, ?_⟩
  conv => whnf
  refine vBind h (fun Cell0 hb0 h => ?_)
  conv => whnf
  refine vBind h (fun within0 hb1 h => ?_)
  conv => whnf
  refine vIfB h (fun h => ?_) (fun h => ?_)
  · conv => whnf
    refine vAt h (fun x1 he2a he2b he2x h => ?_)
    conv => whnf
    refine vIfD h (fun h => ?_) (fun h => ?_)
    · conv => whnf
      refine vBind h (fun c1_0 hb3 h => ?_)
      conv => whnf
      cases h
      exact hK
    · conv => whnf
      cases h
      exact hK
  · conv => whnf
    cases h
    exact hK
theorem w_impl_Edit_code (q1 : SoundC Tryz.prog 159 c_impl_Edit_isInRange) (q0 : SoundC Tryz.prog 160 c_impl_Edit_isPossible) : SoundC Tryz.prog 100 c_impl_Edit_code := by
  refine fn_sound tab_ok (gam_cons q1 (gam_cons q0 gam_nil)) mixed {} (fn := Tryz.f100) Tryz.func100 (by kernel_rfl) (by kernel_rfl) ?_
  rintro ⟨e0, b0, ⟨⟩⟩ K ⟨r, h, hK⟩
  change impl_Edit_code e0 b0 = some r at h
  unfold impl_Edit_code at h
  conv => whnf
  refine vBind h (fun isInRange0 hb0 h => ?_)
  conv => whnf
  refine vNots ?_
  refine vIfB h (fun h => ?_) (fun h => ?_)
  · conv => whnf
    refine vBind h (fun isPossible0 hb1 h => ?_)
    conv => whnf
    refine vNots ?_
    refine vIfB h (fun h => ?_) (fun h => ?_)
    · conv => whnf
      refine vIfD h (fun h => ?_) (fun h => ?_)
      · conv => whnf
        refine vIfDs h (fun h => ?_) (fun h => ?_)
        · conv => whnf
          cases h
          exact hK
        · conv => whnf
          refine vIfD h (fun h => ?_) (fun h => ?_)
          · conv => whnf
            cases h
            exact hK
          · conv => whnf
            cases h
            exact hK
      · conv => whnf
        cases h
        exact hK
    · conv => whnf
      cases h
      exact hK
  · conv => whnf
    cases h
    exact hK
theorem w_impl_Edit_isPossible (q2 : SoundC Tryz.prog 102 c_impl_Design_places) (q5 : SoundC Tryz.prog 210 c_impl_fitsSwap) (q6 : SoundC Tryz.prog 211 c_impl_isBuffer) (q7 : SoundC Tryz.prog 212 c_impl_isName) (q3 : SoundC Tryz.prog 213 c_impl_InstanceNamed) (q1 : SoundC Tryz.prog 214 c_impl_Design_netNamed) (q0 : SoundC Tryz.prog 215 c_impl_Block_canUnbuffer) (q4 : SoundC Tryz.prog 117 c_impl_length_int64) (q8 : SoundC Tryz.prog 158 c_impl_IsWire) : SoundC Tryz.prog 160 c_impl_Edit_isPossible := by
  refine fn_sound tab_ok (gam_cons q2 (gam_cons q5 (gam_cons q6 (gam_cons q7 (gam_cons q3 (gam_cons q1 (gam_cons q0 (gam_cons q4 (gam_cons q8 gam_nil))))))))) mixed { draws := [(6, [0, 1, 3, 7, 15, 31, 63, 127, 255, 511, 1023, 255, 2303, 255, 8447, 30975, 63743, 129279, 262143, 524287, 255, 1048831, 3145983, 255, 8388863, 32506111, 66060543, 134217727, 268435455, 536870911], .op 0 (.op 1 (.op 2 (.op 3 (.op 4 (.op 5 (.op 6 (.op 7 (.op 8 (.op 9 (.op 10 (.op 11 (.op 12 (.op 13 (.op 14 (.op 15 (.op 16 (.op 17 (.op 18 (.op 19 (.op 20 (.op 21 (.op 22 (.op 23 (.op 24 (.op 25 (.op 26 (.alt 27 (.op 28 (.op 29 (.done))) (.done))))))))))))))))))))))))))))), (12, [0, 0, 2, 7, 15, 31, 63, 127, 255, 255, 767, 2047, 4095, 8191, 255, 16639, 65535, 131071, 262143], .op 0 (.op 1 (.op 2 (.op 3 (.op 4 (.op 5 (.op 6 (.op 7 (.op 8 (.op 9 (.op 10 (.op 11 (.op 12 (.op 13 (.op 14 (.op 15 (.op 16 (.op 17 (.op 18 (.done)))))))))))))))))))), (13, [0, 1, 0, 4, 0, 16, 60, 124, 252, 508, 1023, 2047], .op 0 (.op 1 (.op 2 (.op 3 (.op 4 (.op 5 (.op 6 (.op 7 (.op 8 (.alt 9 (.alt 10 (.op 11 (.done)) (.done)) (.done)))))))))))] } (fn := Tryz.f160) Tryz.func160 (by kernel_rfl) (by kernel_rfl) ?_
  rintro ⟨a0, a1, ⟨⟩⟩ K ⟨r, h, hK⟩
  change impl_Edit_isPossible a0 a1 = some r at h
  unfold impl_Edit_isPossible at h
  conv => whnf
  refine vBind h (fun places0 hb0 h => ?_)
  conv => whnf
  refine vIfD h (fun h => ?_) (fun h => ?_)
  · conv => whnf
    refine vAt h (fun x0 he1a he1b he1x h => ?_)
    conv => whnf
    refine ⟨by kernel_rfl, ?_⟩
    conv => whnf
    refine ⟨he1a, he1b, vAgain he1x ?_⟩
    conv => whnf
    refine ⟨by kernel_rfl, ?_⟩
    conv => whnf
    refine vIfD h (fun h => ?_) (fun h => ?_)
    · conv => whnf
      refine vIfB h (fun h => ?_) (fun h => ?_)
      · conv => whnf
        refine vAt h (fun x1 he2a he2b he2x h => ?_)
        conv => whnf
        refine vAt h (fun x2 he3a he3b he3x h => ?_)
        conv => whnf
        refine vAt h (fun x3 he4a he4b he4x h => ?_)
        conv => whnf
        refine vBind h (fun fitsSwap0 hb5 h => ?_)
        conv => whnf
        cases h
        exact hK
      · conv => whnf
        cases h
        exact hK
    · conv => whnf
      cases h
      exact hK
  · conv => whnf
    refine vIfD h (fun h => ?_) (fun h => ?_)
    · conv => whnf
      refine vAt h (fun x0 he6a he6b he6x h => ?_)
      conv => whnf
      refine ⟨by kernel_rfl, ?_⟩
      conv => whnf
      refine ⟨he6a, he6b, vAgain he6x ?_⟩
      conv => whnf
      refine vNots ?_
      refine vIfB h (fun h => ?_) (fun h => ?_)
      · conv => whnf
        cases h
        exact hK
      · conv => whnf
        refine vAt h (fun x1 he7a he7b he7x h => ?_)
        conv => whnf
        refine vBind h (fun isBuffer0 hb8 h => ?_)
        conv => whnf
        refine vIfB h (fun h => ?_) (fun h => ?_)
        · conv => whnf
          refine vBind h (fun isName0 hb9 h => ?_)
          conv => whnf
          refine vIfB h (fun h => ?_) (fun h => ?_)
          · conv => whnf
            refine vBind h (fun InstanceNamed0 hb10 h => ?_)
            conv => whnf
            refine vIfD h (fun h => ?_) (fun h => ?_)
            · conv => whnf
              refine vBind h (fun netNamed0 hb11 h => ?_)
              conv => whnf
              cases h
              exact hK
            · conv => whnf
              cases h
              exact hK
          · conv => whnf
            cases h
            exact hK
        · conv => whnf
          cases h
          exact hK
    · conv => whnf
      refine vIfD h (fun h => ?_) (fun h => ?_)
      · conv => whnf
        refine vBind h (fun canUnbuffer0 hb12 h => ?_)
        conv => whnf
        cases h
        exact hK
      · conv => whnf
        refine vIfD h (fun h => ?_) (fun h => ?_)
        · conv => whnf
          refine ⟨by kernel_rfl, ?_⟩
          conv => whnf
          refine vAt h (fun x0 he13a he13b he13x h => ?_)
          conv => whnf
          refine ⟨by kernel_rfl, ?_⟩
          conv => whnf
          refine ⟨he13a, he13b, vAgain he13x ?_⟩
          conv => whnf
          refine vNots ?_
          refine vIfB h (fun h => ?_) (fun h => ?_)
          · conv => whnf
            cases h
            exact hK
          · conv => whnf
            refine ⟨he13a, he13b, vAgain he13x ?_⟩
            conv => whnf
            refine ⟨by kernel_rfl, ?_⟩
            conv => whnf
            refine ⟨he13a, he13b, vAgain he13x ?_⟩
            conv => whnf
            cases h
            exact hK
        · conv => whnf
          refine ⟨by kernel_rfl, ?_⟩
          conv => whnf
          refine vAt h (fun x0 he14a he14b he14x h => ?_)
          conv => whnf
          refine vBind h (fun int64_0 hb15 h => ?_)
          conv => whnf
          refine vBind h (fun IsWire0 hb16 h => ?_)
          conv => whnf
          cases h
          exact hK
theorem w_impl_InstanceNamed (q0 : SoundC Tryz.prog 244 c_slices_IndexFunc_Simpl_Instance_impl_Instance_at_impl_InstanceNamed_c1) : SoundC Tryz.prog 213 c_impl_InstanceNamed := by
  refine fn_sound tab_ok (gam_cons q0 gam_nil) mixed {} (fn := Tryz.f213) Tryz.func213 (by kernel_rfl) (by kernel_rfl) ?_
  rintro ⟨d0, name0, ⟨⟩⟩ K ⟨r, h, hK⟩
  change impl_InstanceNamed d0 name0 = some r at h
  unfold impl_InstanceNamed at h
  conv => whnf
  refine vBind h (fun c1_0 hb0 h => ?_)
  conv => whnf
  cases h
  exact hK
theorem w_impl_IsBlock (q1 : SoundC Tryz.prog 157 c_impl_IsDesign) (q0 : SoundC Tryz.prog 102 c_impl_Design_places) (q2 : SoundC Tryz.prog 158 c_impl_IsWire) : SoundC Tryz.prog 99 c_impl_IsBlock := by
  refine fn_sound tab_ok (gam_cons q1 (gam_cons q0 (gam_cons q2 gam_nil))) mixed { loops := [(0, [.reg 32 (.dat (.int .i64)), .ent 1 (nat_lit 2) (.flat ti33.ety)]), (2, [.reg 50 (.dat (.int .i64))])], draws := [(13, [0, 0, 0, 6, 14, 31, 63], .op 0 (.op 1 (.op 2 (.op 3 (.op 4 (.alt 5 (.op 6 (.done)) (.done)))))))] } (fn := Tryz.f99) Tryz.func99 (by kernel_rfl) (by kernel_rfl) ?_
  rintro ⟨b0, ⟨⟩⟩ K ⟨r, h, hK⟩
  change impl_IsBlock b0 = some r at h
  unfold impl_IsBlock at h
  conv => whnf
  refine vBind h (fun IsDesign0 hb0 h => ?_)
  conv => whnf
  refine vNot ?_
  refine vIfB h (fun h => ?_) (fun h => ?_)
  · conv => whnf
    refine vNots ?_
    refine vIfD h (fun h => ?_) (fun h => ?_)
    · conv => whnf
      refine vPre h (fun hp1 h => ?_)
      conv => whnf
      refine vPre h (fun hp2 h => ?_)
      conv => whnf
      refine vPre h (fun hp3 h => ?_)
      conv => whnf
      refine vPre h (fun hp4 h => ?_)
      conv => whnf
      refine vBind h (fun places0 hb5 h => ?_)
      conv => whnf
      refine vLoop h ?_
      rintro I6 μ6 ⟨v0, l0, ⟨⟩⟩ zs6 h hI6 hR6
      change impl_IsBlock_loop1 b0 places0 v0 l0 = some zs6 at h
      unfold impl_IsBlock_loop1 at h
      conv => whnf
      refine vIfD h (fun h => ?_) (fun h => ?_)
      · conv => whnf
        refine vAt h (fun x0 he7a he7b he7x h => ?_)
        conv => whnf
        refine ⟨by kernel_rfl, ?_⟩
        conv => whnf
        refine ⟨he7a, he7b, vAgain he7x ?_⟩
        conv => whnf
        refine vNots ?_
        refine vIfB h (fun h => ?_) (fun h => ?_)
        · conv => whnf
          cases h
          exact ⟨⟨rfl, rfl⟩, hI6 _ rfl⟩
        · conv => whnf
          refine vAt h (fun x1 he8a he8b he8x h => ?_)
          conv => whnf
          refine ⟨by kernel_rfl, ?_⟩
          conv => whnf
          refine ⟨he8a, he8b, vAgain he8x ?_⟩
          conv => whnf
          refine ⟨he8a, he8b, vAgain he8x ?_⟩
          conv => whnf
          refine ⟨by kernel_rfl, ?_⟩
          conv => whnf
          refine ⟨by decide, ?_⟩
          conv => whnf
          refine ⟨he8a, he8b, vAgain he8x ?_⟩
          conv => whnf
          cases h
          exact ⟨⟨rfl, rfl⟩, hI6 _ rfl⟩
      · conv => whnf
        refine vLoop h ?_
        rintro I9 μ9 ⟨v1, ⟨⟩⟩ zs9 h hI9 hR9
        change impl_IsBlock_loop0 b0 l0 v1 = some zs9 at h
        unfold impl_IsBlock_loop0 at h
        conv => whnf
        refine vIfD h (fun h => ?_) (fun h => ?_)
        · conv => whnf
          refine vAt h (fun x0 he10a he10b he10x h => ?_)
          conv => whnf
          refine ⟨by kernel_rfl, ?_⟩
          conv => whnf
          refine vAt h (fun x1 he11a he11b he11x h => ?_)
          conv => whnf
          refine ⟨by kernel_rfl, ?_⟩
          conv => whnf
          refine ⟨he11a, he11b, vAgain he11x ?_⟩
          conv => whnf
          refine vBind h (fun IsWire0 hb12 h => ?_)
          conv => whnf
          refine vNots ?_
          refine vIfB h (fun h => ?_) (fun h => ?_)
          · conv => whnf
            cases h
            exact ⟨⟨rfl, rfl⟩, hI9 _ rfl⟩
          · conv => whnf
            cases h
            obtain rfl := hR9 _ rfl
            obtain rfl := hR6 _ rfl
            exact hK
        · conv => whnf
          cases h
          obtain rfl := hR9 _ rfl
          obtain rfl := hR6 _ rfl
          exact hK
    · conv => whnf
      cases h
      exact hK
  · conv => whnf
    cases h
    exact hK
theorem w_impl_areWithin_c1 (q0 : SoundC Tryz.prog 171 c_impl_within) : SoundC Tryz.prog 238 c_impl_areWithin_c1 := by
  refine fn_sound tab_ok (gam_cons q0 gam_nil) mixed {} (fn := Tryz.f238) Tryz.func238 (by kernel_rfl) (by kernel_rfl) ?_
  rintro ⟨n0, a0, a1, ⟨⟩⟩ K ⟨r, h, hK⟩
  change impl_areWithin_c1 n0 a0 a1 = some r at h
  unfold impl_areWithin_c1 at h
  conv => whnf
  refine vBind h (fun within0 hb0 h => ?_)
  conv => whnf
  cases h
  exact hK
theorem w_impl_fitsSwap_c1 : SoundC Tryz.prog 241 c_impl_fitsSwap_c1 := by
  refine fn_sound tab_ok gam_nil mixed {} (fn := Tryz.f241) Tryz.func241 (by kernel_rfl) (by kernel_rfl) ?_
  rintro ⟨p0, q0, ⟨⟩⟩ K ⟨r, h, hK⟩
  change impl_fitsSwap_c1 p0 q0 = some r at h
  unfold impl_fitsSwap_c1 at h
  conv => whnf
  cases h
  exact hK
theorem w_impl_length_impl_Instance : SoundC Tryz.prog 101 c_impl_length_impl_Instance := by
  refine fn_sound tab_ok gam_nil mixed {} (fn := Tryz.f101) Tryz.func101 (by kernel_rfl) (by kernel_rfl) ?_
  rintro ⟨list0, ⟨⟩⟩ K ⟨r, h, hK⟩
  change impl_length_impl_Instance list0 = some r at h
  unfold impl_length_impl_Instance at h
  conv => whnf
  cases h
  exact hK
theorem w_laws_eqArcS (q0 : SoundC Tryz.prog 248 c_laws_eqArc) : SoundC Tryz.prog 217 c_laws_eqArcS := by
  refine fn_sound tab_ok (gam_cons q0 gam_nil) mixed { loops := [(0, [.reg 5 (.dat (.int .i64))])], draws := [(6, [0, 0, 3, 7, 0, 0, 48, 112, 255, 511], .op 0 (.op 1 (.op 2 (.op 3 (.op 4 (.op 5 (.op 6 (.op 7 (.alt 8 (.op 9 (.done)) (.done))))))))))] } (fn := Tryz.f217) Tryz.func217 (by kernel_rfl) (by kernel_rfl) ?_
  rintro ⟨a0, b0, ⟨⟩⟩ K ⟨r, h, hK⟩
  change laws_eqArcS a0 b0 = some r at h
  unfold laws_eqArcS at h
  conv => whnf
  refine vNots ?_
  refine vIfD h (fun h => ?_) (fun h => ?_)
  · conv => whnf
    refine vLoop h ?_
    rintro I0 μ0 ⟨i0, ⟨⟩⟩ zs0 h hI0 hR0
    change laws_eqArcS_loop0 a0 b0 i0 = some zs0 at h
    unfold laws_eqArcS_loop0 at h
    conv => whnf
    refine vIfD h (fun h => ?_) (fun h => ?_)
    · conv => whnf
      refine ⟨by kernel_rfl, ?_⟩
      conv => whnf
      refine vAt h (fun x0 he1a he1b he1x h => ?_)
      conv => whnf
      refine vAt h (fun x1 he2a he2b he2x h => ?_)
      conv => whnf
      refine vBind h (fun eqArc0 hb3 h => ?_)
      conv => whnf
      refine vNots ?_
      refine vIfB h (fun h => ?_) (fun h => ?_)
      · conv => whnf
        cases h
        exact ⟨⟨rfl, rfl⟩, hI0 _ rfl⟩
      · conv => whnf
        cases h
        obtain rfl := hR0 _ rfl
        exact hK
    · conv => whnf
      cases h
      obtain rfl := hR0 _ rfl
      exact hK
  · conv => whnf
    cases h
    exact hK
theorem w_laws_eqBlock (q0 : SoundC Tryz.prog 47 c_laws_eqLibrary) (q1 : SoundC Tryz.prog 48 c_laws_eqDesign) (q2 : SoundC Tryz.prog 49 c_laws_eqWireS) : SoundC Tryz.prog 13 c_laws_eqBlock := by
  refine fn_sound tab_ok (gam_cons q0 (gam_cons q1 (gam_cons q2 gam_nil))) mixed {} (fn := Tryz.f13) Tryz.func13 (by kernel_rfl) (by kernel_rfl) ?_
  rintro ⟨a0, b0, ⟨⟩⟩ K ⟨r, h, hK⟩
  change laws_eqBlock a0 b0 = some r at h
  unfold laws_eqBlock at h
  conv => whnf
  refine vBind h (fun eqLibrary0 hb0 h => ?_)
  conv => whnf
  refine vNots ?_
  refine vIfB h (fun h => ?_) (fun h => ?_)
  · conv => whnf
    refine vBind h (fun eqDesign0 hb1 h => ?_)
    conv => whnf
    refine vNots ?_
    refine vIfB h (fun h => ?_) (fun h => ?_)
    · conv => whnf
      refine vBind h (fun eqWireS0 hb2 h => ?_)
      conv => whnf
      refine vNots ?_
      refine vIfB h (fun h => ?_) (fun h => ?_)
      · conv => whnf
        cases h
        exact hK
      · conv => whnf
        cases h
        exact hK
    · conv => whnf
      cases h
      exact hK
  · conv => whnf
    cases h
    exact hK
theorem w_laws_eqInstanceS (q0 : SoundC Tryz.prog 162 c_laws_eqInstance) : SoundC Tryz.prog 104 c_laws_eqInstanceS := by
  refine fn_sound tab_ok (gam_cons q0 gam_nil) mixed { loops := [(0, [.reg 5 (.dat (.int .i64))])], draws := [(6, [0, 0, 3, 7, 0, 0, 48, 112, 255, 511], .op 0 (.op 1 (.op 2 (.op 3 (.op 4 (.op 5 (.op 6 (.op 7 (.alt 8 (.op 9 (.done)) (.done))))))))))] } (fn := Tryz.f104) Tryz.func104 (by kernel_rfl) (by kernel_rfl) ?_
  rintro ⟨a0, b0, ⟨⟩⟩ K ⟨r, h, hK⟩
  change laws_eqInstanceS a0 b0 = some r at h
  unfold laws_eqInstanceS at h
  conv => whnf
  refine vNots ?_
  refine vIfD h (fun h => ?_) (fun h => ?_)
  · conv => whnf
    refine vLoop h ?_
    rintro I0 μ0 ⟨i0, ⟨⟩⟩ zs0 h hI0 hR0
    change laws_eqInstanceS_loop0 a0 b0 i0 = some zs0 at h
    unfold laws_eqInstanceS_loop0 at h
    conv => whnf
    refine vIfD h (fun h => ?_) (fun h => ?_)
    · conv => whnf
      refine ⟨by kernel_rfl, ?_⟩
      conv => whnf
      refine vAt h (fun x0 he1a he1b he1x h => ?_)
      conv => whnf
      refine vAt h (fun x1 he2a he2b he2x h => ?_)
      conv => whnf
      refine vBind h (fun eqInstance0 hb3 h => ?_)
      conv => whnf
      refine vNots ?_
      refine vIfB h (fun h => ?_) (fun h => ?_)
      · conv => whnf
        cases h
        exact ⟨⟨rfl, rfl⟩, hI0 _ rfl⟩
      · conv => whnf
        cases h
        obtain rfl := hR0 _ rfl
        exact hK
    · conv => whnf
      cases h
      obtain rfl := hR0 _ rfl
      exact hK
  · conv => whnf
    cases h
    exact hK
theorem w_laws_markArcS (q0 : SoundC Tryz.prog 218 c_laws_markTableS) : SoundC Tryz.prog 165 c_laws_markArcS := by
  refine fn_sound tabD_ok (gam_cons q0 gam_nil) mixed { loops := [(0, [.reg 1 (.dat (.int .i64)), .reg 5 (.dat (.int .i64)), .ent 0 (nat_lit 266) (Dp.pair (Dp.flat (Ty.int IntKind.i64)) (Dp.pair (Dp.flat (Ty.int IntKind.i64)) (Dp.pair (Dp.flat (Ty.int IntKind.i64)) (Dp.pair (Dp.flat (Ty.int IntKind.i64)) (Dp.pair (Dp.ol (329 : Go.TypeId) dTable) (Dp.pair (Dp.ol (329 : Go.TypeId) dTable) (Dp.flat Ty.unit)))))))])] } (fn := Tryz.f165) Tryz.func165 (by kernel_rfl) (by kernel_rfl) ?_
  rintro ⟨a0, k0, ⟨⟩⟩ K ⟨r, h, hK⟩
  change laws_markArcS a0 k0 = some r at h
  unfold laws_markArcS at h
  conv => whnf
  intro fp0
  conv => whnf
  refine vLoop h ?_
  rintro I1 μ1 ⟨k1, i0, l0, ⟨⟩⟩ zs1 h hI1 hR1
  change laws_markArcS_loop0 k1 i0 l0 = some zs1 at h
  unfold laws_markArcS_loop0 at h
  conv => whnf
  intro fp2
  conv => whnf
  refine vIfD h (fun h => ?_) (fun h => ?_)
  · conv => whnf
    refine vAt h (fun x0 he3a he3b he3x h => ?_)
    conv => whnf
    refine ⟨he3a, he3b, vAgain he3x ?_⟩
    conv => whnf
    intro fp4
    conv => whnf
    intro fp5
    conv => whnf
    intro fp6
    conv => whnf
    refine ⟨he3a, he3b, vAgain he3x ?_⟩
    conv => whnf
    refine .inl ⟨rfl, ?_⟩
    conv => whnf
    refine ⟨he3a, he3b, vAgain he3x ?_⟩
    conv => whnf
    refine .inl ⟨rfl, ?_⟩
    conv => whnf
    refine ⟨he3a, he3b, vAgain he3x ?_⟩
    conv => whnf
    refine .inl ⟨rfl, ?_⟩
    conv => whnf
    refine ⟨he3a, he3b, vAgain he3x ?_⟩
    conv => whnf
    refine .inl ⟨rfl, ?_⟩
    conv => whnf
    refine vBind h (fun markTableS0 hb7 h => ?_)
    conv => whnf
    intro fp8
    conv => whnf
    refine ⟨he3a, he3b, vAgain he3x ?_⟩
    conv => whnf
    refine .inl ⟨rfl, ?_⟩
    conv => whnf
    refine vBind h (fun markTableS1 hb9 h => ?_)
    conv => whnf
    intro fp10
    conv => whnf
    cases h
    exact ⟨⟨rfl, rfl⟩, hI1 _ rfl⟩
  · conv => whnf
    cases h
    obtain rfl := hR1 _ rfl
    exact hK
theorem w_laws_markDesign (q0 : SoundC Tryz.prog 108 c_laws_markInstanceS) (q1 : SoundC Tryz.prog 109 c_laws_markStringS) (q2 : SoundC Tryz.prog 110 c_laws_markPortS) : SoundC Tryz.prog 52 c_laws_markDesign := by
  refine fn_sound tabD_ok (gam_cons q0 (gam_cons q1 (gam_cons q2 gam_nil))) mixed {} (fn := Tryz.f52) Tryz.func52 (by kernel_rfl) (by kernel_rfl) ?_
  rintro ⟨a0, k0, ⟨⟩⟩ K ⟨r, h, hK⟩
  change laws_markDesign a0 k0 = some r at h
  unfold laws_markDesign at h
  conv => whnf
  intro fp0
  conv => whnf
  refine vBind h (fun markInstanceS0 hb1 h => ?_)
  conv => whnf
  intro fp2
  conv => whnf
  refine vBind h (fun markStringS0 hb3 h => ?_)
  conv => whnf
  refine vBind h (fun markPortS0 hb4 h => ?_)
  conv => whnf
  cases h
  exact hK
theorem w_laws_markInt64S : SoundC Tryz.prog 17 c_laws_markInt64S := by
  refine fn_sound tabD_ok gam_nil mixed { loops := [(0, [.reg 1 (.dat (.int .i64)), .reg 5 (.dat (.int .i64)), .ent 0 (nat_lit 2) (.flat (Ty.int IntKind.i64))])] } (fn := Tryz.f17) Tryz.func17 (by kernel_rfl) (by kernel_rfl) ?_
  rintro ⟨a0, k0, ⟨⟩⟩ K ⟨r, h, hK⟩
  change laws_markInt64S a0 k0 = some r at h
  unfold laws_markInt64S at h
  conv => whnf
  refine vLoop h ?_
  rintro I0 μ0 ⟨k1, i0, l0, ⟨⟩⟩ zs0 h hI0 hR0
  change laws_markInt64S_loop0 k1 i0 l0 = some zs0 at h
  unfold laws_markInt64S_loop0 at h
  conv => whnf
  refine vIfD h (fun h => ?_) (fun h => ?_)
  · conv => whnf
    refine vAt h (fun x0 he1a he1b he1x h => ?_)
    conv => whnf
    refine ⟨by kernel_rfl, ?_⟩
    conv => whnf
    refine ⟨by decide, ?_⟩
    conv => whnf
    refine ⟨he1a, he1b, vAgain he1x ?_⟩
    conv => whnf
    cases h
    exact ⟨⟨rfl, rfl⟩, hI0 _ rfl⟩
  · conv => whnf
    cases h
    obtain rfl := hR0 _ rfl
    exact hK
theorem w_laws_szBlock (q0 : SoundC Tryz.prog 35 c_laws_szLibrary) (q1 : SoundC Tryz.prog 36 c_laws_szDesign) (q2 : SoundC Tryz.prog 37 c_laws_szWireS) : SoundC Tryz.prog 6 c_laws_szBlock := by
  refine fn_sound tab_ok (gam_cons q0 (gam_cons q1 (gam_cons q2 gam_nil))) mixed {} (fn := Tryz.f6) Tryz.func6 (by kernel_rfl) (by kernel_rfl) ?_
  rintro ⟨a0, left0, ⟨⟩⟩ K ⟨r, h, hK⟩
  change laws_szBlock a0 left0 = some r at h
  unfold laws_szBlock at h
  conv => whnf
  refine vBind h (fun szLibrary0 hb0 h => ?_)
  conv => whnf
  refine vIfD h (fun h => ?_) (fun h => ?_)
  · conv => whnf
    cases h
    exact hK
  · conv => whnf
    refine vBind h (fun szDesign0 hb1 h => ?_)
    conv => whnf
    refine vIfD h (fun h => ?_) (fun h => ?_)
    · conv => whnf
      cases h
      exact hK
    · conv => whnf
      refine vBind h (fun szWireS0 hb2 h => ?_)
      conv => whnf
      refine vIfD h (fun h => ?_) (fun h => ?_)
      · conv => whnf
        cases h
        exact hK
      · conv => whnf
        cases h
        exact hK
theorem w_laws_szInstanceS (q0 : SoundC Tryz.prog 143 c_laws_szInstance) : SoundC Tryz.prog 85 c_laws_szInstanceS := by
  refine fn_sound tab_ok (gam_cons q0 gam_nil) mixed { loops := [(0, [.reg 1 (.dat (.int .i64)), .reg 5 (.dat (.int .i64))])] } (fn := Tryz.f85) Tryz.func85 (by kernel_rfl) (by kernel_rfl) ?_
  rintro ⟨a0, left0, ⟨⟩⟩ K ⟨r, h, hK⟩
  change laws_szInstanceS a0 left0 = some r at h
  unfold laws_szInstanceS at h
  conv => whnf
  refine vIfD h (fun h => ?_) (fun h => ?_)
  · conv => whnf
    cases h
    exact hK
  · conv => whnf
    refine vLoop h ?_
    rintro I0 μ0 ⟨left1, i0, ⟨⟩⟩ zs0 h hI0 hR0
    change laws_szInstanceS_loop0 a0 left1 i0 = some zs0 at h
    unfold laws_szInstanceS_loop0 at h
    conv => whnf
    refine vIfD h (fun h => ?_) (fun h => ?_)
    · conv => whnf
      refine vAt h (fun x0 he1a he1b he1x h => ?_)
      conv => whnf
      refine vBind h (fun szInstance0 hb2 h => ?_)
      conv => whnf
      refine vIfD h (fun h => ?_) (fun h => ?_)
      · conv => whnf
        cases h
        obtain rfl := hR0 _ rfl
        exact hK
      · conv => whnf
        cases h
        exact ⟨⟨rfl, rfl⟩, hI0 _ rfl⟩
    · conv => whnf
      cases h
      obtain rfl := hR0 _ rfl
      exact hK
theorem w_laws_szInt64S : SoundC Tryz.prog 88 c_laws_szInt64S := by
  refine fn_sound tab_ok gam_nil mixed {} (fn := Tryz.f88) Tryz.func88 (by kernel_rfl) (by kernel_rfl) ?_
  rintro ⟨a0, left0, ⟨⟩⟩ K ⟨r, h, hK⟩
  change laws_szInt64S a0 left0 = some r at h
  unfold laws_szInt64S at h
  conv => whnf
  refine vIfD h (fun h => ?_) (fun h => ?_)
  · conv => whnf
    cases h
    exact hK
  · conv => whnf
    cases h
    exact hK
theorem w_laws_szWireS (q0 : SoundC Tryz.prog 38 c_laws_szWire) : SoundC Tryz.prog 37 c_laws_szWireS := by
  refine fn_sound tab_ok (gam_cons q0 gam_nil) mixed { loops := [(0, [.reg 1 (.dat (.int .i64)), .reg 5 (.dat (.int .i64))])] } (fn := Tryz.f37) Tryz.func37 (by kernel_rfl) (by kernel_rfl) ?_
  rintro ⟨a0, left0, ⟨⟩⟩ K ⟨r, h, hK⟩
  change laws_szWireS a0 left0 = some r at h
  unfold laws_szWireS at h
  conv => whnf
  refine vIfD h (fun h => ?_) (fun h => ?_)
  · conv => whnf
    cases h
    exact hK
  · conv => whnf
    refine vLoop h ?_
    rintro I0 μ0 ⟨left1, i0, ⟨⟩⟩ zs0 h hI0 hR0
    change laws_szWireS_loop0 a0 left1 i0 = some zs0 at h
    unfold laws_szWireS_loop0 at h
    conv => whnf
    refine vIfD h (fun h => ?_) (fun h => ?_)
    · conv => whnf
      refine vAt h (fun x0 he1a he1b he1x h => ?_)
      conv => whnf
      refine vBind h (fun szWire0 hb2 h => ?_)
      conv => whnf
      refine vIfD h (fun h => ?_) (fun h => ?_)
      · conv => whnf
        cases h
        obtain rfl := hR0 _ rfl
        exact hK
      · conv => whnf
        cases h
        exact ⟨⟨rfl, rfl⟩, hI0 _ rfl⟩
    · conv => whnf
      cases h
      obtain rfl := hR0 _ rfl
      exact hK
theorem w_laws_toEdit (q0 : SoundC Tryz.prog 44 c_laws_toWire) : SoundC Tryz.prog 10 c_laws_toEdit := by
  refine fn_sound tab_ok (gam_cons q0 gam_nil) mixed {} (fn := Tryz.f10) Tryz.func10 (by kernel_rfl) (by kernel_rfl) ?_
  rintro ⟨a0, ⟨⟩⟩ K ⟨r, h, hK⟩
  change laws_toEdit a0 = some r at h
  unfold laws_toEdit at h
  conv => whnf
  refine vBind h (fun toWire0 hb0 h => ?_)
  conv => whnf
  cases h
  exact hK
theorem w_laws_toWire (q0 : SoundC Tryz.prog 98 c_laws_toInt64S) : SoundC Tryz.prog 44 c_laws_toWire := by
  refine fn_sound tab_ok (gam_cons q0 gam_nil) mixed {} (fn := Tryz.f44) Tryz.func44 (by kernel_rfl) (by kernel_rfl) ?_
  rintro ⟨a0, ⟨⟩⟩ K ⟨r, h, hK⟩
  change laws_toWire a0 = some r at h
  unfold laws_toWire at h
  conv => whnf
  refine vBind h (fun toInt64S0 hb0 h => ?_)
  conv => whnf
  refine vBind h (fun toInt64S1 hb1 h => ?_)
  conv => whnf
  refine vBind h (fun toInt64S2 hb2 h => ?_)
  conv => whnf
  refine vBind h (fun toInt64S3 hb3 h => ?_)
  conv => whnf
  cases h
  exact hK
theorem w_slices_ContainsFunc_Simpl_Arc_impl_Arc_at_impl_Cell_has_c1 (q0 : SoundC Tryz.prog 291 c_slices_IndexFunc_Simpl_Arc_impl_Arc_at_impl_Cell_has_c1) : SoundC Tryz.prog 276 c_slices_ContainsFunc_Simpl_Arc_impl_Arc_at_impl_Cell_has_c1 := by
  refine fn_sound tab_ok (gam_cons q0 gam_nil) mixed {} (fn := Tryz.f276) Tryz.func276 (by kernel_rfl) (by kernel_rfl) ?_
  rintro ⟨s0, f0, ⟨⟩⟩ K ⟨r, h, hK⟩
  change slices_ContainsFunc_Simpl_Arc_impl_Arc_at_impl_Cell_has_c1 s0 f0 = some r at h
  unfold slices_ContainsFunc_Simpl_Arc_impl_Arc_at_impl_Cell_has_c1 at h
  conv => whnf
  refine vBind h (fun c1_0 hb0 h => ?_)
  conv => whnf
  cases h
  exact hK
theorem w_slices_ContainsFunc_Sint64_int64_at_impl_areWithin_c1 (q0 : SoundC Tryz.prog 260 c_slices_IndexFunc_Sint64_int64_at_impl_areWithin_c1) : SoundC Tryz.prog 234 c_slices_ContainsFunc_Sint64_int64_at_impl_areWithin_c1 := by
  refine fn_sound tab_ok (gam_cons q0 gam_nil) mixed {} (fn := Tryz.f234) Tryz.func234 (by kernel_rfl) (by kernel_rfl) ?_
  rintro ⟨s0, f0, ⟨⟩⟩ K ⟨r, h, hK⟩
  change slices_ContainsFunc_Sint64_int64_at_impl_areWithin_c1 s0 f0 = some r at h
  unfold slices_ContainsFunc_Sint64_int64_at_impl_areWithin_c1 at h
  conv => whnf
  refine vBind h (fun c1_0 hb0 h => ?_)
  conv => whnf
  cases h
  exact hK
theorem w_slices_IndexFunc_Simpl_Instance_impl_Instance_at_impl_InstanceNamed_c1 (q0 : SoundC Tryz.prog 245 c_impl_InstanceNamed_c1) : SoundC Tryz.prog 244 c_slices_IndexFunc_Simpl_Instance_impl_Instance_at_impl_InstanceNamed_c1 := by
  refine fn_sound tab_ok (gam_cons q0 gam_nil) mixed { loops := [(0, [.reg 8 (.dat (.int .i64))])] } (fn := Tryz.f244) Tryz.func244 (by kernel_rfl) (by kernel_rfl) ?_
  rintro ⟨s0, f0, ⟨⟩⟩ K ⟨r, h, hK⟩
  change slices_IndexFunc_Simpl_Instance_impl_Instance_at_impl_InstanceNamed_c1 s0 f0 = some r at h
  unfold slices_IndexFunc_Simpl_Instance_impl_Instance_at_impl_InstanceNamed_c1 at h
  conv => whnf
  refine vLoop h ?_
  rintro I0 μ0 ⟨v0, ⟨⟩⟩ zs0 h hI0 hR0
  change slices_IndexFunc_Simpl_Instance_impl_Instance_at_impl_InstanceNamed_c1_loop0 s0 f0 v0 = some zs0 at h
  unfold slices_IndexFunc_Simpl_Instance_impl_Instance_at_impl_InstanceNamed_c1_loop0 at h
  conv => whnf
  refine vIfD h (fun h => ?_) (fun h => ?_)
  · conv => whnf
    refine vAt h (fun x0 he1a he1b he1x h => ?_)
    conv => whnf
    refine vBind h (fun c1_0 hb2 h => ?_)
    conv => whnf
    refine vIfB h (fun h => ?_) (fun h => ?_)
    · conv => whnf
      cases h
      obtain rfl := hR0 _ rfl
      exact hK
    · conv => whnf
      cases h
      exact ⟨⟨rfl, rfl⟩, hI0 _ rfl⟩
  · conv => whnf
    cases h
    obtain rfl := hR0 _ rfl
    exact hK
theorem w_spec_IsBlock (q0 : SoundC Tryz.prog 145 c_spec_IsDesign) (q1 : SoundC Tryz.prog 147 c_spec_l05Sinks) (q2 : SoundC Tryz.prog 146 c_spec_IsWire) : SoundC Tryz.prog 89 c_spec_IsBlock := by
  refine fn_sound tab_ok (gam_cons q0 (gam_cons q1 (gam_cons q2 gam_nil))) mixed { loops := [(0, [.reg 3 (.dat (.int .i64))])], draws := [(6, [0, 1, 0, 7, 15, 0, 32, 0, 224, 480, 1023, 2047], .op 0 (.op 1 (.op 2 (.op 3 (.op 4 (.op 5 (.op 6 (.op 7 (.alt 8 (.op 9 (.alt 10 (.op 11 (.done)) (.done))) (.done))))))))))] } (fn := Tryz.f89) Tryz.func89 (by kernel_rfl) (by kernel_rfl) ?_
  rintro ⟨b0, ⟨⟩⟩ K ⟨r, h, hK⟩
  change spec_IsBlock b0 = some r at h
  unfold spec_IsBlock at h
  conv => whnf
  refine vBind h (fun IsDesign0 hb0 h => ?_)
  conv => whnf
  refine vNot ?_
  refine vIfB h (fun h => ?_) (fun h => ?_)
  · conv => whnf
    refine vNots ?_
    refine vIfD h (fun h => ?_) (fun h => ?_)
    · conv => whnf
      refine vLoop h ?_
      rintro I1 μ1 ⟨net0, ⟨⟩⟩ zs1 h hI1 hR1
      change spec_IsBlock_loop0 b0 net0 = some zs1 at h
      unfold spec_IsBlock_loop0 at h
      conv => whnf
      refine vIfD h (fun h => ?_) (fun h => ?_)
      · conv => whnf
        refine ⟨by kernel_rfl, ?_⟩
        conv => whnf
        refine vAt h (fun x0 he2a he2b he2x h => ?_)
        conv => whnf
        refine vBind h (fun l05Sinks0 hb3 h => ?_)
        conv => whnf
        refine vBind h (fun IsWire0 hb4 h => ?_)
        conv => whnf
        refine vNots ?_
        refine vIfB h (fun h => ?_) (fun h => ?_)
        · conv => whnf
          cases h
          exact ⟨⟨rfl, rfl⟩, hI1 _ rfl⟩
        · conv => whnf
          cases h
          obtain rfl := hR1 _ rfl
          exact hK
      · conv => whnf
        cases h
        obtain rfl := hR1 _ rfl
        exact hK
    · conv => whnf
      cases h
      exact hK
  · conv => whnf
    cases h
    exact hK
theorem w_spec_IsDesign (q0 : SoundC Tryz.prog 191 c_spec_IsLibrary) (q1 : SoundC Tryz.prog 192 c_spec_l05Parts) (q2 : SoundC Tryz.prog 193 c_spec_l05Names) : SoundC Tryz.prog 145 c_spec_IsDesign := by
  refine fn_sound tab_ok (gam_cons q0 (gam_cons q1 (gam_cons q2 gam_nil))) mixed { loops := [(0, [.reg 5 (.own (.ol 9 (.flat (.str)))), .reg 6 (.dat (.int .i64))]), (2, [.reg 7 (.own (.ol 9 (.flat (.str)))), .reg 8 (.dat (.int .i64))]), (4, [.reg 10 (.dat (.int .i64)), .ent 6 (nat_lit 2) (.flat ti33.ety)]), (6, [.reg 12 (.dat (.int .i64)), .ent 6 (nat_lit 2) (.flat ti33.ety)]), (8, [.reg 13 (.dat (.int .i64))])] } (fn := Tryz.f145) Tryz.func145 (by kernel_rfl) (by kernel_rfl) ?_
  rintro ⟨a0, a1, ⟨⟩⟩ K ⟨r, h, hK⟩
  change spec_IsDesign a0 a1 = some r at h
  unfold spec_IsDesign at h
  conv => whnf
  refine vBind h (fun IsLibrary0 hb0 h => ?_)
  conv => whnf
  refine vNot ?_
  refine vIfB h (fun h => ?_) (fun h => ?_)
  · conv => whnf
    refine vIfDs h (fun h => ?_) (fun h => ?_)
    · conv => whnf
      cases h
      exact hK
    · conv => whnf
      refine vIfDs h (fun h => ?_) (fun h => ?_)
      · conv => whnf
        cases h
        exact hK
      · conv => whnf
        refine vIfDs h (fun h => ?_) (fun h => ?_)
        · conv => whnf
          cases h
          exact hK
        · conv => whnf
          refine vBind h (fun l05Parts0 hb1 h => ?_)
          conv => whnf
          refine vNots ?_
          refine vIfB h (fun h => ?_) (fun h => ?_)
          · conv => whnf
            refine vLoop h ?_
            rintro I2 μ2 ⟨v0, v1, ⟨⟩⟩ zs2 h hI2 hR2
            change spec_IsDesign_loop4 a1 v0 v1 = some zs2 at h
            unfold spec_IsDesign_loop4 at h
            conv => whnf
            refine vIfD h (fun h => ?_) (fun h => ?_)
            · conv => whnf
              refine vAt h (fun x0 he3a he3b he3x h => ?_)
              conv => whnf
              refine vPre h (fun hp4 h => ?_)
              conv => whnf
              cases h
              exact ⟨⟨rfl, rfl⟩, hI2 _ rfl⟩
            · conv => whnf
              refine vLoop h ?_
              rintro I5 μ5 ⟨v2, v3, ⟨⟩⟩ zs5 h hI5 hR5
              change spec_IsDesign_loop3 a1 v0 v2 v3 = some zs5 at h
              unfold spec_IsDesign_loop3 at h
              conv => whnf
              refine vIfD h (fun h => ?_) (fun h => ?_)
              · conv => whnf
                refine vAt h (fun x0 he6a he6b he6x h => ?_)
                conv => whnf
                refine vPre h (fun hp7 h => ?_)
                conv => whnf
                cases h
                exact ⟨⟨rfl, rfl⟩, hI5 _ rfl⟩
              · conv => whnf
                refine vBind h (fun l05Names0 hb8 h => ?_)
                conv => whnf
                refine vNot ?_
                refine vIfB h (fun h => ?_) (fun h => ?_)
                · conv => whnf
                  refine vBind h (fun l05Names1 hb9 h => ?_)
                  conv => whnf
                  refine vNot ?_
                  refine vIfB h (fun h => ?_) (fun h => ?_)
                  · conv => whnf
                    refine vBind h (fun l05Names2 hb10 h => ?_)
                    conv => whnf
                    refine vNots ?_
                    refine vIfB h (fun h => ?_) (fun h => ?_)
                    · conv => whnf
                      refine vPre h (fun hp11 h => ?_)
                      conv => whnf
                      refine vPre h (fun hp12 h => ?_)
                      conv => whnf
                      refine vPre h (fun hp13 h => ?_)
                      conv => whnf
                      refine vPre h (fun hp14 h => ?_)
                      conv => whnf
                      refine vLoop h ?_
                      rintro I15 μ15 ⟨v4, l0, ⟨⟩⟩ zs15 h hI15 hR15
                      change spec_IsDesign_loop2 a1 v4 l0 = some zs15 at h
                      unfold spec_IsDesign_loop2 at h
                      conv => whnf
                      refine vIfD h (fun h => ?_) (fun h => ?_)
                      · conv => whnf
                        refine vAt h (fun x0 he16a he16b he16x h => ?_)
                        conv => whnf
                        refine vAt h (fun x1 he17a he17b he17x h => ?_)
                        conv => whnf
                        refine vAt h (fun x2 he18a he18b he18x h => ?_)
                        conv => whnf
                        refine ⟨by kernel_rfl, ?_⟩
                        conv => whnf
                        refine ⟨he18a, he18b, vAgain he18x ?_⟩
                        conv => whnf
                        refine ⟨he18a, he18b, vAgain he18x ?_⟩
                        conv => whnf
                        refine ⟨by kernel_rfl, ?_⟩
                        conv => whnf
                        refine ⟨by decide, ?_⟩
                        conv => whnf
                        refine ⟨he18a, he18b, vAgain he18x ?_⟩
                        conv => whnf
                        cases h
                        exact ⟨⟨rfl, rfl⟩, hI15 _ rfl⟩
                      · conv => whnf
                        refine vLoop h ?_
                        rintro I19 μ19 ⟨v5, l1, ⟨⟩⟩ zs19 h hI19 hR19
                        change spec_IsDesign_loop1 a1 v5 l1 = some zs19 at h
                        unfold spec_IsDesign_loop1 at h
                        conv => whnf
                        refine vIfD h (fun h => ?_) (fun h => ?_)
                        · conv => whnf
                          refine vAt h (fun x0 he20a he20b he20x h => ?_)
                          conv => whnf
                          refine vIfD h (fun h => ?_) (fun h => ?_)
                          · conv => whnf
                            refine ⟨he20a, he20b, vAgain he20x ?_⟩
                            conv => whnf
                            refine vAt h (fun x1 he21a he21b he21x h => ?_)
                            conv => whnf
                            refine ⟨by kernel_rfl, ?_⟩
                            conv => whnf
                            refine ⟨he21a, he21b, vAgain he21x ?_⟩
                            conv => whnf
                            refine ⟨he21a, he21b, vAgain he21x ?_⟩
                            conv => whnf
                            refine ⟨by kernel_rfl, ?_⟩
                            conv => whnf
                            refine ⟨by decide, ?_⟩
                            conv => whnf
                            refine ⟨he21a, he21b, vAgain he21x ?_⟩
                            conv => whnf
                            cases h
                            exact ⟨⟨rfl, rfl⟩, hI19 _ rfl⟩
                          · conv => whnf
                            cases h
                            exact ⟨⟨rfl, rfl⟩, hI19 _ rfl⟩
                        · conv => whnf
                          refine vLoop h ?_
                          rintro I22 μ22 ⟨v6, ⟨⟩⟩ zs22 h hI22 hR22
                          change spec_IsDesign_loop0 l1 v6 = some zs22 at h
                          unfold spec_IsDesign_loop0 at h
                          conv => whnf
                          refine vIfD h (fun h => ?_) (fun h => ?_)
                          · conv => whnf
                            refine vAt h (fun x0 he23a he23b he23x h => ?_)
                            conv => whnf
                            refine ⟨by kernel_rfl, ?_⟩
                            conv => whnf
                            refine ⟨he23a, he23b, vAgain he23x ?_⟩
                            conv => whnf
                            refine vNots ?_
                            refine vIfD h (fun h => ?_) (fun h => ?_)
                            · conv => whnf
                              cases h
                              exact ⟨⟨rfl, rfl⟩, hI22 _ rfl⟩
                            · conv => whnf
                              cases h
                              obtain rfl := hR22 _ rfl
                              obtain rfl := hR19 _ rfl
                              obtain rfl := hR15 _ rfl
                              obtain rfl := hR5 _ rfl
                              obtain rfl := hR2 _ rfl
                              exact hK
                          · conv => whnf
                            cases h
                            obtain rfl := hR22 _ rfl
                            obtain rfl := hR19 _ rfl
                            obtain rfl := hR15 _ rfl
                            obtain rfl := hR5 _ rfl
                            obtain rfl := hR2 _ rfl
                            exact hK
                    · conv => whnf
                      cases h
                      obtain rfl := hR5 _ rfl
                      obtain rfl := hR2 _ rfl
                      exact hK
                  · conv => whnf
                    cases h
                    obtain rfl := hR5 _ rfl
                    obtain rfl := hR2 _ rfl
                    exact hK
                · conv => whnf
                  cases h
                  obtain rfl := hR5 _ rfl
                  obtain rfl := hR2 _ rfl
                  exact hK
          · conv => whnf
            cases h
            exact hK
  · conv => whnf
    cases h
    exact hK
theorem w_spec_l03Kinds : SoundC Tryz.prog 255 c_spec_l03Kinds := by
  refine fn_sound tab_ok gam_nil mixed { loops := [(0, [.reg 4 (.dat (.int .i64)), .ent 1 (nat_lit 2) (.flat ti33.ety)])] } (fn := Tryz.f255) Tryz.func255 (by kernel_rfl) (by kernel_rfl) ?_
  rintro ⟨c0, ⟨⟩⟩ K ⟨r, h, hK⟩
  change spec_l03Kinds c0 = some r at h
  unfold spec_l03Kinds at h
  conv => whnf
  refine ⟨by decide, ?_⟩
  conv => whnf
  refine ⟨by decide, ?_⟩
  conv => whnf
  refine ⟨by decide, ?_⟩
  conv => whnf
  refine ⟨by decide, ?_⟩
  conv => whnf
  refine vLoop h ?_
  rintro I0 μ0 ⟨i0, l0, ⟨⟩⟩ zs0 h hI0 hR0
  change spec_l03Kinds_loop0 c0 i0 l0 = some zs0 at h
  unfold spec_l03Kinds_loop0 at h
  conv => whnf
  refine vIfD h (fun h => ?_) (fun h => ?_)
  · conv => whnf
    refine vAt h (fun x0 he1a he1b he1x h => ?_)
    conv => whnf
    refine vAt h (fun x1 he2a he2b he2x h => ?_)
    conv => whnf
    refine ⟨by kernel_rfl, ?_⟩
    conv => whnf
    refine ⟨he2a, he2b, vAgain he2x ?_⟩
    conv => whnf
    refine ⟨he2a, he2b, vAgain he2x ?_⟩
    conv => whnf
    refine ⟨by kernel_rfl, ?_⟩
    conv => whnf
    refine ⟨by decide, ?_⟩
    conv => whnf
    refine ⟨he2a, he2b, vAgain he2x ?_⟩
    conv => whnf
    cases h
    exact ⟨⟨rfl, rfl⟩, hI0 _ rfl⟩
  · conv => whnf
    cases h
    obtain rfl := hR0 _ rfl
    exact hK
theorem w_spec_l03Tables (q0 : SoundC Tryz.prog 286 c_spec_TableBounds) : SoundC Tryz.prog 272 c_spec_l03Tables := by
  refine fn_sound tab_ok (gam_cons q0 gam_nil) mixed { loops := [(0, [.reg 5 (.dat (.int .i64))])] } (fn := Tryz.f272) Tryz.func272 (by kernel_rfl) (by kernel_rfl) ?_
  rintro ⟨list0, positive0, ⟨⟩⟩ K ⟨r, h, hK⟩
  change spec_l03Tables list0 positive0 = some r at h
  unfold spec_l03Tables at h
  conv => whnf
  refine vNots ?_
  refine vIfD h (fun h => ?_) (fun h => ?_)
  · conv => whnf
    refine vLoop h ?_
    rintro I0 μ0 ⟨i0, ⟨⟩⟩ zs0 h hI0 hR0
    change spec_l03Tables_loop0 list0 positive0 i0 = some zs0 at h
    unfold spec_l03Tables_loop0 at h
    conv => whnf
    refine vIfD h (fun h => ?_) (fun h => ?_)
    · conv => whnf
      refine vAt h (fun x0 he1a he1b he1x h => ?_)
      conv => whnf
      refine vBind h (fun TableBounds0 hb2 h => ?_)
      conv => whnf
      refine vNot ?_
      refine vIfD h (fun h => ?_) (fun h => ?_)
      · conv => whnf
        refine vIfB h (fun h => ?_) (fun h => ?_)
        · conv => whnf
          refine vIfD h (fun h => ?_) (fun h => ?_)
          · conv => whnf
            cases h
            obtain rfl := hR0 _ rfl
            exact hK
          · conv => whnf
            cases h
            exact ⟨⟨rfl, rfl⟩, hI0 _ rfl⟩
        · conv => whnf
          cases h
          exact ⟨⟨rfl, rfl⟩, hI0 _ rfl⟩
      · conv => whnf
        cases h
        obtain rfl := hR0 _ rfl
        exact hK
    · conv => whnf
      cases h
      obtain rfl := hR0 _ rfl
      exact hK
  · conv => whnf
    cases h
    exact hK
theorem w_spec_l04Index : SoundC Tryz.prog 194 c_spec_l04Index := by
  refine fn_sound tab_ok gam_nil mixed { loops := [(0, [.reg 5 (.dat (.int .i64))])] } (fn := Tryz.f194) Tryz.func194 (by kernel_rfl) (by kernel_rfl) ?_
  rintro ⟨list0, word0, ⟨⟩⟩ K ⟨r, h, hK⟩
  change spec_l04Index list0 word0 = some r at h
  unfold spec_l04Index at h
  conv => whnf
  refine vLoop h ?_
  rintro I0 μ0 ⟨i0, ⟨⟩⟩ zs0 h hI0 hR0
  change spec_l04Index_loop0 list0 word0 i0 = some zs0 at h
  unfold spec_l04Index_loop0 at h
  conv => whnf
  refine vIfD h (fun h => ?_) (fun h => ?_)
  · conv => whnf
    refine vAt h (fun x0 he1a he1b he1x h => ?_)
    conv => whnf
    refine vIfD h (fun h => ?_) (fun h => ?_)
    · conv => whnf
      cases h
      obtain rfl := hR0 _ rfl
      exact hK
    · conv => whnf
      cases h
      exact ⟨⟨rfl, rfl⟩, hI0 _ rfl⟩
  · conv => whnf
    cases h
    obtain rfl := hR0 _ rfl
    exact hK
theorem w_spec_l08Last (q0 : SoundC Tryz.prog 149 c_spec_l08Buffer) (q1 : SoundC Tryz.prog 147 c_spec_l05Sinks) (q2 : SoundC Tryz.prog 195 c_spec_l08Bare) : SoundC Tryz.prog 153 c_spec_l08Last := by
  refine fn_sound tab_ok (gam_cons q0 (gam_cons q1 (gam_cons q2 gam_nil))) mixed { draws := [(6, [0, 1, 3, 0, 8, 31, 63, 127, 255, 511, 1023, 2047, 4095, 8191, 1023, 32767, 65535, 131071, 262143, 524287, 1048575, 262143, 4194303, 8388607, 262143, 17039359, 67108863, 134217727, 268435455, 536870911, 1073741823, 2147483647, 4294967295, 536870911, 17179869183, 34359738367], .op 0 (.op 1 (.op 2 (.op 3 (.op 4 (.op 5 (.op 6 (.alt 7 (.op 8 (.op 9 (.op 10 (.op 11 (.op 12 (.op 13 (.op 14 (.op 15 (.op 16 (.op 17 (.op 18 (.op 19 (.op 20 (.op 21 (.op 22 (.op 23 (.op 24 (.op 25 (.op 26 (.op 27 (.op 28 (.op 29 (.op 30 (.op 31 (.op 32 (.op 33 (.op 34 (.op 35 (.done))))))))))))))))))))))))))))) (.done)))))))))] } (fn := Tryz.f153) Tryz.func153 (by kernel_rfl) (by kernel_rfl) ?_
  rintro ⟨a0, ⟨⟩⟩ K ⟨r, h, hK⟩
  change spec_l08Last a0 = some r at h
  unfold spec_l08Last at h
  conv => whnf
  refine vIfD h (fun h => ?_) (fun h => ?_)
  · conv => whnf
    cases h
    exact hK
  · conv => whnf
    refine vAt h (fun x0 he0a he0b he0x h => ?_)
    conv => whnf
    refine ⟨by kernel_rfl, ?_⟩
    conv => whnf
    refine vAt h (fun x1 he1a he1b he1x h => ?_)
    conv => whnf
    refine vBind h (fun l08Buffer0 hb2 h => ?_)
    conv => whnf
    refine vNot ?_
    refine vIfB h (fun h => ?_) (fun h => ?_)
    · conv => whnf
      refine vAt h (fun x2 he3a he3b he3x h => ?_)
      conv => whnf
      refine vNot ?_
      refine vIfD h (fun h => ?_) (fun h => ?_)
      · conv => whnf
        refine vAt h (fun x3 he4a he4b he4x h => ?_)
        conv => whnf
        refine vNot ?_
        refine vIfD h (fun h => ?_) (fun h => ?_)
        · conv => whnf
          refine vAt h (fun x4 he5a he5b he5x h => ?_)
          conv => whnf
          refine vIfD h (fun h => ?_) (fun h => ?_)
          · conv => whnf
            cases h
            exact hK
          · conv => whnf
            refine vBind h (fun l05Sinks0 hb6 h => ?_)
            conv => whnf
            refine vIfD h (fun h => ?_) (fun h => ?_)
            · conv => whnf
              refine vAt h (fun x5 he7a he7b he7x h => ?_)
              conv => whnf
              refine vBind h (fun l08Bare0 hb8 h => ?_)
              conv => whnf
              cases h
              exact hK
            · conv => whnf
              cases h
              exact hK
        · conv => whnf
          cases h
          exact hK
      · conv => whnf
        cases h
        exact hK
    · conv => whnf
      cases h
      exact hK
end Go.Proofs.YtaccffcigblceaaGreatDoor
