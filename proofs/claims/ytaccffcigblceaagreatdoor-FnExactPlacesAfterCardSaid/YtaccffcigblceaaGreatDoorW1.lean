/-
  The functions keep their contracts, if what they call does. Printed by program.
-/
import Derived.Test.YtaccffcigblceaaGreatDoorM
import Derived.KernelRfl
namespace Go.Proofs.YtaccffcigblceaaGreatDoor
open Go Go.Sx
set_option maxRecDepth 100000
set_option linter.unusedVariables false
set_option linter.unusedSimpArgs false
theorem w_impl_Cell_areArcs (q1 : SoundC Tryz.prog 275 c_impl_Cell_isArc) (q0 : SoundC Tryz.prog 276 c_slices_ContainsFunc_Simpl_Arc_impl_Arc_at_impl_Cell_areArcs_c1) : SoundC Tryz.prog 258 c_impl_Cell_areArcs := by
  refine fn_sound tab_ok (gam_cons q1 (gam_cons q0 gam_nil)) mixed { loops := [(0, [.reg 8 (.dat (.int .i64))])] } (fn := Tryz.f258) Tryz.func258 (by kernel_rfl) (by kernel_rfl) ?_
  rintro ⟨c0, ⟨⟩⟩ K ⟨r, h, hK⟩
  change impl_Cell_areArcs c0 = some r at h
  unfold impl_Cell_areArcs at h
  conv => whnf
  refine vLoop h ?_
  rintro I0 μ0 ⟨v0, ⟨⟩⟩ zs0 h hI0 hR0
  change impl_Cell_areArcs_loop0 c0 v0 = some zs0 at h
  unfold impl_Cell_areArcs_loop0 at h
  conv => whnf
  refine vIfD h (fun h => ?_) (fun h => ?_)
  · conv => whnf
    refine vAt h (fun x0 he1a he1b he1x h => ?_)
    conv => whnf
    refine vBind h (fun isArc0 hb2 h => ?_)
    conv => whnf
    refine vNot ?_
    refine vIfB h (fun h => ?_) (fun h => ?_)
    · conv => whnf
      refine ⟨by decide, ?_⟩
      conv => whnf
      refine vPre h (fun hp3 h => ?_)
      conv => whnf
      refine vPre h (fun hp4 h => ?_)
      conv => whnf
      refine vBind h (fun c1_0 hb5 h => ?_)
      conv => whnf
      refine vIfB h (fun h => ?_) (fun h => ?_)
      · conv => whnf
        cases h
        obtain rfl := hR0 _ rfl
        exact hK
      · conv => whnf
        cases h
        exact ⟨⟨rfl, rfl⟩, hI0 _ rfl⟩
    · conv => whnf
      cases h
      obtain rfl := hR0 _ rfl
      exact hK
  · conv => whnf
    cases h
    obtain rfl := hR0 _ rfl
    exact hK
theorem w_impl_Cell_clock (q0 : SoundC Tryz.prog 301 c_slices_IndexFunc_Simpl_Pin_impl_Pin_at_impl_Cell_clock_c1) : SoundC Tryz.prog 289 c_impl_Cell_clock := by
  refine fn_sound tab_ok (gam_cons q0 gam_nil) mixed {} (fn := Tryz.f289) Tryz.func289 (by kernel_rfl) (by kernel_rfl) ?_
  rintro ⟨c0, ⟨⟩⟩ K ⟨r, h, hK⟩
  change impl_Cell_clock c0 = some r at h
  unfold impl_Cell_clock at h
  conv => whnf
  refine vBind h (fun c1_0 hb0 h => ?_)
  conv => whnf
  cases h
  exact hK
theorem w_impl_Cell_clock_c1 : SoundC Tryz.prog 302 c_impl_Cell_clock_c1 := by
  refine fn_sound tab_ok gam_nil mixed {} (fn := Tryz.f302) Tryz.func302 (by kernel_rfl) (by kernel_rfl) ?_
  rintro ⟨p0, ⟨⟩⟩ K ⟨r, h, hK⟩
  change impl_Cell_clock_c1 p0 = some r at h
  unfold impl_Cell_clock_c1 at h
  conv => whnf
  cases h
  exact hK
theorem w_impl_Design_sinks (q0 : SoundC Tryz.prog 102 c_impl_Design_places) : SoundC Tryz.prog 168 c_impl_Design_sinks := by
  refine fn_sound tab_ok (gam_cons q0 gam_nil) mixed { loops := [(0, [.reg 5 (.own (.ol 2 (.flat (.int .i64)))), .reg 11 (.dat (.int .i64))])] } (fn := Tryz.f168) Tryz.func168 (by kernel_rfl) (by kernel_rfl) ?_
  rintro ⟨d0, net0, ⟨⟩⟩ K ⟨r, h, hK⟩
  change impl_Design_sinks d0 net0 = some r at h
  unfold impl_Design_sinks at h
  conv => whnf
  refine vBind h (fun places0 hb0 h => ?_)
  conv => whnf
  refine vLoop h ?_
  rintro I1 μ1 ⟨list0, v0, ⟨⟩⟩ zs1 h hI1 hR1
  change impl_Design_sinks_loop0 net0 places0 list0 v0 = some zs1 at h
  unfold impl_Design_sinks_loop0 at h
  conv => whnf
  refine vIfD h (fun h => ?_) (fun h => ?_)
  · conv => whnf
    refine vAt h (fun x0 he2a he2b he2x h => ?_)
    conv => whnf
    refine ⟨by kernel_rfl, ?_⟩
    conv => whnf
    refine ⟨he2a, he2b, vAgain he2x ?_⟩
    conv => whnf
    refine vIfD h (fun h => ?_) (fun h => ?_)
    · conv => whnf
      refine vNots ?_
      refine vIfB h (fun h => ?_) (fun h => ?_)
      · conv => whnf
        cases h
        exact ⟨⟨rfl, rfl⟩, hI1 _ rfl⟩
      · conv => whnf
        refine vPre h (fun hp3 h => ?_)
        conv => whnf
        cases h
        exact ⟨⟨rfl, rfl⟩, hI1 _ rfl⟩
    · conv => whnf
      cases h
      exact ⟨⟨rfl, rfl⟩, hI1 _ rfl⟩
  · conv => whnf
    cases h
    obtain rfl := hR1 _ rfl
    exact hK
theorem w_impl_Edit_own : SoundC Tryz.prog 207 c_impl_Edit_own := by
  refine fn_sound tab_ok gam_nil mixed {} (fn := Tryz.f207) Tryz.func207 (by kernel_rfl) (by kernel_rfl) ?_
  rintro ⟨e0, ⟨⟩⟩ K ⟨r, h, hK⟩
  change impl_Edit_own e0 = some r at h
  unfold impl_Edit_own at h
  conv => whnf
  refine vIfD h (fun h => ?_) (fun h => ?_)
  · conv => whnf
    cases h
    exact hK
  · conv => whnf
    refine vIfD h (fun h => ?_) (fun h => ?_)
    · conv => whnf
      cases h
      exact hK
    · conv => whnf
      refine vIfD h (fun h => ?_) (fun h => ?_)
      · conv => whnf
        cases h
        exact hK
      · conv => whnf
        refine vIfD h (fun h => ?_) (fun h => ?_)
        · conv => whnf
          cases h
          exact hK
        · conv => whnf
          cases h
          exact hK
theorem w_impl_IsTable (q1 : SoundC Tryz.prog 308 c_impl_isAxis) (q0 : SoundC Tryz.prog 205 c_impl_areWithin) : SoundC Tryz.prog 299 c_impl_IsTable := by
  refine fn_sound tab_ok (gam_cons q1 (gam_cons q0 gam_nil)) mixed {} (fn := Tryz.f299) Tryz.func299 (by kernel_rfl) (by kernel_rfl) ?_
  rintro ⟨t0, ⟨⟩⟩ K ⟨r, h, hK⟩
  change impl_IsTable t0 = some r at h
  unfold impl_IsTable at h
  conv => whnf
  refine vBind h (fun isAxis0 hb0 h => ?_)
  conv => whnf
  refine vIfB h (fun h => ?_) (fun h => ?_)
  · conv => whnf
    refine vBind h (fun isAxis1 hb1 h => ?_)
    conv => whnf
    refine vIfB h (fun h => ?_) (fun h => ?_)
    · conv => whnf
      refine vIfD h (fun h => ?_) (fun h => ?_)
      · conv => whnf
        refine vBind h (fun areWithin0 hb2 h => ?_)
        conv => whnf
        cases h
        exact hK
      · conv => whnf
        cases h
        exact hK
    · conv => whnf
      cases h
      exact hK
  · conv => whnf
    cases h
    exact hK
theorem w_impl_length_impl_Pin : SoundC Tryz.prog 274 c_impl_length_impl_Pin := by
  refine fn_sound tab_ok gam_nil mixed {} (fn := Tryz.f274) Tryz.func274 (by kernel_rfl) (by kernel_rfl) ?_
  rintro ⟨list0, ⟨⟩⟩ K ⟨r, h, hK⟩
  change impl_length_impl_Pin list0 = some r at h
  unfold impl_length_impl_Pin at h
  conv => whnf
  cases h
  exact hK
theorem w_impl_sameWire (q0 : SoundC Tryz.prog 261 c_slices_Equal_Sint64_int64) : SoundC Tryz.prog 239 c_impl_sameWire := by
  refine fn_sound tab_ok (gam_cons q0 gam_nil) mixed {} (fn := Tryz.f239) Tryz.func239 (by kernel_rfl) (by kernel_rfl) ?_
  rintro ⟨a0, b0, ⟨⟩⟩ K ⟨r, h, hK⟩
  change impl_sameWire a0 b0 = some r at h
  unfold impl_sameWire at h
  conv => whnf
  refine vBind h (fun int64_0 hb0 h => ?_)
  conv => whnf
  refine vIfB h (fun h => ?_) (fun h => ?_)
  · conv => whnf
    refine vBind h (fun int64_1 hb1 h => ?_)
    conv => whnf
    refine vIfB h (fun h => ?_) (fun h => ?_)
    · conv => whnf
      refine vBind h (fun int64_2 hb2 h => ?_)
      conv => whnf
      refine vIfB h (fun h => ?_) (fun h => ?_)
      · conv => whnf
        refine vBind h (fun int64_3 hb3 h => ?_)
        conv => whnf
        cases h
        exact hK
      · conv => whnf
        cases h
        exact hK
    · conv => whnf
      cases h
      exact hK
  · conv => whnf
    cases h
    exact hK
theorem w_laws_eqCell (q1 : SoundC Tryz.prog 216 c_laws_eqPinS) (q2 : SoundC Tryz.prog 217 c_laws_eqArcS) (q0 : SoundC Tryz.prog 12 c_laws_eqInt64S) : SoundC Tryz.prog 161 c_laws_eqCell := by
  refine fn_sound tab_ok (gam_cons q1 (gam_cons q2 (gam_cons q0 gam_nil))) mixed {} (fn := Tryz.f161) Tryz.func161 (by kernel_rfl) (by kernel_rfl) ?_
  rintro ⟨a0, b0, ⟨⟩⟩ K ⟨r, h, hK⟩
  change laws_eqCell a0 b0 = some r at h
  unfold laws_eqCell at h
  conv => whnf
  refine vNots ?_
  refine vIfD h (fun h => ?_) (fun h => ?_)
  · conv => whnf
    refine vNots ?_
    refine vIfD h (fun h => ?_) (fun h => ?_)
    · conv => whnf
      refine vBind h (fun eqPinS0 hb0 h => ?_)
      conv => whnf
      refine vNots ?_
      refine vIfB h (fun h => ?_) (fun h => ?_)
      · conv => whnf
        refine vBind h (fun eqArcS0 hb1 h => ?_)
        conv => whnf
        refine vNots ?_
        refine vIfB h (fun h => ?_) (fun h => ?_)
        · conv => whnf
          refine vBind h (fun eqInt64S0 hb2 h => ?_)
          conv => whnf
          refine vNots ?_
          refine vIfB h (fun h => ?_) (fun h => ?_)
          · conv => whnf
            refine vNots ?_
            refine vIfD h (fun h => ?_) (fun h => ?_)
            · conv => whnf
              refine vNots ?_
              refine vIfD h (fun h => ?_) (fun h => ?_)
              · conv => whnf
                cases h
                exact hK
              · conv => whnf
                cases h
                exact hK
            · conv => whnf
              cases h
              exact hK
          · conv => whnf
            cases h
            exact hK
        · conv => whnf
          cases h
          exact hK
      · conv => whnf
        cases h
        exact hK
    · conv => whnf
      cases h
      exact hK
  · conv => whnf
    cases h
    exact hK
theorem w_laws_eqDesign (q0 : SoundC Tryz.prog 104 c_laws_eqInstanceS) (q1 : SoundC Tryz.prog 105 c_laws_eqStringS) (q2 : SoundC Tryz.prog 106 c_laws_eqPortS) : SoundC Tryz.prog 48 c_laws_eqDesign := by
  refine fn_sound tab_ok (gam_cons q0 (gam_cons q1 (gam_cons q2 gam_nil))) mixed {} (fn := Tryz.f48) Tryz.func48 (by kernel_rfl) (by kernel_rfl) ?_
  rintro ⟨a0, b0, ⟨⟩⟩ K ⟨r, h, hK⟩
  change laws_eqDesign a0 b0 = some r at h
  unfold laws_eqDesign at h
  conv => whnf
  refine vBind h (fun eqInstanceS0 hb0 h => ?_)
  conv => whnf
  refine vNots ?_
  refine vIfB h (fun h => ?_) (fun h => ?_)
  · conv => whnf
    refine vBind h (fun eqStringS0 hb1 h => ?_)
    conv => whnf
    refine vNots ?_
    refine vIfB h (fun h => ?_) (fun h => ?_)
    · conv => whnf
      refine vBind h (fun eqPortS0 hb2 h => ?_)
      conv => whnf
      refine vNots ?_
      refine vIfB h (fun h => ?_) (fun h => ?_)
      · conv => whnf
        cases h
        exact hK
      · conv => whnf
        cases h
        exact hK
    · conv => whnf
      cases h
      exact hK
  · conv => whnf
    cases h
    exact hK
theorem w_laws_eqEdit (q0 : SoundC Tryz.prog 50 c_laws_eqWire) : SoundC Tryz.prog 14 c_laws_eqEdit := by
  refine fn_sound tab_ok (gam_cons q0 gam_nil) mixed {} (fn := Tryz.f14) Tryz.func14 (by kernel_rfl) (by kernel_rfl) ?_
  rintro ⟨a0, b0, ⟨⟩⟩ K ⟨r, h, hK⟩
  change laws_eqEdit a0 b0 = some r at h
  unfold laws_eqEdit at h
  conv => whnf
  refine vNots ?_
  refine vIfD h (fun h => ?_) (fun h => ?_)
  · conv => whnf
    refine vNots ?_
    refine vIfD h (fun h => ?_) (fun h => ?_)
    · conv => whnf
      refine vNots ?_
      refine vIfD h (fun h => ?_) (fun h => ?_)
      · conv => whnf
        refine vNots ?_
        refine vIfD h (fun h => ?_) (fun h => ?_)
        · conv => whnf
          refine vNots ?_
          refine vIfD h (fun h => ?_) (fun h => ?_)
          · conv => whnf
            refine vNots ?_
            refine vIfD h (fun h => ?_) (fun h => ?_)
            · conv => whnf
              refine vBind h (fun eqWire0 hb0 h => ?_)
              conv => whnf
              refine vNots ?_
              refine vIfB h (fun h => ?_) (fun h => ?_)
              · conv => whnf
                cases h
                exact hK
              · conv => whnf
                cases h
                exact hK
            · conv => whnf
              cases h
              exact hK
          · conv => whnf
            cases h
            exact hK
        · conv => whnf
          cases h
          exact hK
      · conv => whnf
        cases h
        exact hK
    · conv => whnf
      cases h
      exact hK
  · conv => whnf
    cases h
    exact hK
theorem w_laws_eqPortS (q0 : SoundC Tryz.prog 163 c_laws_eqPort) : SoundC Tryz.prog 106 c_laws_eqPortS := by
  refine fn_sound tab_ok (gam_cons q0 gam_nil) mixed { loops := [(0, [.reg 5 (.dat (.int .i64))])], draws := [(6, [0, 0, 3, 7, 0, 0, 48, 112, 255, 511], .op 0 (.op 1 (.op 2 (.op 3 (.op 4 (.op 5 (.op 6 (.op 7 (.alt 8 (.op 9 (.done)) (.done))))))))))] } (fn := Tryz.f106) Tryz.func106 (by kernel_rfl) (by kernel_rfl) ?_
  rintro ⟨a0, b0, ⟨⟩⟩ K ⟨r, h, hK⟩
  change laws_eqPortS a0 b0 = some r at h
  unfold laws_eqPortS at h
  conv => whnf
  refine vNots ?_
  refine vIfD h (fun h => ?_) (fun h => ?_)
  · conv => whnf
    refine vLoop h ?_
    rintro I0 μ0 ⟨i0, ⟨⟩⟩ zs0 h hI0 hR0
    change laws_eqPortS_loop0 a0 b0 i0 = some zs0 at h
    unfold laws_eqPortS_loop0 at h
    conv => whnf
    refine vIfD h (fun h => ?_) (fun h => ?_)
    · conv => whnf
      refine ⟨by kernel_rfl, ?_⟩
      conv => whnf
      refine vAt h (fun x0 he1a he1b he1x h => ?_)
      conv => whnf
      refine vAt h (fun x1 he2a he2b he2x h => ?_)
      conv => whnf
      refine vBind h (fun eqPort0 hb3 h => ?_)
      conv => whnf
      refine vNots ?_
      refine vIfB h (fun h => ?_) (fun h => ?_)
      · conv => whnf
        cases h
        exact ⟨⟨rfl, rfl⟩, hI0 _ rfl⟩
      · conv => whnf
        cases h
        obtain rfl := hR0 _ rfl
        exact hK
    · conv => whnf
      cases h
      obtain rfl := hR0 _ rfl
      exact hK
  · conv => whnf
    cases h
    exact hK
theorem w_laws_markCellS (q1 : SoundC Tryz.prog 141 c_laws_markText) (q2 : SoundC Tryz.prog 164 c_laws_markPinS) (q3 : SoundC Tryz.prog 165 c_laws_markArcS) (q0 : SoundC Tryz.prog 17 c_laws_markInt64S) : SoundC Tryz.prog 107 c_laws_markCellS := by
  refine fn_sound tabD_ok (gam_cons q1 (gam_cons q2 (gam_cons q3 (gam_cons q0 gam_nil)))) mixed { loops := [(0, [.reg 1 (.dat (.int .i64)), .reg 5 (.dat (.int .i64)), .ent 0 (nat_lit 252) (Dp.pair (Dp.flat Ty.str) (Dp.pair (Dp.flat (Ty.int IntKind.i64)) (Dp.pair (Dp.ol (285 : Go.TypeId) (Dp.flat tPin)) (Dp.pair (Dp.ol (266 : Go.TypeId) dArc) (Dp.pair (Dp.ol (2 : Go.TypeId) (Dp.flat (Ty.int IntKind.i64))) (Dp.pair (Dp.flat (Ty.int IntKind.i64)) (Dp.pair (Dp.flat (Ty.int IntKind.i64)) (Dp.flat Ty.unit))))))))])] } (fn := Tryz.f107) Tryz.func107 (by kernel_rfl) (by kernel_rfl) ?_
  rintro ⟨a0, k0, ⟨⟩⟩ K ⟨r, h, hK⟩
  change laws_markCellS a0 k0 = some r at h
  unfold laws_markCellS at h
  conv => whnf
  intro fp0
  conv => whnf
  refine vLoop h ?_
  rintro I1 μ1 ⟨k1, i0, l0, ⟨⟩⟩ zs1 h hI1 hR1
  change laws_markCellS_loop0 k1 i0 l0 = some zs1 at h
  unfold laws_markCellS_loop0 at h
  conv => whnf
  intro fp2
  conv => whnf
  refine vIfD h (fun h => ?_) (fun h => ?_)
  · conv => whnf
    refine vBind h (fun markText0 hb3 h => ?_)
    conv => whnf
    refine vAt h (fun x0 he4a he4b he4x h => ?_)
    conv => whnf
    refine ⟨he4a, he4b, vAgain he4x ?_⟩
    conv => whnf
    intro fp5
    conv => whnf
    intro fp6
    conv => whnf
    refine ⟨he4a, he4b, vAgain he4x ?_⟩
    conv => whnf
    refine .inl ⟨rfl, ?_⟩
    conv => whnf
    refine ⟨he4a, he4b, vAgain he4x ?_⟩
    conv => whnf
    refine .inl ⟨rfl, ?_⟩
    conv => whnf
    refine vBind h (fun markPinS0 hb7 h => ?_)
    conv => whnf
    refine ⟨he4a, he4b, vAgain he4x ?_⟩
    conv => whnf
    refine .inl ⟨rfl, ?_⟩
    conv => whnf
    refine vBind h (fun markArcS0 hb8 h => ?_)
    conv => whnf
    intro fp9
    conv => whnf
    refine ⟨he4a, he4b, vAgain he4x ?_⟩
    conv => whnf
    refine .inl ⟨rfl, ?_⟩
    conv => whnf
    refine vBind h (fun markInt64S0 hb10 h => ?_)
    conv => whnf
    refine ⟨he4a, he4b, vAgain he4x ?_⟩
    conv => whnf
    refine .inl ⟨rfl, ?_⟩
    conv => whnf
    refine ⟨he4a, he4b, vAgain he4x ?_⟩
    conv => whnf
    refine .inl ⟨rfl, ?_⟩
    conv => whnf
    cases h
    exact ⟨⟨rfl, rfl⟩, hI1 _ rfl⟩
  · conv => whnf
    cases h
    obtain rfl := hR1 _ rfl
    exact hK
theorem w_laws_szArc (q0 : SoundC Tryz.prog 252 c_laws_szTableS) : SoundC Tryz.prog 229 c_laws_szArc := by
  refine fn_sound tab_ok (gam_cons q0 gam_nil) mixed {} (fn := Tryz.f229) Tryz.func229 (by kernel_rfl) (by kernel_rfl) ?_
  rintro ⟨a0, left0, ⟨⟩⟩ K ⟨r, h, hK⟩
  change laws_szArc a0 left0 = some r at h
  unfold laws_szArc at h
  conv => whnf
  refine vBind h (fun szTableS0 hb0 h => ?_)
  conv => whnf
  refine vIfD h (fun h => ?_) (fun h => ?_)
  · conv => whnf
    cases h
    exact hK
  · conv => whnf
    refine vBind h (fun szTableS1 hb1 h => ?_)
    conv => whnf
    refine vIfD h (fun h => ?_) (fun h => ?_)
    · conv => whnf
      cases h
      exact hK
    · conv => whnf
      cases h
      exact hK
theorem w_laws_szCellS (q0 : SoundC Tryz.prog 142 c_laws_szCell) : SoundC Tryz.prog 84 c_laws_szCellS := by
  refine fn_sound tab_ok (gam_cons q0 gam_nil) mixed { loops := [(0, [.reg 1 (.dat (.int .i64)), .reg 5 (.dat (.int .i64))])] } (fn := Tryz.f84) Tryz.func84 (by kernel_rfl) (by kernel_rfl) ?_
  rintro ⟨a0, left0, ⟨⟩⟩ K ⟨r, h, hK⟩
  change laws_szCellS a0 left0 = some r at h
  unfold laws_szCellS at h
  conv => whnf
  refine vIfD h (fun h => ?_) (fun h => ?_)
  · conv => whnf
    cases h
    exact hK
  · conv => whnf
    refine vLoop h ?_
    rintro I0 μ0 ⟨left1, i0, ⟨⟩⟩ zs0 h hI0 hR0
    change laws_szCellS_loop0 a0 left1 i0 = some zs0 at h
    unfold laws_szCellS_loop0 at h
    conv => whnf
    refine vIfD h (fun h => ?_) (fun h => ?_)
    · conv => whnf
      refine vAt h (fun x0 he1a he1b he1x h => ?_)
      conv => whnf
      refine vBind h (fun szCell0 hb2 h => ?_)
      conv => whnf
      refine vIfD h (fun h => ?_) (fun h => ?_)
      · conv => whnf
        cases h
        obtain rfl := hR0 _ rfl
        exact hK
      · conv => whnf
        cases h
        exact ⟨⟨rfl, rfl⟩, hI0 _ rfl⟩
    · conv => whnf
      cases h
      obtain rfl := hR0 _ rfl
      exact hK
theorem w_laws_szPort : SoundC Tryz.prog 144 c_laws_szPort := by
  refine fn_sound tab_ok gam_nil mixed {} (fn := Tryz.f144) Tryz.func144 (by kernel_rfl) (by kernel_rfl) ?_
  rintro ⟨a0, left0, ⟨⟩⟩ K ⟨r, h, hK⟩
  change laws_szPort a0 left0 = some r at h
  unfold laws_szPort at h
  conv => whnf
  refine vIfD h (fun h => ?_) (fun h => ?_)
  · conv => whnf
    cases h
    exact hK
  · conv => whnf
    cases h
    exact hK
theorem w_laws_szTable (q0 : SoundC Tryz.prog 88 c_laws_szInt64S) : SoundC Tryz.prog 271 c_laws_szTable := by
  refine fn_sound tab_ok (gam_cons q0 gam_nil) mixed {} (fn := Tryz.f271) Tryz.func271 (by kernel_rfl) (by kernel_rfl) ?_
  rintro ⟨a0, left0, ⟨⟩⟩ K ⟨r, h, hK⟩
  change laws_szTable a0 left0 = some r at h
  unfold laws_szTable at h
  conv => whnf
  refine vBind h (fun szInt64S0 hb0 h => ?_)
  conv => whnf
  refine vIfD h (fun h => ?_) (fun h => ?_)
  · conv => whnf
    cases h
    exact hK
  · conv => whnf
    refine vBind h (fun szInt64S1 hb1 h => ?_)
    conv => whnf
    refine vIfD h (fun h => ?_) (fun h => ?_)
    · conv => whnf
      cases h
      exact hK
    · conv => whnf
      refine vBind h (fun szInt64S2 hb2 h => ?_)
      conv => whnf
      refine vIfD h (fun h => ?_) (fun h => ?_)
      · conv => whnf
        cases h
        exact hK
      · conv => whnf
        cases h
        exact hK
theorem w_laws_toArc (q0 : SoundC Tryz.prog 256 c_laws_toTableS) : SoundC Tryz.prog 232 c_laws_toArc := by
  refine fn_sound tabD_ok (gam_cons q0 gam_nil) mixed {} (fn := Tryz.f232) Tryz.func232 (by kernel_rfl) (by kernel_rfl) ?_
  rintro ⟨a0, ⟨⟩⟩ K ⟨r, h, hK⟩
  change laws_toArc a0 = some r at h
  unfold laws_toArc at h
  conv => whnf
  refine vBind h (fun toTableS0 hb0 h => ?_)
  conv => whnf
  intro fp1
  conv => whnf
  refine vBind h (fun toTableS1 hb2 h => ?_)
  conv => whnf
  intro fp3
  conv => whnf
  cases h
  exact hK
theorem w_laws_toDesign (q0 : SoundC Tryz.prog 95 c_laws_toInstanceS) (q1 : SoundC Tryz.prog 96 c_laws_toStringS) (q2 : SoundC Tryz.prog 97 c_laws_toPortS) : SoundC Tryz.prog 42 c_laws_toDesign := by
  refine fn_sound tabD_ok (gam_cons q0 (gam_cons q1 (gam_cons q2 gam_nil))) mixed {} (fn := Tryz.f42) Tryz.func42 (by kernel_rfl) (by kernel_rfl) ?_
  rintro ⟨a0, ⟨⟩⟩ K ⟨r, h, hK⟩
  change laws_toDesign a0 = some r at h
  unfold laws_toDesign at h
  conv => whnf
  refine vBind h (fun toInstanceS0 hb0 h => ?_)
  conv => whnf
  intro fp1
  conv => whnf
  refine vBind h (fun toStringS0 hb2 h => ?_)
  conv => whnf
  refine vBind h (fun toPortS0 hb3 h => ?_)
  conv => whnf
  cases h
  exact hK
theorem w_laws_toInstance (q0 : SoundC Tryz.prog 98 c_laws_toInt64S) : SoundC Tryz.prog 155 c_laws_toInstance := by
  refine fn_sound tab_ok (gam_cons q0 gam_nil) mixed {} (fn := Tryz.f155) Tryz.func155 (by kernel_rfl) (by kernel_rfl) ?_
  rintro ⟨a0, ⟨⟩⟩ K ⟨r, h, hK⟩
  change laws_toInstance a0 = some r at h
  unfold laws_toInstance at h
  conv => whnf
  refine vBind h (fun toInt64S0 hb0 h => ?_)
  conv => whnf
  cases h
  exact hK
theorem w_laws_toInstanceS (q0 : SoundC Tryz.prog 155 c_laws_toInstance) : SoundC Tryz.prog 95 c_laws_toInstanceS := by
  refine fn_sound tabD_ok (gam_cons q0 gam_nil) mixed { loops := [(0, [.reg 4 (.dat (.int .i64)), .ent 0 (nat_lit 177) dInstance])] } (fn := Tryz.f95) Tryz.func95 (by kernel_rfl) (by kernel_rfl) ?_
  rintro ⟨a0, ⟨⟩⟩ K ⟨r, h, hK⟩
  change laws_toInstanceS a0 = some r at h
  unfold laws_toInstanceS at h
  conv => whnf
  refine vPre h (fun hp0 h => ?_)
  conv => whnf
  refine vPre h (fun hp1 h => ?_)
  conv => whnf
  refine vPre h (fun hp2 h => ?_)
  conv => whnf
  refine vPre h (fun hp3 h => ?_)
  conv => whnf
  intro fp4
  conv => whnf
  refine vLoop h ?_
  rintro I5 μ5 ⟨i0, l0, ⟨⟩⟩ zs5 h hI5 hR5
  change laws_toInstanceS_loop0 a0 i0 l0 = some zs5 at h
  unfold laws_toInstanceS_loop0 at h
  conv => whnf
  intro fp6
  conv => whnf
  refine vIfD h (fun h => ?_) (fun h => ?_)
  · conv => whnf
    refine vAt h (fun x0 he7a he7b he7x h => ?_)
    conv => whnf
    refine vBind h (fun toInstance0 hb8 h => ?_)
    conv => whnf
    refine vAt h (fun x1 he9a he9b he9x h => ?_)
    conv => whnf
    refine ⟨he9a, he9b, vAgain he9x ?_⟩
    conv => whnf
    intro fp10
    conv => whnf
    cases h
    exact ⟨⟨rfl, rfl⟩, hI5 _ rfl⟩
  · conv => whnf
    cases h
    obtain rfl := hR5 _ rfl
    exact hK
theorem w_laws_toLibrary (q0 : SoundC Tryz.prog 94 c_laws_toCellS) : SoundC Tryz.prog 41 c_laws_toLibrary := by
  refine fn_sound tabD_ok (gam_cons q0 gam_nil) mixed {} (fn := Tryz.f41) Tryz.func41 (by kernel_rfl) (by kernel_rfl) ?_
  rintro ⟨a0, ⟨⟩⟩ K ⟨r, h, hK⟩
  change laws_toLibrary a0 = some r at h
  unfold laws_toLibrary at h
  conv => whnf
  refine vBind h (fun toCellS0 hb0 h => ?_)
  conv => whnf
  intro fp1
  conv => whnf
  cases h
  exact hK
theorem w_laws_toPortS (q0 : SoundC Tryz.prog 156 c_laws_toPort) : SoundC Tryz.prog 97 c_laws_toPortS := by
  refine fn_sound tab_ok (gam_cons q0 gam_nil) mixed { loops := [(0, [.reg 4 (.dat (.int .i64)), .ent 0 (nat_lit 256) (.flat ti46.ety)])] } (fn := Tryz.f97) Tryz.func97 (by kernel_rfl) (by kernel_rfl) ?_
  rintro ⟨a0, ⟨⟩⟩ K ⟨r, h, hK⟩
  change laws_toPortS a0 = some r at h
  unfold laws_toPortS at h
  conv => whnf
  refine vPre h (fun hp0 h => ?_)
  conv => whnf
  refine vPre h (fun hp1 h => ?_)
  conv => whnf
  refine vPre h (fun hp2 h => ?_)
  conv => whnf
  refine vPre h (fun hp3 h => ?_)
  conv => whnf
  refine vLoop h ?_
  rintro I4 μ4 ⟨i0, l0, ⟨⟩⟩ zs4 h hI4 hR4
  change laws_toPortS_loop0 a0 i0 l0 = some zs4 at h
  unfold laws_toPortS_loop0 at h
  conv => whnf
  refine vIfD h (fun h => ?_) (fun h => ?_)
  · conv => whnf
    refine vAt h (fun x0 he5a he5b he5x h => ?_)
    conv => whnf
    refine vBind h (fun toPort0 hb6 h => ?_)
    conv => whnf
    refine vAt h (fun x1 he7a he7b he7x h => ?_)
    conv => whnf
    refine ⟨by kernel_rfl, ?_⟩
    conv => whnf
    refine ⟨by decide, ?_⟩
    conv => whnf
    refine ⟨he7a, he7b, vAgain he7x ?_⟩
    conv => whnf
    cases h
    exact ⟨⟨rfl, rfl⟩, hI4 _ rfl⟩
  · conv => whnf
    cases h
    obtain rfl := hR4 _ rfl
    exact hK
theorem w_laws_toWireS (q0 : SoundC Tryz.prog 44 c_laws_toWire) : SoundC Tryz.prog 43 c_laws_toWireS := by
  refine fn_sound tabD_ok (gam_cons q0 gam_nil) mixed { loops := [(0, [.reg 4 (.dat (.int .i64)), .ent 0 (nat_lit 53) dWire])] } (fn := Tryz.f43) Tryz.func43 (by kernel_rfl) (by kernel_rfl) ?_
  rintro ⟨a0, ⟨⟩⟩ K ⟨r, h, hK⟩
  change laws_toWireS a0 = some r at h
  unfold laws_toWireS at h
  conv => whnf
  refine vPre h (fun hp0 h => ?_)
  conv => whnf
  refine vPre h (fun hp1 h => ?_)
  conv => whnf
  refine vPre h (fun hp2 h => ?_)
  conv => whnf
  refine vPre h (fun hp3 h => ?_)
  conv => whnf
  intro fp4
  conv => whnf
  refine vLoop h ?_
  rintro I5 μ5 ⟨i0, l0, ⟨⟩⟩ zs5 h hI5 hR5
  change laws_toWireS_loop0 a0 i0 l0 = some zs5 at h
  unfold laws_toWireS_loop0 at h
  conv => whnf
  intro fp6
  conv => whnf
  refine vIfD h (fun h => ?_) (fun h => ?_)
  · conv => whnf
    refine vAt h (fun x0 he7a he7b he7x h => ?_)
    conv => whnf
    refine vBind h (fun toWire0 hb8 h => ?_)
    conv => whnf
    refine vAt h (fun x1 he9a he9b he9x h => ?_)
    conv => whnf
    refine ⟨he9a, he9b, vAgain he9x ?_⟩
    conv => whnf
    intro fp10
    conv => whnf
    cases h
    exact ⟨⟨rfl, rfl⟩, hI5 _ rfl⟩
  · conv => whnf
    cases h
    obtain rfl := hR5 _ rfl
    exact hK
theorem w_slices_ContainsFunc_Sint_int_at_impl_IsDesign_c1 (q0 : SoundC Tryz.prog 237 c_slices_IndexFunc_Sint_int_at_impl_IsDesign_c1) : SoundC Tryz.prog 202 c_slices_ContainsFunc_Sint_int_at_impl_IsDesign_c1 := by
  refine fn_sound tab_ok (gam_cons q0 gam_nil) mixed {} (fn := Tryz.f202) Tryz.func202 (by kernel_rfl) (by kernel_rfl) ?_
  rintro ⟨s0, f0, ⟨⟩⟩ K ⟨r, h, hK⟩
  change slices_ContainsFunc_Sint_int_at_impl_IsDesign_c1 s0 f0 = some r at h
  unfold slices_ContainsFunc_Sint_int_at_impl_IsDesign_c1 at h
  conv => whnf
  refine vBind h (fun c1_0 hb0 h => ?_)
  conv => whnf
  cases h
  exact hK
theorem w_slices_IndexFunc_Sint_int_at_impl_IsDesign_c1 (q0 : SoundC Tryz.prog 203 c_impl_IsDesign_c1) : SoundC Tryz.prog 237 c_slices_IndexFunc_Sint_int_at_impl_IsDesign_c1 := by
  refine fn_sound tab_ok (gam_cons q0 gam_nil) mixed { loops := [(0, [.reg 8 (.dat (.int .i64))])] } (fn := Tryz.f237) Tryz.func237 (by kernel_rfl) (by kernel_rfl) ?_
  rintro ⟨s0, f0, ⟨⟩⟩ K ⟨r, h, hK⟩
  change slices_IndexFunc_Sint_int_at_impl_IsDesign_c1 s0 f0 = some r at h
  unfold slices_IndexFunc_Sint_int_at_impl_IsDesign_c1 at h
  conv => whnf
  refine vLoop h ?_
  rintro I0 μ0 ⟨v0, ⟨⟩⟩ zs0 h hI0 hR0
  change slices_IndexFunc_Sint_int_at_impl_IsDesign_c1_loop0 s0 v0 = some zs0 at h
  unfold slices_IndexFunc_Sint_int_at_impl_IsDesign_c1_loop0 at h
  conv => whnf
  refine vIfD h (fun h => ?_) (fun h => ?_)
  · conv => whnf
    refine vAt h (fun x0 he1a he1b he1x h => ?_)
    conv => whnf
    refine vBind h (fun c1_0 hb2 h => ?_)
    conv => whnf
    refine vIfB h (fun h => ?_) (fun h => ?_)
    · conv => whnf
      cases h
      obtain rfl := hR0 _ rfl
      exact hK
    · conv => whnf
      cases h
      exact ⟨⟨rfl, rfl⟩, hI0 _ rfl⟩
  · conv => whnf
    cases h
    obtain rfl := hR0 _ rfl
    exact hK
theorem w_spec_IsLibrary (q0 : SoundC Tryz.prog 230 c_spec_IsCell) : SoundC Tryz.prog 191 c_spec_IsLibrary := by
  refine fn_sound tab_ok (gam_cons q0 gam_nil) mixed { loops := [(0, [.reg 3 (.dat (.int .i64))]), (2, [.reg 4 (.dat (.int .i64))])], draws := [(9, [0, 1, 0, 7, 15, 31, 0, 64, 0, 448, 960, 1984, 4095], .op 0 (.op 1 (.op 2 (.op 3 (.op 4 (.op 5 (.op 6 (.op 7 (.op 8 (.op 9 (.op 10 (.op 11 (.op 12 (.done))))))))))))))] } (fn := Tryz.f191) Tryz.func191 (by kernel_rfl) (by kernel_rfl) ?_
  rintro ⟨l0, ⟨⟩⟩ K ⟨r, h, hK⟩
  change spec_IsLibrary l0 = some r at h
  unfold spec_IsLibrary at h
  conv => whnf
  refine vLoop h ?_
  rintro I0 μ0 ⟨i0, ⟨⟩⟩ zs0 h hI0 hR0
  change spec_IsLibrary_loop1 l0 i0 = some zs0 at h
  unfold spec_IsLibrary_loop1 at h
  conv => whnf
  refine vIfD h (fun h => ?_) (fun h => ?_)
  · conv => whnf
    refine vAt h (fun x0 he1a he1b he1x h => ?_)
    conv => whnf
    refine vBind h (fun IsCell0 hb2 h => ?_)
    conv => whnf
    refine vNots ?_
    refine vIfB h (fun h => ?_) (fun h => ?_)
    · conv => whnf
      refine vLoop h ?_
      rintro I3 μ3 ⟨k0, ⟨⟩⟩ zs3 h hI3 hR3
      change spec_IsLibrary_loop0 l0 i0 x0 k0 = some zs3 at h
      unfold spec_IsLibrary_loop0 at h
      conv => whnf
      refine vIfD h (fun h => ?_) (fun h => ?_)
      · conv => whnf
        refine ⟨by kernel_rfl, ?_⟩
        conv => whnf
        refine vAt h (fun x1 he4a he4b he4x h => ?_)
        conv => whnf
        refine ⟨he1a, he1b, vAgain he1x ?_⟩
        conv => whnf
        refine vIfD h (fun h => ?_) (fun h => ?_)
        · conv => whnf
          cases h
          obtain rfl := hR3 _ rfl
          obtain rfl := hR0 _ rfl
          exact hK
        · conv => whnf
          cases h
          exact ⟨⟨rfl, rfl⟩, hI3 _ rfl⟩
      · conv => whnf
        cases h
        obtain rfl := hR3 _ rfl
        exact ⟨⟨rfl, rfl⟩, hI0 _ rfl⟩
    · conv => whnf
      cases h
      obtain rfl := hR0 _ rfl
      exact hK
  · conv => whnf
    cases h
    obtain rfl := hR0 _ rfl
    exact hK
theorem w_spec_l03Arc (q1 : SoundC Tryz.prog 112 c_spec_l01In) (q0 : SoundC Tryz.prog 272 c_spec_l03Tables) : SoundC Tryz.prog 254 c_spec_l03Arc := by
  refine fn_sound tab_ok (gam_cons q1 (gam_cons q0 gam_nil)) mixed {} (fn := Tryz.f254) Tryz.func254 (by kernel_rfl) (by kernel_rfl) ?_
  rintro ⟨a0, a1, ⟨⟩⟩ K ⟨r, h, hK⟩
  change spec_l03Arc a0 a1 = some r at h
  unfold spec_l03Arc at h
  conv => whnf
  refine vBind h (fun l01In0 hb0 h => ?_)
  conv => whnf
  refine vNot ?_
  refine vIfB h (fun h => ?_) (fun h => ?_)
  · conv => whnf
    refine vBind h (fun l01In1 hb1 h => ?_)
    conv => whnf
    refine vNots ?_
    refine vIfB h (fun h => ?_) (fun h => ?_)
    · conv => whnf
      refine vAt h (fun x0 he2a he2b he2x h => ?_)
      conv => whnf
      refine vIfD h (fun h => ?_) (fun h => ?_)
      · conv => whnf
        refine vNots ?_
        refine vIfB h (fun h => ?_) (fun h => ?_)
        · conv => whnf
          cases h
          exact hK
        · conv => whnf
          refine vIfD h (fun h => ?_) (fun h => ?_)
          · conv => whnf
            refine vBind h (fun l01In2 hb3 h => ?_)
            conv => whnf
            refine vIfB h (fun h => ?_) (fun h => ?_)
            · conv => whnf
              refine vBind h (fun l03Tables0 hb4 h => ?_)
              conv => whnf
              refine vIfB h (fun h => ?_) (fun h => ?_)
              · conv => whnf
                refine vBind h (fun l03Tables1 hb5 h => ?_)
                conv => whnf
                cases h
                exact hK
              · conv => whnf
                cases h
                exact hK
            · conv => whnf
              cases h
              exact hK
          · conv => whnf
            cases h
            exact hK
      · conv => whnf
        refine vIfD h (fun h => ?_) (fun h => ?_)
        · conv => whnf
          refine vIfD h (fun h => ?_) (fun h => ?_)
          · conv => whnf
            refine vIfB h (fun h => ?_) (fun h => ?_)
            · conv => whnf
              refine vIfD h (fun h => ?_) (fun h => ?_)
              · conv => whnf
                refine vIfD h (fun h => ?_) (fun h => ?_)
                · conv => whnf
                  refine vBind h (fun l03Tables0 hb6 h => ?_)
                  conv => whnf
                  refine vIfB h (fun h => ?_) (fun h => ?_)
                  · conv => whnf
                    refine vBind h (fun l03Tables1 hb7 h => ?_)
                    conv => whnf
                    cases h
                    exact hK
                  · conv => whnf
                    cases h
                    exact hK
                · conv => whnf
                  cases h
                  exact hK
              · conv => whnf
                cases h
                exact hK
            · conv => whnf
              cases h
              exact hK
          · conv => whnf
            refine vIfD h (fun h => ?_) (fun h => ?_)
            · conv => whnf
              refine vIfD h (fun h => ?_) (fun h => ?_)
              · conv => whnf
                refine vIfB h (fun h => ?_) (fun h => ?_)
                · conv => whnf
                  refine vIfD h (fun h => ?_) (fun h => ?_)
                  · conv => whnf
                    refine vAt h (fun x1 he8a he8b he8x h => ?_)
                    conv => whnf
                    refine vNots ?_
                    refine vIfB h (fun h => ?_) (fun h => ?_)
                    · conv => whnf
                      cases h
                      exact hK
                    · conv => whnf
                      refine vIfD h (fun h => ?_) (fun h => ?_)
                      · conv => whnf
                        refine vBind h (fun l03Tables0 hb9 h => ?_)
                        conv => whnf
                        refine vIfB h (fun h => ?_) (fun h => ?_)
                        · conv => whnf
                          cases h
                          exact hK
                        · conv => whnf
                          cases h
                          exact hK
                      · conv => whnf
                        cases h
                        exact hK
                  · conv => whnf
                    cases h
                    exact hK
                · conv => whnf
                  cases h
                  exact hK
              · conv => whnf
                cases h
                exact hK
            · conv => whnf
              refine vIfD h (fun h => ?_) (fun h => ?_)
              · conv => whnf
                refine vIfB h (fun h => ?_) (fun h => ?_)
                · conv => whnf
                  refine vIfD h (fun h => ?_) (fun h => ?_)
                  · conv => whnf
                    refine vAt h (fun x1 he10a he10b he10x h => ?_)
                    conv => whnf
                    refine vNots ?_
                    refine vIfB h (fun h => ?_) (fun h => ?_)
                    · conv => whnf
                      cases h
                      exact hK
                    · conv => whnf
                      refine vIfD h (fun h => ?_) (fun h => ?_)
                      · conv => whnf
                        refine vBind h (fun l03Tables0 hb11 h => ?_)
                        conv => whnf
                        refine vIfB h (fun h => ?_) (fun h => ?_)
                        · conv => whnf
                          cases h
                          exact hK
                        · conv => whnf
                          cases h
                          exact hK
                      · conv => whnf
                        cases h
                        exact hK
                  · conv => whnf
                    cases h
                    exact hK
                · conv => whnf
                  cases h
                  exact hK
              · conv => whnf
                cases h
                exact hK
        · conv => whnf
          refine vIfD h (fun h => ?_) (fun h => ?_)
          · conv => whnf
            refine vIfB h (fun h => ?_) (fun h => ?_)
            · conv => whnf
              refine vIfD h (fun h => ?_) (fun h => ?_)
              · conv => whnf
                refine vIfD h (fun h => ?_) (fun h => ?_)
                · conv => whnf
                  refine vBind h (fun l03Tables0 hb12 h => ?_)
                  conv => whnf
                  refine vIfB h (fun h => ?_) (fun h => ?_)
                  · conv => whnf
                    refine vBind h (fun l03Tables1 hb13 h => ?_)
                    conv => whnf
                    cases h
                    exact hK
                  · conv => whnf
                    cases h
                    exact hK
                · conv => whnf
                  cases h
                  exact hK
              · conv => whnf
                cases h
                exact hK
            · conv => whnf
              cases h
              exact hK
          · conv => whnf
            refine vIfD h (fun h => ?_) (fun h => ?_)
            · conv => whnf
              refine vIfD h (fun h => ?_) (fun h => ?_)
              · conv => whnf
                refine vIfB h (fun h => ?_) (fun h => ?_)
                · conv => whnf
                  refine vIfD h (fun h => ?_) (fun h => ?_)
                  · conv => whnf
                    refine vAt h (fun x1 he14a he14b he14x h => ?_)
                    conv => whnf
                    refine vNots ?_
                    refine vIfB h (fun h => ?_) (fun h => ?_)
                    · conv => whnf
                      cases h
                      exact hK
                    · conv => whnf
                      refine vIfD h (fun h => ?_) (fun h => ?_)
                      · conv => whnf
                        refine vBind h (fun l03Tables0 hb15 h => ?_)
                        conv => whnf
                        refine vIfB h (fun h => ?_) (fun h => ?_)
                        · conv => whnf
                          cases h
                          exact hK
                        · conv => whnf
                          cases h
                          exact hK
                      · conv => whnf
                        cases h
                        exact hK
                  · conv => whnf
                    cases h
                    exact hK
                · conv => whnf
                  cases h
                  exact hK
              · conv => whnf
                cases h
                exact hK
            · conv => whnf
              refine vIfD h (fun h => ?_) (fun h => ?_)
              · conv => whnf
                refine vIfB h (fun h => ?_) (fun h => ?_)
                · conv => whnf
                  refine vIfD h (fun h => ?_) (fun h => ?_)
                  · conv => whnf
                    refine vAt h (fun x1 he16a he16b he16x h => ?_)
                    conv => whnf
                    refine vNots ?_
                    refine vIfB h (fun h => ?_) (fun h => ?_)
                    · conv => whnf
                      cases h
                      exact hK
                    · conv => whnf
                      refine vIfD h (fun h => ?_) (fun h => ?_)
                      · conv => whnf
                        refine vBind h (fun l03Tables0 hb17 h => ?_)
                        conv => whnf
                        refine vIfB h (fun h => ?_) (fun h => ?_)
                        · conv => whnf
                          cases h
                          exact hK
                        · conv => whnf
                          cases h
                          exact hK
                      · conv => whnf
                        cases h
                        exact hK
                  · conv => whnf
                    cases h
                    exact hK
                · conv => whnf
                  cases h
                  exact hK
              · conv => whnf
                cases h
                exact hK
    · conv => whnf
      cases h
      exact hK
  · conv => whnf
    cases h
    exact hK
theorem w_spec_l05Parts (q0 : SoundC Tryz.prog 112 c_spec_l01In) : SoundC Tryz.prog 192 c_spec_l05Parts := by
  refine fn_sound tab_ok (gam_cons q0 gam_nil) mixed { loops := [(0, [.reg 6 (.dat (.int .i64))]), (2, [.reg 8 (.dat (.int .i64))]), (4, [.reg 9 (.dat (.int .i64))])], draws := [(6, [0, 1, 0, 4, 12, 28, 63, 127, 255, 511, 1023, 2047, 511, 4607, 511, 16895, 61951, 127487, 258559, 520703, 1048575, 2097151], .op 0 (.op 1 (.op 2 (.op 3 (.op 4 (.op 5 (.alt 6 (.op 7 (.op 8 (.op 9 (.op 10 (.op 11 (.op 12 (.op 13 (.op 14 (.op 15 (.op 16 (.op 17 (.op 18 (.op 19 (.op 20 (.op 21 (.done)))))))))))))))) (.done))))))))] } (fn := Tryz.f192) Tryz.func192 (by kernel_rfl) (by kernel_rfl) ?_
  rintro ⟨a0, a1, ⟨⟩⟩ K ⟨r, h, hK⟩
  change spec_l05Parts a0 a1 = some r at h
  unfold spec_l05Parts at h
  conv => whnf
  refine vLoop h ?_
  rintro I0 μ0 ⟨v0, ⟨⟩⟩ zs0 h hI0 hR0
  change spec_l05Parts_loop2 a0 a1 v0 = some zs0 at h
  unfold spec_l05Parts_loop2 at h
  conv => whnf
  refine vIfD h (fun h => ?_) (fun h => ?_)
  · conv => whnf
    refine vAt h (fun x0 he1a he1b he1x h => ?_)
    conv => whnf
    refine ⟨by kernel_rfl, ?_⟩
    conv => whnf
    refine vBind h (fun l01In0 hb2 h => ?_)
    conv => whnf
    refine vNot ?_
    refine vIfB h (fun h => ?_) (fun h => ?_)
    · conv => whnf
      refine vAt h (fun x1 he3a he3b he3x h => ?_)
      conv => whnf
      refine vNots ?_
      refine vIfD h (fun h => ?_) (fun h => ?_)
      · conv => whnf
        refine vLoop h ?_
        rintro I4 μ4 ⟨v1, ⟨⟩⟩ zs4 h hI4 hR4
        change spec_l05Parts_loop0 a1 v0 x0 v1 = some zs4 at h
        unfold spec_l05Parts_loop0 at h
        conv => whnf
        refine vIfD h (fun h => ?_) (fun h => ?_)
        · conv => whnf
          refine vAt h (fun x2 he5a he5b he5x h => ?_)
          conv => whnf
          refine vBind h (fun l01In1 hb6 h => ?_)
          conv => whnf
          refine vNots ?_
          refine vIfB h (fun h => ?_) (fun h => ?_)
          · conv => whnf
            cases h
            exact ⟨⟨rfl, rfl⟩, hI4 _ rfl⟩
          · conv => whnf
            cases h
            obtain rfl := hR4 _ rfl
            obtain rfl := hR0 _ rfl
            exact hK
        · conv => whnf
          cases h
          obtain rfl := hR4 _ rfl
          exact ⟨⟨rfl, rfl⟩, hI0 _ rfl⟩
      · conv => whnf
        cases h
        obtain rfl := hR0 _ rfl
        exact hK
    · conv => whnf
      cases h
      obtain rfl := hR0 _ rfl
      exact hK
  · conv => whnf
    refine vLoop h ?_
    rintro I7 μ7 ⟨v1, ⟨⟩⟩ zs7 h hI7 hR7
    change spec_l05Parts_loop1 a1 v1 = some zs7 at h
    unfold spec_l05Parts_loop1 at h
    conv => whnf
    refine vIfD h (fun h => ?_) (fun h => ?_)
    · conv => whnf
      refine vAt h (fun x0 he8a he8b he8x h => ?_)
      conv => whnf
      refine vBind h (fun l01In0 hb9 h => ?_)
      conv => whnf
      refine vNot ?_
      refine vIfB h (fun h => ?_) (fun h => ?_)
      · conv => whnf
        refine ⟨he8a, he8b, vAgain he8x ?_⟩
        conv => whnf
        refine vBind h (fun l01In1 hb10 h => ?_)
        conv => whnf
        refine vNots ?_
        refine vIfB h (fun h => ?_) (fun h => ?_)
        · conv => whnf
          cases h
          exact ⟨⟨rfl, rfl⟩, hI7 _ rfl⟩
        · conv => whnf
          cases h
          obtain rfl := hR7 _ rfl
          obtain rfl := hR0 _ rfl
          exact hK
      · conv => whnf
        cases h
        obtain rfl := hR7 _ rfl
        obtain rfl := hR0 _ rfl
        exact hK
    · conv => whnf
      cases h
      obtain rfl := hR7 _ rfl
      obtain rfl := hR0 _ rfl
      exact hK
theorem w_spec_l08State (q1 : SoundC Tryz.prog 93 c_spec_l05Places) (q3 : SoundC Tryz.prog 148 c_spec_l08Alike) (q2 : SoundC Tryz.prog 149 c_spec_l08Buffer) (q6 : SoundC Tryz.prog 150 c_spec_l03Name) (q0 : SoundC Tryz.prog 151 c_spec_InstanceNamed) (q4 : SoundC Tryz.prog 152 c_spec_NetNamed) (q7 : SoundC Tryz.prog 153 c_spec_l08Last) (q5 : SoundC Tryz.prog 147 c_spec_l05Sinks) (q8 : SoundC Tryz.prog 146 c_spec_IsWire) : SoundC Tryz.prog 92 c_spec_l08State := by
  refine fn_sound tab_ok (gam_cons q1 (gam_cons q3 (gam_cons q2 (gam_cons q6 (gam_cons q0 (gam_cons q4 (gam_cons q7 (gam_cons q5 (gam_cons q8 gam_nil))))))))) mixed { draws := [(5, [0, 1, 3, 7, 15, 31, 63, 127, 255, 511, 1023, 255, 2303, 6399, 255, 16639, 63743, 129279, 260351, 524287, 1048575, 255, 2097407, 6291711, 255, 16777471, 65011967, 132120831, 268435455, 536870911, 1073741823], .op 0 (.op 1 (.op 2 (.op 3 (.op 4 (.op 5 (.op 6 (.op 7 (.op 8 (.op 9 (.op 10 (.op 11 (.op 12 (.op 13 (.op 14 (.op 15 (.op 16 (.op 17 (.op 18 (.op 19 (.op 20 (.op 21 (.op 22 (.op 23 (.op 24 (.op 25 (.op 26 (.op 27 (.alt 28 (.op 29 (.op 30 (.done))) (.done)))))))))))))))))))))))))))))), (11, [0, 0, 2, 7, 15, 31, 63, 127, 255, 255, 767, 2047, 4095, 8191, 255, 16639, 65535, 131071, 262143], .op 0 (.op 1 (.op 2 (.op 3 (.op 4 (.op 5 (.op 6 (.op 7 (.op 8 (.op 9 (.op 10 (.op 11 (.op 12 (.op 13 (.op 14 (.op 15 (.op 16 (.op 17 (.op 18 (.done)))))))))))))))))))), (12, [0, 1, 0, 4, 0, 16, 60, 124, 255, 511], .op 0 (.op 1 (.op 2 (.op 3 (.op 4 (.op 5 (.alt 6 (.op 7 (.alt 8 (.op 9 (.done)) (.done))) (.done))))))))] } (fn := Tryz.f92) Tryz.func92 (by kernel_rfl) (by kernel_rfl) ?_
  rintro ⟨a0, a1, ⟨⟩⟩ K ⟨r, h, hK⟩
  change spec_l08State a0 a1 = some r at h
  unfold spec_l08State at h
  conv => whnf
  refine vBind h (fun l05Places0 hb0 h => ?_)
  conv => whnf
  refine vIfD h (fun h => ?_) (fun h => ?_)
  · conv => whnf
    refine vAt h (fun x0 he1a he1b he1x h => ?_)
    conv => whnf
    refine ⟨by kernel_rfl, ?_⟩
    conv => whnf
    refine ⟨he1a, he1b, vAgain he1x ?_⟩
    conv => whnf
    refine ⟨by kernel_rfl, ?_⟩
    conv => whnf
    refine vIfD h (fun h => ?_) (fun h => ?_)
    · conv => whnf
      refine vIfB h (fun h => ?_) (fun h => ?_)
      · conv => whnf
        refine vAt h (fun x1 he2a he2b he2x h => ?_)
        conv => whnf
        refine vAt h (fun x2 he3a he3b he3x h => ?_)
        conv => whnf
        refine vAt h (fun x3 he4a he4b he4x h => ?_)
        conv => whnf
        refine vBind h (fun l08Alike0 hb5 h => ?_)
        conv => whnf
        cases h
        exact hK
      · conv => whnf
        cases h
        exact hK
    · conv => whnf
      cases h
      exact hK
  · conv => whnf
    refine vIfD h (fun h => ?_) (fun h => ?_)
    · conv => whnf
      refine vAt h (fun x0 he6a he6b he6x h => ?_)
      conv => whnf
      refine ⟨by kernel_rfl, ?_⟩
      conv => whnf
      refine ⟨he6a, he6b, vAgain he6x ?_⟩
      conv => whnf
      refine vNots ?_
      refine vIfB h (fun h => ?_) (fun h => ?_)
      · conv => whnf
        cases h
        exact hK
      · conv => whnf
        refine vAt h (fun x1 he7a he7b he7x h => ?_)
        conv => whnf
        refine vBind h (fun l08Buffer0 hb8 h => ?_)
        conv => whnf
        refine vIfB h (fun h => ?_) (fun h => ?_)
        · conv => whnf
          refine vBind h (fun l03Name0 hb9 h => ?_)
          conv => whnf
          refine vIfB h (fun h => ?_) (fun h => ?_)
          · conv => whnf
            refine vBind h (fun InstanceNamed0 hb10 h => ?_)
            conv => whnf
            refine vIfD h (fun h => ?_) (fun h => ?_)
            · conv => whnf
              refine vBind h (fun NetNamed0 hb11 h => ?_)
              conv => whnf
              cases h
              exact hK
            · conv => whnf
              cases h
              exact hK
          · conv => whnf
            cases h
            exact hK
        · conv => whnf
          cases h
          exact hK
    · conv => whnf
      refine vIfD h (fun h => ?_) (fun h => ?_)
      · conv => whnf
        refine vBind h (fun l08Last0 hb12 h => ?_)
        conv => whnf
        cases h
        exact hK
      · conv => whnf
        refine vIfD h (fun h => ?_) (fun h => ?_)
        · conv => whnf
          refine ⟨by kernel_rfl, ?_⟩
          conv => whnf
          refine vAt h (fun x0 he13a he13b he13x h => ?_)
          conv => whnf
          refine ⟨by kernel_rfl, ?_⟩
          conv => whnf
          refine ⟨he13a, he13b, vAgain he13x ?_⟩
          conv => whnf
          refine vNots ?_
          refine vIfB h (fun h => ?_) (fun h => ?_)
          · conv => whnf
            cases h
            exact hK
          · conv => whnf
            refine ⟨he13a, he13b, vAgain he13x ?_⟩
            conv => whnf
            refine ⟨by kernel_rfl, ?_⟩
            conv => whnf
            refine ⟨he13a, he13b, vAgain he13x ?_⟩
            conv => whnf
            cases h
            exact hK
        · conv => whnf
          refine ⟨by kernel_rfl, ?_⟩
          conv => whnf
          refine vBind h (fun l05Sinks0 hb14 h => ?_)
          conv => whnf
          refine vBind h (fun IsWire0 hb15 h => ?_)
          conv => whnf
          cases h
          exact hK
end Go.Proofs.YtaccffcigblceaaGreatDoor
