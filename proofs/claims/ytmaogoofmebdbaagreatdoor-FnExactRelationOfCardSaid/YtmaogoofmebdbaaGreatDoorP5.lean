/-
  Plain laws: the program's RelationOf is the reference's.
-/
import Derived.Test.YtmaogoofmebdbaaGreatDoorP4
import Derived.Test.YtmaogoofmebdbaaGreatDoorPSz
namespace Go.Proofs.YtmaogoofmebdbaaGreatDoor
set_option linter.unusedVariables false
set_option linter.unusedSimpArgs false
open Go Go.Sx

def relOf (l : List TClock) (a b su ho : Int) : TRelation := (su, ho, max (TClock.Uncertainty (l[a.toNat]?.getD default)) (TClock.Uncertainty (l[b.toNat]?.getD default)), ())
def rel0 : TRelation := (0, 0, 0, ())

/-- what RelationOf answers -/
noncomputable def relationOf (l : List TClock) (a b : Int) : TRelation × Int :=
  (if relCode l a 0 b 0 = 0 then relOf l a b (setupOf l a 0 b 0) (holdOf l a 0 b 0) else rel0, relCode l a 0 b 0)

theorem impl_RelationOf_eq (s : TSetup) (a b : Int) : impl_RelationOf s a b = some (relationOf (TSetup.Clocks s) a b) := by
  unfold impl_RelationOf relationOf
  rw [impl_edgesOf_eq, Option.bind_some]
  generalize TSetup.Clocks s = l
  simp only
  split
  · rename_i hc
    have h := relOk hc
    obtain ⟨x, hx, hx'⟩ := atI_ex h.a0 h.a1
    obtain ⟨y, hy, hy'⟩ := atI_ex h.b0 h.b1
    rw [hx, Option.bind_some, hy, Option.bind_some, impl_setup_eq h, Option.bind_some, impl_hold_eq h, Option.bind_some, hc]
    simp [relOf, hx', hy']
  · rfl

theorem spec_UncertaintyOf_eq {l : List TClock} {a b : Int} (h : RelOk l a 0 b 0) (hn : pNames l) (hl : l.length ≤ 4611686018427387904) :
    spec_UncertaintyOf l a b = some (max (TClock.Uncertainty (l[a.toNat]?.getD default)) (TClock.Uncertainty (l[b.toNat]?.getD default)), 0) := by
  have hk : ∀ k : Int, 0 ≤ k → k < l.length → codeOf l [k] = 0 := by
    intro k h0 h1
    unfold codeOf
    rw [if_pos (tr_pos h.ok), if_pos]
    simp only [allIn, List.all_cons, List.all_nil, Bool.and_true, within_iff]
    omega
  obtain ⟨x, hx, hx'⟩ := atI_ex h.a0 h.a1
  obtain ⟨y, hy, hy'⟩ := atI_ex h.b0 h.b1
  unfold spec_UncertaintyOf
  rw [spec_l14Code_eq l a hn hl, Option.bind_some, hk a h.a0 h.a1, if_pos rfl, spec_l14Code_eq l b hn hl, Option.bind_some, hk b h.b0 h.b1, if_pos rfl, hx, Option.bind_some, hy, Option.bind_some]
  simp [hx', hy']

theorem spec_RelationOf_eq (s : TSetup) (a b : Int) (hn : pNames (TSetup.Clocks s)) (hl : (TSetup.Clocks s).length ≤ 4611686018427387904) : spec_RelationOf s a b = some (relationOf (TSetup.Clocks s) a b) := by
  unfold spec_RelationOf relationOf
  generalize TSetup.Clocks s = l at *
  rw [spec_setup_eq hn hl, Option.bind_some]
  simp only
  split
  · rename_i hc
    have h := relOk hc
    rw [spec_hold_eq hn hl, Option.bind_some, spec_UncertaintyOf_eq h hn hl, Option.bind_some, hc]
    rfl
  · rfl

theorem eqRelation_self (r : TRelation) : laws_eqRelation r r = some true := by
  unfold laws_eqRelation
  simp

theorem fnExactRelationOf_true (s : TSetup) (a b : Int) (hb : bnd tSetup s) (_ : bnd (.int .i64) a) (_ : bnd (.int .i64) b) : laws_FnExactRelationOf s a b = some true := by
  unfold laws_FnExactRelationOf
  obtain ⟨n, e, _, hs⟩ := laws_szSetup_ok s 1048576 (by omega) (by omega) hb
  rw [e, Option.bind_some]
  split
  · rfl
  · have hs := hs (by omega)
    have hc : sm (.sl tClock) (TSetup.Clocks s) := hs.1
    have hn : pNames (TSetup.Clocks s) := by
      intro c hm
      have h1 : ((TClock.Name c).length : Int) ≤ 1048576 := (hc.2 c hm).1
      omega
    have hl : (TSetup.Clocks s).length ≤ 4611686018427387904 := by have := hc.1; omega
    rw [laws_toSetup_ok _ hs, Option.bind_some, spec_RelationOf_eq s a b hn hl, Option.bind_some, impl_RelationOf_eq, Option.bind_some, eqRelation_self, Option.bind_some, laws_eqSetup_ok _ hs]
    simp

end Go.Proofs.YtmaogoofmebdbaaGreatDoor
