/-
  Plain laws: edits: what an edit may mention, and when it is possible.
-/
import Derived.Test.YtaccffcigblceaaGreatDoorLC
import Derived.Test.YtaccffcigblceaaGreatDoorLA
import Derived.Test.YtaccffcigblceaaGreatDoorLB
namespace Go.Proofs.YtaccffcigblceaaGreatDoor
set_option linter.unusedVariables false
set_option linter.unusedSimpArgs false
open Go Go.Sx
theorem smEdit {e : TEdit} (h : sm tEdit e) : sm .str (TEdit.Name e) ∧ sm tWire (TEdit.Wire e) := ⟨h.2.2.2.2.2.1, h.2.2.2.2.2.2.1⟩
def NoWire (w : TWire) : Prop := TWire.Parent w = [] ∧ TWire.Res w = [] ∧ TWire.Cap w = [] ∧ TWire.Sink w = []
theorem noWire_tr (w : TWire) (hw : sm tWire w) : (some (Decidable.decide (IntKind.i64.wrap (IntKind.i64.wrap (IntKind.i64.wrap ((↑(List.length (TWire.Parent w)) : Int) + (↑(List.length (TWire.Res w)) : Int)) + (↑(List.length (TWire.Cap w)) : Int)) + (↑(List.length (TWire.Sink w)) : Int)) = (0 : Int))) : Option Bool) = some (tr (NoWire w)) := by
  obtain ⟨a1, a2, a3, a4⟩ := smWire hw
  have s1 := small_of_sm a1
  have s2 := small_of_sm a2
  have s3 := small_of_sm a3
  have s4 := small_of_sm a4
  rw [W_in (n := ((TWire.Parent w).length : Int) + ((TWire.Res w).length : Int)) (by omega) (by omega), W_in (n := ((TWire.Parent w).length : Int) + ((TWire.Res w).length : Int) + ((TWire.Cap w).length : Int)) (by omega) (by omega), W_in (by omega) (by omega)]
  refine fin_tr ?_
  rw [decide_eq_true_eq]
  unfold NoWire
  rw [← List.length_eq_zero_iff, ← List.length_eq_zero_iff, ← List.length_eq_zero_iff, ← List.length_eq_zero_iff]
  omega
def Blank (e : TEdit) : Prop :=
  (TEdit.Kind e = 1 ∧ TEdit.Net e = 0 ∧ TEdit.Node e = 0 ∧ TEdit.Name e = [] ∧ NoWire (TEdit.Wire e)) ∨
  (TEdit.Kind e = 2 ∧ TEdit.Net e = 0 ∧ TEdit.Node e = 0 ∧ NoWire (TEdit.Wire e)) ∨
  (TEdit.Kind e = 3 ∧ TEdit.Place e = 0 ∧ TEdit.Cell e = 0 ∧ TEdit.Net e = 0 ∧ TEdit.Node e = 0 ∧ TEdit.Name e = [] ∧ NoWire (TEdit.Wire e)) ∨
  (TEdit.Kind e = 4 ∧ TEdit.Cell e = 0 ∧ TEdit.Name e = [] ∧ NoWire (TEdit.Wire e)) ∨
  (TEdit.Kind e = 5 ∧ TEdit.Place e = 0 ∧ TEdit.Cell e = 0 ∧ TEdit.Node e = 0 ∧ TEdit.Name e = [])
theorem spec_l08Blank_eq (e : TEdit) (he : sm tEdit e) : spec_l08Blank e = some (tr (Blank e)) := by
  have hn := noWire_tr (TEdit.Wire e) (smEdit he).2
  unfold spec_l08Blank
  rw [hn]
  by_cases k1 : TEdit.Kind e = 1
  · rw [if_pos k1]
    refine eq_tr (and_ifP fun _ => and_ifP fun _ => and_ifP fun _ => rfl) ?_
    unfold Blank; grind
  rw [if_neg k1]
  by_cases k2 : TEdit.Kind e = 2
  · rw [if_pos k2]
    refine eq_tr (and_ifP fun _ => and_ifP fun _ => rfl) ?_
    unfold Blank; grind
  rw [if_neg k2]
  by_cases k3 : TEdit.Kind e = 3
  · rw [if_pos k3]
    refine eq_tr (and_ifP fun _ => and_ifP fun _ => and_ifP fun _ => and_ifP fun _ => and_ifP fun _ => rfl) ?_
    unfold Blank; grind
  rw [if_neg k3]
  by_cases k4 : TEdit.Kind e = 4
  · rw [if_pos k4]
    refine eq_tr (and_ifP fun _ => and_ifP fun _ => rfl) ?_
    unfold Blank; grind
  rw [if_neg k4]
  by_cases k5 : TEdit.Kind e = 5
  · rw [if_pos k5]
    refine eq_tr (and_ifP fun _ => and_ifP fun _ => and_ifP fun _ => fin_tr decide_eq_true_iff) ?_
    unfold Blank; grind
  · rw [if_neg k5]
    refine some_false ?_
    unfold Blank; grind
theorem slices_Equal_ints (a b : List Int) (ha : a.length ≤ 1048576) : slices_Equal_Sint64_int64 a b = some (tr (a = b)) := by
  unfold slices_Equal_Sint64_int64
  by_cases hl : (a.length : Int) = (b.length : Int)
  · rw [if_pos hl, loopAll (l := a) (show Len a by unfold Len; omega) (fun k x => b[k]? = some x) (bad := false) (good := true)
      (fun k x hx hk _ => by
        have hy : b[k]? = some b[k] := List.getElem?_eq_getElem (by omega)
        simp only [slices_Equal_Sint64_int64_loop0, show (k : Int) < (a.length : Int) from by omega, if_true, atI_nat, hx, hy, Option.bind_some, Option.some.injEq]
        constructor
        · intro hh; rw [if_pos hh.symm]
        · intro hh; rw [if_neg (fun q => hh q.symm)])
      (fun _ => by simp only [slices_Equal_Sint64_int64_loop0, Int.lt_irrefl, if_false]), sel_tr]
    congr 1
    refine tr_congr ⟨fun h => ?_, fun h => by subst h; exact fun k x hx => hx⟩
    apply List.ext_getElem?
    intro k
    by_cases hk : k < a.length
    · rw [h k a[k] (List.getElem?_eq_getElem hk), List.getElem?_eq_getElem hk]
    · rw [List.getElem?_eq_none (by omega), List.getElem?_eq_none (by omega)]
  · rw [if_neg hl, tr_neg (fun h => hl (by rw [h]))]
def SameW (a b : TWire) : Prop := TWire.Parent a = TWire.Parent b ∧ TWire.Res a = TWire.Res b ∧ TWire.Cap a = TWire.Cap b ∧ TWire.Sink a = TWire.Sink b
theorem impl_sameWire_eq (a b : TWire) (ha : sm tWire a) : impl_sameWire a b = some (tr (SameW a b)) := by
  obtain ⟨a1, a2, a3, a4⟩ := smWire ha
  have s1 := small_of_sm a1
  have s2 := small_of_sm a2
  have s3 := small_of_sm a3
  have s4 := small_of_sm a4
  unfold impl_sameWire
  exact bind_if (slices_Equal_ints _ _ s1) fun _ => bind_if (slices_Equal_ints _ _ s2) fun _ => bind_if (slices_Equal_ints _ _ s3) fun _ => bind_tr (slices_Equal_ints _ _ s4)
theorem impl_sameEdit_eq (a b : TEdit) (ha : sm tEdit a) : impl_sameEdit a b = some (tr (TEdit.Kind a = TEdit.Kind b ∧ TEdit.Place a = TEdit.Place b ∧ TEdit.Cell a = TEdit.Cell b ∧ TEdit.Net a = TEdit.Net b ∧ TEdit.Node a = TEdit.Node b ∧ TEdit.Name a = TEdit.Name b ∧ SameW (TEdit.Wire a) (TEdit.Wire b))) := by
  unfold impl_sameEdit
  exact and_ifP fun _ => and_ifP fun _ => and_ifP fun _ => and_ifP fun _ => and_ifP fun _ => and_ifP fun _ => bind_tr (impl_sameWire_eq _ _ (smEdit ha).2)
theorem own_same (e : TEdit) (he : sm tEdit e) : (impl_within (TEdit.Kind e) 1 5 = some (tr (1 ≤ TEdit.Kind e ∧ TEdit.Kind e ≤ 5))) ∧ ∃ o, impl_Edit_own e = some o ∧ impl_sameEdit e o = some (tr (TEdit.Kind e < 1 ∨ 5 < TEdit.Kind e ∨ Blank e) ) ∨ (¬ (1 ≤ TEdit.Kind e ∧ TEdit.Kind e ≤ 5)) := by
  refine ⟨within_tr _ _ _, ?_⟩
  unfold impl_Edit_own
  by_cases k1 : TEdit.Kind e = 1
  · rw [if_pos k1]
    refine ⟨_, .inl ⟨rfl, ?_⟩⟩
    refine eq_tr (impl_sameEdit_eq e _ he) ?_
    rw [show SameW (TEdit.Wire e) (TEdit.Wire (TEdit.Kind e, TEdit.Place e, TEdit.Cell e, (0 : Int), (0 : Int), ([] : List UInt8), (([] : List Int), ([] : List Int), ([] : List Int), ([] : List Int), ()), ())) ↔ NoWire (TEdit.Wire e) from Iff.rfl]
    unfold Blank
    simp only [k1]
    constructor
    · rintro ⟨_, _, _, a, b, c, d⟩; exact .inr (.inr (.inl ⟨trivial, a, b, c, d⟩))
    · intro h; grind
  rw [if_neg k1]
  by_cases k2 : TEdit.Kind e = 2
  · rw [if_pos k2]
    refine ⟨_, .inl ⟨rfl, ?_⟩⟩
    refine eq_tr (impl_sameEdit_eq e _ he) ?_
    rw [show SameW (TEdit.Wire e) (TEdit.Wire (TEdit.Kind e, TEdit.Place e, TEdit.Cell e, (0 : Int), (0 : Int), TEdit.Name e, (([] : List Int), ([] : List Int), ([] : List Int), ([] : List Int), ()), ())) ↔ NoWire (TEdit.Wire e) from Iff.rfl]
    unfold Blank
    simp only [k2]
    constructor
    · rintro ⟨_, _, _, a, b, c, d⟩; exact .inr (.inr (.inr (.inl ⟨trivial, a, b, d⟩)))
    · intro h; grind
  rw [if_neg k2]
  by_cases k4 : TEdit.Kind e = 4
  · rw [if_pos k4]
    refine ⟨_, .inl ⟨rfl, ?_⟩⟩
    refine eq_tr (impl_sameEdit_eq e _ he) ?_
    rw [show SameW (TEdit.Wire e) (TEdit.Wire (TEdit.Kind e, TEdit.Place e, (0 : Int), TEdit.Net e, TEdit.Node e, ([] : List UInt8), (([] : List Int), ([] : List Int), ([] : List Int), ([] : List Int), ()), ())) ↔ NoWire (TEdit.Wire e) from Iff.rfl]
    unfold Blank
    simp only [k4]
    constructor
    · rintro ⟨_, _, a, _, _, c, d⟩; exact .inr (.inr (.inr (.inr (.inr (.inl ⟨trivial, a, c, d⟩)))))
    · intro h; grind
  rw [if_neg k4]
  by_cases k5 : TEdit.Kind e = 5
  · rw [if_pos k5]
    refine ⟨_, .inl ⟨rfl, ?_⟩⟩
    refine eq_tr (impl_sameEdit_eq e _ he) ?_
    rw [show SameW (TEdit.Wire e) (TEdit.Wire (TEdit.Kind e, (0 : Int), (0 : Int), TEdit.Net e, (0 : Int), ([] : List UInt8), e.snd.snd.snd.snd.snd.snd)) ↔ True from ⟨fun _ => trivial, fun _ => ⟨rfl, rfl, rfl, rfl⟩⟩]
    unfold Blank
    simp only [k5]
    constructor
    · rintro ⟨_, a, b, _, c, d, _⟩; exact .inr (.inr (.inr (.inr (.inr (.inr ⟨trivial, a, b, c, d⟩)))))
    · intro h; grind
  rw [if_neg k5]
  by_cases k3 : TEdit.Kind e = 3
  · refine ⟨_, .inl ⟨rfl, ?_⟩⟩
    refine eq_tr (impl_sameEdit_eq e _ he) ?_
    rw [show SameW (TEdit.Wire e) (TEdit.Wire (TEdit.Kind e, (0 : Int), (0 : Int), (0 : Int), (0 : Int), ([] : List UInt8), (([] : List Int), ([] : List Int), ([] : List Int), ([] : List Int), ()), ())) ↔ NoWire (TEdit.Wire e) from Iff.rfl]
    unfold Blank
    simp only [k3]
    constructor
    · rintro ⟨_, a, b, c, d, f, g⟩; exact .inr (.inr (.inr (.inr (.inl ⟨trivial, a, b, c, d, f, g⟩))))
    · intro h; grind
  · exact ⟨e, .inr (by omega)⟩
end Go.Proofs.YtaccffcigblceaaGreatDoor
/-
  Plain laws: edits: range, possibility, code.
-/
namespace Go.Proofs.YtaccffcigblceaaGreatDoor
set_option linter.unusedVariables false
set_option linter.unusedSimpArgs false
open Go Go.Sx
def RangeOk (b : TBlock) (e : TEdit) : Prop :=
  ((TEdit.Kind e = 1 ∨ TEdit.Kind e = 2) → (0 ≤ TEdit.Place e ∧ TEdit.Place e ≤ ((places (TBlock.Design b)).length : Int) - 1) ∧ (0 ≤ TEdit.Cell e ∧ TEdit.Cell e ≤ ((TLibrary.Cells (TBlock.Library b)).length : Int) - 1)) ∧
  (TEdit.Kind e = 4 → (0 ≤ TEdit.Place e ∧ TEdit.Place e ≤ ((places (TBlock.Design b)).length : Int) - 1) ∧ IsNet (TBlock.Design b) (TEdit.Net e) ∧ ∃ w, (TBlock.Wires b)[(TEdit.Net e).toNat]? = some w ∧ (0 ≤ TEdit.Node e ∧ TEdit.Node e ≤ ((TWire.Parent w).length : Int) - 1)) ∧
  (TEdit.Kind e = 5 → IsNet (TBlock.Design b) (TEdit.Net e))
theorem wire_at {b : TBlock} (h : BlkSm b) {n : Int} (hn : IsNet (TBlock.Design b) n) : ∃ w, (TBlock.Wires b)[n.toNat]? = some w ∧ atI (TBlock.Wires b) n = some w ∧ WireOk w ((sinks (TBlock.Design b) n).length : Int) := by
  have hwn := h.ok.2.1
  have hlt : n.toNat < (TBlock.Wires b).length := by have := hn.1; have := hn.2; omega
  have hw := List.getElem?_eq_getElem hlt
  refine ⟨_, hw, atI_some hn.1 hw, ?_⟩
  have this : WireOk _ ((sinks (TBlock.Design b) ((n.toNat : Nat) : Int)).length : Int) := h.ok.2.2 n.toNat _ hw
  rwa [show ((n.toNat : Nat) : Int) = n by have := hn.1; omega] at this
theorem cells_small {b : TBlock} (h : BlkSm b) : (TLibrary.Cells (TBlock.Library b)).length ≤ 1048576 := small_of_sm (smLib (smBlock h.sm).1)
theorem node_tr {b : TBlock} (h : BlkSm b) (e : TEdit) {w : TWire} (hw : (TBlock.Wires b)[(TEdit.Net e).toNat]? = some w) : IntKind.i64.wrap (((TWire.Parent w).length : Int) - 1) = ((TWire.Parent w).length : Int) - 1 := by
  have := h.ok.2.2 _ _ hw
  have h1 := this.1
  rw [W_in (by omega) (by omega)]
theorem spec_l08Range_eq {b : TBlock} (h : BlkSm b) (e : TEdit) (he : sm tEdit e) : spec_l08Range b e = some (tr (RangeOk b e)) := by
  have hD := h.ok.1
  have hf := hD.few
  have hpl := places_len hf
  have hc := cells_small h
  have hwn := h.ok.2.1
  have h30 := hD.2.1.2.1
  have e1 : IntKind.i64.wrap (((places (TBlock.Design b)).length : Int) - 1) = ((places (TBlock.Design b)).length : Int) - 1 := W_in (by omega) (by omega)
  have e2 : IntKind.i64.wrap (((TLibrary.Cells (TBlock.Library b)).length : Int) - 1) = ((TLibrary.Cells (TBlock.Library b)).length : Int) - 1 := W_in (by omega) (by omega)
  have e3 : IntKind.i64.wrap (((TBlock.Wires b).length : Int) - 1) = ((TDesign.Nets (TBlock.Design b)).length : Int) - 1 := by rw [W_in (by omega) (by omega)]; omega
  have net : (spec_l01In (TEdit.Net e) 0 (((TDesign.Nets (TBlock.Design b)).length : Int) - 1)) = some (tr (IsNet (TBlock.Design b) (TEdit.Net e))) := l01In_tr _ _ _
  unfold spec_l08Range
  rw [spec_l05Places_eq _ hf, Option.bind_some, e1, e2, e3]
  have pc : ((spec_l01In (TEdit.Place e) 0 (((places (TBlock.Design b)).length : Int) - 1)).bind fun x => if x = true then (spec_l01In (TEdit.Cell e) 0 (((TLibrary.Cells (TBlock.Library b)).length : Int) - 1)).bind fun y => some y else some false) =
      some (tr ((0 ≤ TEdit.Place e ∧ TEdit.Place e ≤ ((places (TBlock.Design b)).length : Int) - 1) ∧ (0 ≤ TEdit.Cell e ∧ TEdit.Cell e ≤ ((TLibrary.Cells (TBlock.Library b)).length : Int) - 1))) :=
    bind_if (l01In_tr _ _ _) fun _ => bind_tr (l01In_tr _ _ _)
  have mv : ((spec_l01In (TEdit.Place e) 0 (((places (TBlock.Design b)).length : Int) - 1)).bind fun x => if x = true then (spec_l01In (TEdit.Net e) 0 (((TDesign.Nets (TBlock.Design b)).length : Int) - 1)).bind fun y => if y = true then
        (atI (TBlock.Wires b) (TEdit.Net e)).bind fun w => (spec_l01In (TEdit.Node e) 0 (IntKind.i64.wrap (((TWire.Parent w).length : Int) - 1))).bind fun z => some z else some false else some false) =
      some (tr ((0 ≤ TEdit.Place e ∧ TEdit.Place e ≤ ((places (TBlock.Design b)).length : Int) - 1) ∧ IsNet (TBlock.Design b) (TEdit.Net e) ∧ ∃ w, (TBlock.Wires b)[(TEdit.Net e).toNat]? = some w ∧ (0 ≤ TEdit.Node e ∧ TEdit.Node e ≤ ((TWire.Parent w).length : Int) - 1))) := by
    refine bind_if (l01In_tr _ _ _) fun _ => bind_if net fun hn => ?_
    obtain ⟨w, hw, ha, _⟩ := wire_at h hn
    rw [ha, Option.bind_some, node_tr h e hw]
    refine eq_tr (bind_tr (l01In_tr _ _ _)) ⟨fun q => ⟨w, hw, q⟩, fun ⟨w', hw', q⟩ => ?_⟩
    rw [hw] at hw'
    injection hw' with hw'
    subst hw'; exact q
  by_cases k1 : TEdit.Kind e = 1
  · rw [if_pos k1, if_pos k1]
    refine eq_tr pc ?_
    unfold RangeOk; grind
  rw [if_neg k1]
  by_cases k2 : TEdit.Kind e = 2
  · rw [if_pos k2]
    refine eq_tr pc ?_
    unfold RangeOk; grind
  rw [if_neg k2]
  by_cases k4 : TEdit.Kind e = 4
  · rw [if_pos k4]
    refine eq_tr mv ?_
    unfold RangeOk; grind
  rw [if_neg k4]
  by_cases k5 : TEdit.Kind e = 5
  · rw [if_pos k5]
    refine eq_tr (bind_tr net) ?_
    unfold RangeOk; grind
  · rw [if_neg k5]
    refine (fin_tr (P := RangeOk b e) ⟨fun _ => ?_, fun _ => rfl⟩)
    unfold RangeOk; grind
theorem impl_isInRange_eq {b : TBlock} (h : BlkSm b) (e : TEdit) (he : sm tEdit e) : impl_Edit_isInRange e b = some (tr (Blank e ∧ RangeOk b e)) := by
  have hD := h.ok.1
  have hf := hD.few
  have hpl := places_len hf
  have hc := cells_small h
  have hsd := (smBlock h.sm).2.1
  have e1 : IntKind.i64.wrap (((places (TBlock.Design b)).length : Int) - 1) = ((places (TBlock.Design b)).length : Int) - 1 := W_in (by omega) (by omega)
  have e2 : IntKind.i64.wrap (((TLibrary.Cells (TBlock.Library b)).length : Int) - 1) = ((TLibrary.Cells (TBlock.Library b)).length : Int) - 1 := W_in (by omega) (by omega)
  obtain ⟨hw, o, ho⟩ := own_same e he
  unfold impl_Edit_isInRange
  rw [hw, Option.bind_some]
  by_cases hk : 1 ≤ TEdit.Kind e ∧ TEdit.Kind e ≤ 5
  · rw [if_pos (tr_pos hk)]
    rcases ho with ⟨ho1, ho2⟩ | ho
    · rw [ho1, Option.bind_some, ho2, Option.bind_some]
      by_cases hB : Blank e
      · rw [if_pos (tr_pos (.inr (.inr hB))), impl_Design_places_eq _ hf, Option.bind_some, show impl_length_impl_place (places (TBlock.Design b)) = some ((places (TBlock.Design b)).length : Int) from rfl, Option.bind_some, e1, within_tr, Option.bind_some,
          show impl_length_impl_Cell (TLibrary.Cells (TBlock.Library b)) = some ((TLibrary.Cells (TBlock.Library b)).length : Int) from rfl]
        simp only [Option.bind_some, e2]
        have net := impl_Design_isNet_eq (TBlock.Design b) (TEdit.Net e) hsd
        have pc : (if tr (0 ≤ TEdit.Place e ∧ TEdit.Place e ≤ ((places (TBlock.Design b)).length : Int) - 1) = true then (impl_within (TEdit.Cell e) 0 (((TLibrary.Cells (TBlock.Library b)).length : Int) - 1)).bind fun y => some y else some false) =
            some (tr ((0 ≤ TEdit.Place e ∧ TEdit.Place e ≤ ((places (TBlock.Design b)).length : Int) - 1) ∧ (0 ≤ TEdit.Cell e ∧ TEdit.Cell e ≤ ((TLibrary.Cells (TBlock.Library b)).length : Int) - 1))) :=
          and_if (bind_tr (within_tr _ _ _))
        by_cases k1 : TEdit.Kind e = 1
        · rw [if_pos k1, if_pos k1]
          refine eq_tr pc ?_
          unfold RangeOk; grind
        rw [if_neg k1]
        by_cases k2 : TEdit.Kind e = 2
        · rw [if_pos k2]
          refine eq_tr pc ?_
          unfold RangeOk; grind
        rw [if_neg k2]
        by_cases k4 : TEdit.Kind e = 4
        · rw [if_pos k4]
          have mv : (if tr (0 ≤ TEdit.Place e ∧ TEdit.Place e ≤ ((places (TBlock.Design b)).length : Int) - 1) = true then (impl_Design_isNet (TBlock.Design b) (TEdit.Net e)).bind fun y => if y = true then
                (atI (TBlock.Wires b) (TEdit.Net e)).bind fun w => (impl_length_int64 (TWire.Parent w)).bind fun n => (impl_within (TEdit.Node e) 0 (IntKind.i64.wrap (n - 1))).bind fun z => some z else some false else some false) =
              some (tr ((0 ≤ TEdit.Place e ∧ TEdit.Place e ≤ ((places (TBlock.Design b)).length : Int) - 1) ∧ IsNet (TBlock.Design b) (TEdit.Net e) ∧ ∃ w, (TBlock.Wires b)[(TEdit.Net e).toNat]? = some w ∧ (0 ≤ TEdit.Node e ∧ TEdit.Node e ≤ ((TWire.Parent w).length : Int) - 1))) := by
            by_cases hp : 0 ≤ TEdit.Place e ∧ TEdit.Place e ≤ ((places (TBlock.Design b)).length : Int) - 1
            · rw [if_pos (tr_pos hp)]
              refine eq_tr (bind_if net fun hn => ?_) (P := IsNet (TBlock.Design b) (TEdit.Net e) ∧ ∃ w, (TBlock.Wires b)[(TEdit.Net e).toNat]? = some w ∧ (0 ≤ TEdit.Node e ∧ TEdit.Node e ≤ ((TWire.Parent w).length : Int) - 1)) ⟨fun q => ⟨hp, q⟩, fun q => q.2⟩
              obtain ⟨w, hw, ha, _⟩ := wire_at h hn
              rw [ha, Option.bind_some, impl_length_int64_eq, Option.bind_some, node_tr h e hw]
              refine eq_tr (bind_tr (within_tr _ _ _)) ⟨fun q => ⟨w, hw, q⟩, fun ⟨w', hw', q⟩ => ?_⟩
              rw [hw] at hw'
              injection hw' with hw'
              subst hw'; exact q
            · rw [if_neg (fun q => hp ((tr_iff _).1 q)), tr_neg (fun q => hp q.1)]
          refine eq_tr mv ?_
          unfold RangeOk; grind
        rw [if_neg k4]
        by_cases k5 : TEdit.Kind e = 5
        · rw [if_pos k5]
          refine eq_tr (bind_tr net) ?_
          unfold RangeOk; grind
        · rw [if_neg k5]
          refine (fin_tr (P := Blank e ∧ RangeOk b e) ⟨fun _ => ⟨hB, ?_⟩, fun _ => rfl⟩)
          unfold RangeOk; grind
      · rw [if_neg (fun q => by rcases (tr_iff _).1 q with q | q | q <;> first | omega | exact hB q), tr_neg (fun q => hB q.1)]
    · exact absurd hk ho
  · rw [if_neg (fun q => hk ((tr_iff _).1 q)), tr_neg (fun q => ?_)]
    have := q.1
    unfold Blank at this
    omega
theorem alike_eq (a b : TCell) (ha : sm tCell a) : impl_fitsSwap a b = spec_l08Alike a b ∧ ∃ r, spec_l08Alike a b = some r := by
  have s1 : (TCell.Pins a).length ≤ 1048576 := by have := (smCell ha).pins.1; omega
  unfold impl_fitsSwap spec_l08Alike slices_EqualFunc_Simpl_Pin_Simpl_Pin_impl_Pin_impl_Pin_at_impl_fitsSwap_c1
  by_cases k : TCell.Kind a = TCell.Kind b
  · rw [if_pos k, if_pos k]
    by_cases hl : ((TCell.Pins a).length : Int) = ((TCell.Pins b).length : Int)
    · rw [if_pos hl, if_pos hl]
      rw [loopAll (l := TCell.Pins a) (show Len _ by unfold Len; omega) (fun k x => ∀ y, (TCell.Pins b)[k]? = some y → (TPin.Clock x == TPin.Clock y) = true) (bad := false) (good := true)
        (step := fun v => slices_EqualFunc_Simpl_Pin_Simpl_Pin_impl_Pin_impl_Pin_at_impl_fitsSwap_c1_loop0 (TCell.Pins a) (TCell.Pins b) v.1)
        (fun k x hx hk _ => by
          have hy : (TCell.Pins b)[k]? = some (TCell.Pins b)[k] := List.getElem?_eq_getElem (by omega)
          simp only [slices_EqualFunc_Simpl_Pin_Simpl_Pin_impl_Pin_impl_Pin_at_impl_fitsSwap_c1_loop0, impl_fitsSwap_c1, show (k : Int) < ((TCell.Pins a).length : Int) from by omega, if_true, atI_nat, hx, hy, Option.bind_some, Option.some.injEq, forall_eq']
          constructor
          · intro hh; rw [if_pos hh]
          · intro hh; rw [if_neg hh])
        (fun _ => by simp only [slices_EqualFunc_Simpl_Pin_Simpl_Pin_impl_Pin_impl_Pin_at_impl_fitsSwap_c1_loop0, Int.lt_irrefl, if_false]),
        loopAll (l := TCell.Pins a) (show Len _ by unfold Len; omega) (fun k x => ∀ y, (TCell.Pins b)[k]? = some y → (TPin.Clock x == TPin.Clock y) = true) (bad := false) (good := true)
        (step := fun v => spec_l08Alike_loop0 a b v.1)
        (fun k x hx hk _ => by
          have hy : (TCell.Pins b)[k]? = some (TCell.Pins b)[k] := List.getElem?_eq_getElem (by omega)
          simp only [spec_l08Alike_loop0, show (k : Int) < ((TCell.Pins a).length : Int) from by omega, if_true, atI_nat, hx, hy, Option.bind_some, Option.some.injEq, forall_eq']
          constructor
          · intro hh; rw [if_pos hh]
          · intro hh; rw [if_neg hh])
        (fun _ => by simp only [spec_l08Alike_loop0, Int.lt_irrefl, if_false])]
      exact ⟨rfl, _, rfl⟩
    · rw [if_neg hl, if_neg hl]
      exact ⟨rfl, _, rfl⟩
  · rw [if_neg k, if_neg k]
    exact ⟨rfl, _, rfl⟩
theorem instNamed_eq (d : TDesign) (s : List UInt8) (hd : sm tDesign d) : impl_InstanceNamed d s = some (findIx (fun x => decide (TInstance.Name x = s)) (TDesign.Instances d)) ∧ spec_InstanceNamed d s = some (findIx (fun x => decide (TInstance.Name x = s)) (TDesign.Instances d)) := by
  have hl := len_of_sm (smDesign hd).1
  constructor
  · unfold impl_InstanceNamed
    rw [slices_IndexFunc_Simpl_Instance_impl_Instance_at_impl_InstanceNamed_c1_eq hl (fun x => decide (TInstance.Name x = s)) (fun x _ => rfl), Option.bind_some]
  · unfold spec_InstanceNamed
    refine index_loop hl (out := fun i => i) (fun k x hx => ?_) ?_
    · have hk := (List.getElem?_eq_some_iff.1 hx).1
      simp only [spec_InstanceNamed_loop0, show (k : Int) < ((TDesign.Instances d).length : Int) from by omega, if_true, atI_nat, hx, Option.bind_some, decide_eq_true_eq]
      split <;> rfl
    · simp only [spec_InstanceNamed_loop0, Int.lt_irrefl, if_false]
theorem netNamed_eq (d : TDesign) (s : List UInt8) (hd : sm tDesign d) : impl_Design_netNamed d s = some (findIx (fun x => decide (s = x)) (TDesign.Nets d)) ∧ spec_NetNamed d s = some (findIx (fun x => decide (s = x)) (TDesign.Nets d)) := by
  have hl := len_of_sm (smDesign hd).2.2
  constructor
  · unfold impl_Design_netNamed
    rw [slices_Index_Sstring_string_eq hl, Option.bind_some]
  · unfold spec_NetNamed spec_l04Index
    rw [index_loop hl (p := fun x => decide (s = x)) (out := fun i => i) (fun k x hx => by
      have hk := (List.getElem?_eq_some_iff.1 hx).1
      simp only [spec_l04Index_loop0, show (k : Int) < ((TDesign.Nets d).length : Int) from by omega, if_true, atI_nat, hx, Option.bind_some, decide_eq_true_eq]
      by_cases hq : s = x
      · rw [if_pos hq, if_pos hq.symm]
      · rw [if_neg hq, if_neg (fun q => hq q.symm)]) (by simp only [spec_l04Index_loop0, Int.lt_irrefl, if_false]), Option.bind_some]
end Go.Proofs.YtaccffcigblceaaGreatDoor
/-
  Plain laws: edits: what is possible, the code of an edit, places after one.
-/
namespace Go.Proofs.YtaccffcigblceaaGreatDoor
set_option linter.unusedVariables false
set_option linter.unusedSimpArgs false
open Go Go.Sx
theorem canUn_eq {b : TBlock} (h : BlkSm b) : ∃ r, impl_Block_canUnbuffer b = some r ∧ spec_l08Last b = some r ∧
    (r = true → 0 < (TDesign.Instances (TBlock.Design b)).length ∧ ∃ x, (TDesign.Instances (TBlock.Design b))[(TDesign.Instances (TBlock.Design b)).length - 1]? = some x ∧ (TInstance.Nets x).length = 2) := by
  have hD := h.ok.1
  have hf := hD.few
  have h14 := hf.insts
  have h30 := hD.2.1.2.1
  have hwn := h.ok.2.1
  unfold impl_Block_canUnbuffer spec_l08Last
  by_cases hn : ((TDesign.Instances (TBlock.Design b)).length : Int) = 0
  · rw [if_pos hn, hn, W_in (by omega) (by omega), if_pos (by omega)]
    exact ⟨false, rfl, rfl, fun h => by cases h⟩
  rw [if_neg hn, W_in (n := ((TDesign.Instances (TBlock.Design b)).length : Int) - 1) (by omega) (by omega), if_neg (by omega)]
  have hlt : (TDesign.Instances (TBlock.Design b)).length - 1 < (TDesign.Instances (TBlock.Design b)).length := by omega
  have hx := List.getElem?_eq_getElem hlt
  generalize (TDesign.Instances (TBlock.Design b))[(TDesign.Instances (TBlock.Design b)).length - 1] = x at hx
  have hx2 : atI (TDesign.Instances (TBlock.Design b)) (((TDesign.Instances (TBlock.Design b)).length : Int) - 1) = some x := atI_some (by omega) (by rw [← hx]; congr 1; omega)
  obtain ⟨⟨c0, c1⟩, ⟨c, hc, hnp⟩, hnet⟩ := hD.2.2.1 x (List.mem_of_getElem? hx)
  have hc2 : atI (TLibrary.Cells (TBlock.Library b)) (TInstance.Cell x) = some c := atI_some c0 hc
  rw [hx2]
  simp only [Option.bind_some, hc2, show impl_length_string (TDesign.Nets (TBlock.Design b)) = some ((TDesign.Nets (TBlock.Design b)).length : Int) from rfl]
  rw [show spec_l08Buffer c = impl_isBuffer c from rfl]
  have hbuf : impl_isBuffer c = some (tr (TCell.Kind c = 1 ∧ (TCell.Pins c).length = 2)) := by
    unfold impl_isBuffer
    refine eq_tr (and_ifP fun _ => fin_tr decide_eq_true_iff) ?_
    omega
  rw [hbuf, Option.bind_some, Option.bind_some]
  by_cases hb : TCell.Kind c = 1 ∧ (TCell.Pins c).length = 2
  · rw [if_pos (tr_pos hb), if_pos (tr_pos hb)]
    have hl2 : (TInstance.Nets x).length = 2 := by rw [hnp]; exact hb.2
    have n0 : atI (TInstance.Nets x) 0 = some ((TInstance.Nets x)[0]'(by omega)) := List.getElem?_eq_getElem (by omega)
    have n1 : atI (TInstance.Nets x) 1 = some ((TInstance.Nets x)[1]'(by omega)) := List.getElem?_eq_getElem (by omega)
    have hn1 := hnet ((TInstance.Nets x)[1]'(by omega)) (List.getElem_mem _)
    have hpos : 1 ≤ (TDesign.Nets (TBlock.Design b)).length := by have := hn1.1; have := hn1.2; omega
    generalize (TInstance.Nets x)[1]'(by omega) = m1 at n1 hn1
    generalize (TInstance.Nets x)[0]'(by omega) = m0 at n0
    have eL : IntKind.i64.wrap (((TDesign.Nets (TBlock.Design b)).length : Int) - 1) = ((TDesign.Nets (TBlock.Design b)).length : Int) - 1 := W_in (by omega) (by omega)
    have eW : IntKind.i64.wrap (((TBlock.Wires b).length : Int) - 1) = ((TDesign.Nets (TBlock.Design b)).length : Int) - 1 := by rw [W_in (by omega) (by omega)]; omega
    have hL : IsNet (TBlock.Design b) (((TDesign.Nets (TBlock.Design b)).length : Int) - 1) := ⟨by omega, by omega⟩
    obtain ⟨w, hw1, hw2, hw3⟩ := wire_at h hL
    have nL : atI (TDesign.Nets (TBlock.Design b)) (((TDesign.Nets (TBlock.Design b)).length : Int) - 1) = some ((TDesign.Nets (TBlock.Design b))[(TDesign.Nets (TBlock.Design b)).length - 1]'(by omega)) := atI_some (by omega) (by
      rw [List.getElem?_eq_getElem (by omega)]
      congr 2
      omega)
    generalize (TDesign.Nets (TBlock.Design b))[(TDesign.Nets (TBlock.Design b)).length - 1]'(by omega) = nm at nL
    have hcap : atI (TWire.Cap w) 0 = some ((TWire.Cap w)[0]'(by have := hw3.1; have := hw3.2.2.1; omega)) := List.getElem?_eq_getElem (by have := hw3.1; have := hw3.2.2.1; omega)
    generalize (TWire.Cap w)[0]'(by have := hw3.1; have := hw3.2.2.1; omega) = cp at hcap
    have hsk := hw3.2.2.2.1
    simp only [eL, eW, n0, n1, nL, hw2, Option.bind_some, spec_l05Sinks_eq _ _ hf, spec_l08Bare, hcap]
    rw [← hsk]
    have hfin : ∀ r : Bool, (r = true → 0 < (TDesign.Instances (TBlock.Design b)).length ∧ ∃ x, (TDesign.Instances (TBlock.Design b))[(TDesign.Instances (TBlock.Design b)).length - 1]? = some x ∧ (TInstance.Nets x).length = 2) := fun r _ => ⟨by omega, x, hx, hl2⟩
    by_cases q1 : m1 = ((TDesign.Nets (TBlock.Design b)).length : Int) - 1
    · rw [if_pos q1, if_pos q1]
      by_cases q2 : m0 = ((TDesign.Nets (TBlock.Design b)).length : Int) - 1
      · rw [if_pos q2]
        by_cases q3 : nm = TInstance.Name x
        · rw [if_pos q3]
          simp only [if_pos q2]
          exact ⟨_, rfl, rfl, hfin _⟩
        · rw [if_neg q3]
          exact ⟨_, rfl, rfl, hfin _⟩
      · rw [if_neg q2]
        by_cases q3 : nm = TInstance.Name x
        · rw [if_pos q3, if_pos q3]
          simp only [if_neg q2]
          by_cases q4 : ((TWire.Sink w).length : Int) = 1
          · rw [if_pos q4, if_pos q4]
            by_cases q5 : ((TWire.Parent w).length : Int) = 1
            · simp only [if_pos q5]
              exact ⟨_, rfl, rfl, hfin _⟩
            · simp only [if_neg q5]
              exact ⟨_, rfl, rfl, hfin _⟩
          · rw [if_neg q4, if_neg q4]
            exact ⟨_, rfl, rfl, hfin _⟩
        · rw [if_neg q3, if_neg q3]
          exact ⟨_, rfl, rfl, hfin _⟩
    · rw [if_neg q1, if_neg q1]
      exact ⟨_, rfl, rfl, hfin _⟩
  · rw [if_neg (fun q => hb ((tr_iff _).1 q)), if_neg (fun q => hb ((tr_iff _).1 q))]
    exact ⟨false, rfl, rfl, fun h => by cases h⟩
theorem cell_at {b : TBlock} (h : BlkSm b) {i : Int} (h0 : 0 ≤ i) (h1 : i ≤ ((TLibrary.Cells (TBlock.Library b)).length : Int) - 1) : ∃ c, atI (TLibrary.Cells (TBlock.Library b)) i = some c ∧ sm tCell c := by
  have hlt : i.toNat < (TLibrary.Cells (TBlock.Library b)).length := by omega
  have hc := List.getElem?_eq_getElem hlt
  exact ⟨_, atI_some h0 hc, sm_get (smLib (smBlock h.sm).1) hc⟩
theorem place_at {b : TBlock} (h : BlkSm b) {i : Int} (h0 : 0 ≤ i) (h1 : i ≤ ((places (TBlock.Design b)).length : Int) - 1) : ∃ p, atI (places (TBlock.Design b)) i = some p ∧ p ∈ places (TBlock.Design b) := by
  have hlt : i.toNat < (places (TBlock.Design b)).length := by omega
  have hc := List.getElem?_eq_getElem hlt
  exact ⟨_, atI_some h0 hc, List.getElem_mem _⟩
theorem place_inst {d : TDesign} {p : Pl} (hp : p ∈ places d) (h0 : 0 ≤ p.1) : ∃ x, (TDesign.Instances d)[p.1.toNat]? = some x ∧ x ∈ TDesign.Instances d := by
  unfold places at hp
  rcases List.mem_append.1 hp with hp | hp
  · obtain ⟨i, z, hi, hz⟩ := mem_cat.1 hp
    unfold instPl at hz
    obtain ⟨j, n, hj, hn⟩ := mem_cat.1 hz
    simp only [List.mem_singleton] at hn
    subst hn
    refine ⟨z, ?_, List.mem_of_getElem? hi⟩
    show (TDesign.Instances d)[(((0 + i : Nat) : Int)).toNat]? = some z
    rw [show (((0 + i : Nat) : Int)).toNat = i by omega]
    exact hi
  · obtain ⟨j, q, hj, hq⟩ := mem_cat.1 hp
    simp only [portPl, List.mem_singleton] at hq
    subst hq
    have h0 : (0 : Int) ≤ -1 := h0
    omega
theorem possible_eq {b : TBlock} (h : BlkSm b) (e : TEdit) (he : sm tEdit e) (hB : Blank e) (hR : RangeOk b e) : ∃ r, impl_Edit_isPossible e b = some r ∧ spec_l08State b e = some r ∧
    (r = true → TEdit.Kind e = 3 → 0 < (TDesign.Instances (TBlock.Design b)).length ∧ ∃ x, (TDesign.Instances (TBlock.Design b))[(TDesign.Instances (TBlock.Design b)).length - 1]? = some x ∧ (TInstance.Nets x).length = 2) := by
  have hD := h.ok.1
  have hf := hD.few
  have hsd := (smBlock h.sm).2.1
  obtain ⟨he1, he2⟩ := smEdit he
  unfold impl_Edit_isPossible spec_l08State
  rw [impl_Design_places_eq _ hf, spec_l05Places_eq _ hf, Option.bind_some, Option.bind_some]
  by_cases k1 : TEdit.Kind e = 1
  · rw [if_pos k1, if_pos k1]
    obtain ⟨⟨p0, p1⟩, c0, c1⟩ := hR.1 (.inl k1)
    obtain ⟨p, hp, hpm⟩ := place_at h p0 p1
    obtain ⟨c2, hc2, hc2s⟩ := cell_at h c0 c1
    rw [hp]
    simp only [Option.bind_some, hc2]
    have h3 : ∀ r : Bool, (r = true → TEdit.Kind e = 3 → 0 < (TDesign.Instances (TBlock.Design b)).length ∧ ∃ x, (TDesign.Instances (TBlock.Design b))[(TDesign.Instances (TBlock.Design b)).length - 1]? = some x ∧ (TInstance.Nets x).length = 2) := fun r _ k3 => by omega
    by_cases q1 : (0 : Int) ≤ p.1
    · rw [if_pos q1, if_pos q1]
      by_cases q2 : p.2.2.2.1 = true
      · rw [if_pos q2, if_pos q2]
        obtain ⟨x, hx, hxm⟩ := place_inst hpm q1
        have hx2 : atI (TDesign.Instances (TBlock.Design b)) p.1 = some x := atI_some q1 hx
        obtain ⟨⟨d0, d1⟩, _, _⟩ := hD.2.2.1 x hxm
        obtain ⟨c, hc, hcs⟩ := cell_at h d0 d1
        obtain ⟨a1, r, a2⟩ := alike_eq c c2 hcs
        have e1 : Tplace.instance p = p.1 := rfl
        have e2 : Tl05Place.instance p = p.1 := rfl
        simp only [e1, e2, hx2, Option.bind_some, hc, a1, a2]
        exact ⟨r, rfl, rfl, h3 r⟩
      · rw [if_neg q2, if_neg q2]
        exact ⟨_, rfl, rfl, h3 _⟩
    · rw [if_neg q1, if_neg q1]
      exact ⟨_, rfl, rfl, h3 _⟩
  rw [if_neg k1, if_neg k1]
  by_cases k2 : TEdit.Kind e = 2
  · rw [if_pos k2, if_pos k2]
    obtain ⟨⟨p0, p1⟩, c0, c1⟩ := hR.1 (.inr k2)
    obtain ⟨p, hp, hpm⟩ := place_at h p0 p1
    obtain ⟨c2, hc2, hc2s⟩ := cell_at h c0 c1
    have h3 : ∀ r : Bool, (r = true → TEdit.Kind e = 3 → 0 < (TDesign.Instances (TBlock.Design b)).length ∧ ∃ x, (TDesign.Instances (TBlock.Design b))[(TDesign.Instances (TBlock.Design b)).length - 1]? = some x ∧ (TInstance.Nets x).length = 2) := fun r _ k3 => by omega
    have hbuf : impl_isBuffer c2 = some (tr (TCell.Kind c2 = 1 ∧ (TCell.Pins c2).length = 2)) := by
      unfold impl_isBuffer
      refine eq_tr (and_ifP fun _ => fin_tr decide_eq_true_iff) ?_
      omega
    have hlN : (TEdit.Name e).length ≤ 4611686018427387904 := by have : ((TEdit.Name e).length : Int) ≤ 1048576 := he1; omega
    rw [hp]
    simp only [Option.bind_some, hc2, show spec_l08Buffer c2 = impl_isBuffer c2 from rfl, hbuf, impl_isName_eq, spec_l03Name_eq _ hlN, (instNamed_eq _ (TEdit.Name e) hsd).1, (instNamed_eq _ (TEdit.Name e) hsd).2, (netNamed_eq _ (TEdit.Name e) hsd).1, (netNamed_eq _ (TEdit.Name e) hsd).2]
    have e1 : Tplace.drives p = p.2.2.2.1 := rfl
    have e2 : Tl05Place.drives p = p.2.2.2.1 := rfl
    rw [e1, e2]
    by_cases q2 : p.2.2.2.1 = true
    · simp only [if_pos q2]
      exact ⟨_, rfl, rfl, h3 _⟩
    simp only [if_neg q2]
    by_cases q3 : tr (TCell.Kind c2 = 1 ∧ (TCell.Pins c2).length = 2) = true
    · simp only [if_pos q3]
      by_cases q4 : nameOk (TEdit.Name e) = true
      · simp only [if_pos q4]
        split
        · exact ⟨_, rfl, rfl, h3 _⟩
        · exact ⟨_, rfl, rfl, h3 _⟩
      · simp only [if_neg q4]
        exact ⟨_, rfl, rfl, h3 _⟩
    · simp only [if_neg q3]
      exact ⟨_, rfl, rfl, h3 _⟩
  rw [if_neg k2, if_neg k2]
  by_cases k3 : TEdit.Kind e = 3
  · rw [if_pos k3, if_pos k3]
    obtain ⟨r, a, c, d⟩ := canUn_eq h
    rw [a, c]
    exact ⟨r, rfl, rfl, fun q _ => d q⟩
  rw [if_neg k3, if_neg k3]
  have h3 : ∀ r : Bool, (r = true → TEdit.Kind e = 3 → 0 < (TDesign.Instances (TBlock.Design b)).length ∧ ∃ x, (TDesign.Instances (TBlock.Design b))[(TDesign.Instances (TBlock.Design b)).length - 1]? = some x ∧ (TInstance.Nets x).length = 2) := fun r _ q => absurd q k3
  by_cases k4 : TEdit.Kind e = 4
  · rw [if_pos k4, if_pos k4]
    obtain ⟨⟨p0, p1⟩, _⟩ := hR.2.1 k4
    obtain ⟨p, hp, hpm⟩ := place_at h p0 p1
    rw [hp]
    simp only [Option.bind_some]
    have e1 : Tplace.drives p = p.2.2.2.1 := rfl
    have e2 : Tl05Place.drives p = p.2.2.2.1 := rfl
    rw [e1, e2]
    by_cases q2 : p.2.2.2.1 = true
    · simp only [if_pos q2]
      exact ⟨_, rfl, rfl, h3 _⟩
    · simp only [if_neg q2]
      exact ⟨_, rfl, rfl, h3 _⟩
  rw [if_neg k4, if_neg k4]
  have k5 : TEdit.Kind e = 5 := by unfold Blank at hB; omega
  obtain ⟨w, hw1, hw2, hw3⟩ := wire_at h (hR.2.2 k5)
  rw [hw2, spec_l05Sinks_eq _ _ hf]
  simp only [Option.bind_some, impl_length_int64_eq, impl_IsWire_eq _ _ he2, spec_IsWire_eq _ _ he2, hw3.2.2.2.1]
  exact ⟨_, rfl, rfl, h3 _⟩
structure CanDo (b : TBlock) (e : TEdit) : Prop where
  blk : BlkSm b
  blank : Blank e
  range : RangeOk b e
  last : TEdit.Kind e = 3 → 0 < (TDesign.Instances (TBlock.Design b)).length ∧ ∃ x, (TDesign.Instances (TBlock.Design b))[(TDesign.Instances (TBlock.Design b)).length - 1]? = some x ∧ (TInstance.Nets x).length = 2
theorem editCode_eq (b : TBlock) (e : TEdit) (hb : sm tBlock b) (he : sm tEdit e) : ∃ c, impl_EditCode b e = some c ∧ spec_EditCode b e = some c ∧ (c = 0 → CanDo b e) := by
  unfold impl_EditCode spec_EditCode impl_Edit_code
  rw [impl_IsBlock_eq b hb, spec_IsBlock_eq b hb, Option.bind_some, Option.bind_some]
  by_cases hB : BlockOk b
  · rw [if_pos (tr_pos hB), if_pos (tr_pos hB)]
    have h : BlkSm b := ⟨hB, hb⟩
    have hwn := hB.2.1
    rw [impl_isInRange_eq h e he, spec_l08Blank_eq e he, spec_l08Range_eq h e he]
    simp only [Option.bind_some]
    by_cases h1 : Blank e
    · rw [if_pos (tr_pos h1)]
      by_cases h2 : RangeOk b e
      · rw [if_pos (tr_pos ⟨h1, h2⟩), if_pos (tr_pos h2)]
        obtain ⟨r, a, c, d⟩ := possible_eq h e he h1 h2
        rw [a, c]
        simp only [Option.bind_some]
        by_cases hr : r = true
        · rw [if_pos hr, if_pos hr]
          have hd : ∀ c : Int, c = 0 → CanDo b e := fun _ _ => ⟨h, h1, h2, d hr⟩
          by_cases k2 : TEdit.Kind e = 2
          · rw [if_pos k2, if_pos k2]
            by_cases q1 : ((TDesign.Instances (TBlock.Design b)).length : Int) = 14
            · rw [if_pos q1, if_pos q1]
              exact ⟨_, rfl, rfl, hd _⟩
            · rw [if_neg q1, if_neg q1]
              by_cases q2 : ((TDesign.Nets (TBlock.Design b)).length : Int) = 30
              · rw [if_pos q2, if_pos (by omega)]
                exact ⟨_, rfl, rfl, hd _⟩
              · rw [if_neg q2, if_neg (by omega)]
                exact ⟨_, rfl, rfl, hd _⟩
          · rw [if_neg k2, if_neg k2]
            exact ⟨_, rfl, rfl, hd _⟩
        · rw [if_neg hr, if_neg hr]
          exact ⟨_, rfl, rfl, fun q => by cases q⟩
      · rw [if_neg (fun q => h2 ((tr_iff _).1 q).2), if_neg (fun q => h2 ((tr_iff _).1 q))]
        exact ⟨_, rfl, rfl, fun q => by cases q⟩
    · rw [if_neg (fun q => h1 ((tr_iff _).1 q).1), if_neg (fun q => h1 ((tr_iff _).1 q))]
      exact ⟨_, rfl, rfl, fun q => by cases q⟩
  · rw [if_neg (fun q => hB ((tr_iff _).1 q)), if_neg (fun q => hB ((tr_iff _).1 q))]
    exact ⟨_, rfl, rfl, fun q => by cases q⟩
end Go.Proofs.YtaccffcigblceaaGreatDoor
/-
  Plain laws: places after an edit; the law FnExactPlacesAfter.
-/
namespace Go.Proofs.YtaccffcigblceaaGreatDoor
set_option linter.unusedVariables false
set_option linter.unusedSimpArgs false
open Go Go.Sx
theorem port_len : ∀ (l : List TPort) (m : Nat), (cat portPl m l).length = l.length
  | [], _ => rfl
  | x :: r, m => by simp only [cat, List.length_append, portPl, List.length_nil, port_len r, List.length_cons]; omega
theorem inst_fst {i : Nat} {x : TInstance} {p : Pl} (hp : p ∈ instPl i x) : p.1 = (i : Int) := by
  unfold instPl at hp
  obtain ⟨j, n, hj, hn⟩ := mem_cat.1 hp
  simp only [List.mem_singleton] at hn
  subst hn; rfl
theorem inst_len (i : Nat) (x : TInstance) : (instPl i x).length = (TInstance.Nets x).length := by
  have : ∀ (l : List Int) (m : Nat) (c : Int), (cat (fun j n => [((i : Int), (j : Int), n, decide ((j : Int) = c), ())]) m l).length = l.length := by
    intro l
    induction l with
    | nil => intro m c; rfl
    | cons y r ih => intro m c; simp only [cat, List.length_append, List.length_nil, ih, List.length_cons]; omega
  unfold instPl
  exact this _ _ _
theorem place_port {d : TDesign} {k : Nat} {p : Pl} (hp : (places d)[k]? = some p) : (p.1 < 0 ↔ (places d).length ≤ k + (TDesign.Ports d).length) ∧ -1 ≤ p.1 := by
  have hl : (places d).length = (cat instPl 0 (TDesign.Instances d)).length + (TDesign.Ports d).length := by unfold places; rw [List.length_append, port_len]
  by_cases hk : k < (cat instPl 0 (TDesign.Instances d)).length
  · have h1 : p ∈ cat instPl 0 (TDesign.Instances d) := by
      unfold places at hp
      rw [List.getElem?_append_left hk] at hp
      exact List.mem_of_getElem? hp
    obtain ⟨i, z, hi, hz⟩ := mem_cat.1 h1
    have := inst_fst hz
    omega
  · have h1 : p ∈ cat portPl 0 (TDesign.Ports d) := by
      unfold places at hp
      rw [List.getElem?_append_right (by omega)] at hp
      exact List.mem_of_getElem? hp
    obtain ⟨j, q, hj, hq⟩ := mem_cat.1 h1
    simp only [portPl, List.mem_singleton] at hq
    subst hq
    simp only
    omega
theorem place_last {d : TDesign} {x : TInstance} (hn : 0 < (TDesign.Instances d).length) (hx : (TDesign.Instances d)[(TDesign.Instances d).length - 1]? = some x) {k : Nat} {p : Pl} (hp : (places d)[k]? = some p) (h0 : 0 ≤ p.1) :
    p.1 = ((TDesign.Instances d).length : Int) - 1 ↔ (places d).length ≤ k + (TDesign.Ports d).length + (TInstance.Nets x).length := by
  have hl : (places d).length = (cat instPl 0 (TDesign.Instances d)).length + (TDesign.Ports d).length := by unfold places; rw [List.length_append, port_len]
  have hs : cat instPl 0 (TDesign.Instances d) = cat instPl 0 ((TDesign.Instances d).take ((TDesign.Instances d).length - 1)) ++ instPl ((TDesign.Instances d).length - 1) x := by
    rw [← cat_snoc hx, show (TDesign.Instances d).length - 1 + 1 = (TDesign.Instances d).length by omega, List.take_length]
  have hsl := congrArg List.length hs
  rw [List.length_append, inst_len] at hsl
  have hk : k < (cat instPl 0 (TDesign.Instances d)).length := by
    have := (place_port hp).1
    omega
  have h1 : (cat instPl 0 (TDesign.Instances d))[k]? = some p := by
    unfold places at hp
    rwa [List.getElem?_append_left hk] at hp
  rw [hs] at h1
  by_cases hk2 : k < (cat instPl 0 ((TDesign.Instances d).take ((TDesign.Instances d).length - 1))).length
  · rw [List.getElem?_append_left hk2] at h1
    obtain ⟨i, z, hi, hz⟩ := mem_cat.1 (List.mem_of_getElem? h1)
    have e := inst_fst hz
    have hil := (List.getElem?_eq_some_iff.1 hi).1
    rw [List.length_take] at hil
    omega
  · rw [List.getElem?_append_right (by omega)] at h1
    have e := inst_fst (List.mem_of_getElem? h1)
    omega
noncomputable def aftN (b : TBlock) (e : TEdit) (k : Nat) (p : Pl) : Int :=
  if TEdit.Kind e = 2 ∧ p.1 < 0 then (k : Int) + 2
  else if TEdit.Kind e = 3 ∧ p.1 < 0 then (k : Int) - 2
  else if TEdit.Kind e = 3 ∧ p.1 = ((TDesign.Instances (TBlock.Design b)).length : Int) - 1 then -1
  else (k : Int)
theorem aftN_a {b : TBlock} {e : TEdit} {k : Nat} {p : Pl} (k2 : TEdit.Kind e = 2) (q1 : p.1 < 0) : aftN b e k p = (k : Int) + 2 := by unfold aftN; rw [if_pos ⟨k2, q1⟩]
theorem aftN_b {b : TBlock} {e : TEdit} {k : Nat} {p : Pl} (k3 : TEdit.Kind e = 3) (q1 : p.1 < 0) : aftN b e k p = (k : Int) - 2 := by unfold aftN; rw [if_neg (fun q => by have := q.1; omega), if_pos ⟨k3, q1⟩]
theorem aftN_c {b : TBlock} {e : TEdit} {k : Nat} {p : Pl} (k3 : TEdit.Kind e = 3) (q1 : ¬ p.1 < 0) (q2 : p.1 = ((TDesign.Instances (TBlock.Design b)).length : Int) - 1) : aftN b e k p = -1 := by unfold aftN; rw [if_neg (fun q => q1 q.2), if_neg (fun q => q1 q.2), if_pos ⟨k3, q2⟩]
theorem aftN_d {b : TBlock} {e : TEdit} {k : Nat} {p : Pl} (k3 : TEdit.Kind e = 3) (q1 : ¬ p.1 < 0) (q2 : ¬ p.1 = ((TDesign.Instances (TBlock.Design b)).length : Int) - 1) : aftN b e k p = (k : Int) := by unfold aftN; rw [if_neg (fun q => q1 q.2), if_neg (fun q => q1 q.2), if_neg (fun q => q2 q.2)]
theorem aftN_e {b : TBlock} {e : TEdit} {k : Nat} {p : Pl} (k3 : ¬ TEdit.Kind e = 3) (q1 : ¬ (TEdit.Kind e = 2 ∧ p.1 < 0)) : aftN b e k p = (k : Int) := by unfold aftN; rw [if_neg q1, if_neg (fun q => k3 q.1), if_neg (fun q => k3 q.1)]
noncomputable def after (b : TBlock) (e : TEdit) : List Int := cat (fun k p => [aftN b e k p]) 0 (places (TBlock.Design b))
theorem cat1_len {α β : Type} {g : Nat → α → β} : ∀ (l : List α) (m : Nat), (cat (fun j n => [g j n]) m l).length = l.length
  | [], _ => rfl
  | x :: r, m => by simp only [cat, List.length_append, List.length_nil, cat1_len r, List.length_cons]; omega
theorem impl_placesAfter_eq {b : TBlock} {e : TEdit} (h : CanDo b e) : impl_Edit_placesAfter e b = some (after b e) := by
  have hD := h.blk.ok.1
  have hf := hD.few
  have hpl := places_len hf
  have h14 := hf.insts
  unfold impl_Edit_placesAfter
  rw [show impl_length_impl_Instance (TDesign.Instances (TBlock.Design b)) = some ((TDesign.Instances (TBlock.Design b)).length : Int) from rfl, impl_Design_places_eq _ hf, Option.bind_some, Option.bind_some]
  have := appendLoop (l := places (TBlock.Design b)) (ρ := List Int) (fun k p => [aftN b e k p]) [] (step := fun v => impl_Edit_placesAfter_loop0 e ((TDesign.Instances (TBlock.Design b)).length : Int) (places (TBlock.Design b)) v.1 v.2.1) (good := after b e)
    (fun k p hp hk => by
      have hl := cat1_len (g := aftN b e) ((places (TBlock.Design b)).take k) 0
      rw [List.length_take] at hl
      have hpp := place_port hp
      have hg : ∀ n : Int, (([] ++ cat (fun k p => [aftN b e k p]) 0 ((places (TBlock.Design b)).take k)).length + [n].length) * 8 ≤ 140737488355328 := fun n => by
        rw [List.nil_append, List.length_singleton, hl]; omega
      simp only [impl_Edit_placesAfter_loop0, show (k : Int) < ((places (TBlock.Design b)).length : Int) from by omega, if_true, atI_nat, hp, Option.bind_some, guardO_pos (hg _), W_suc (show k ≤ 1048576 by omega), W_in (show (-9223372036854775808 : Int) ≤ (k : Int) + 2 by omega) (by omega), W_in (show (-9223372036854775808 : Int) ≤ (k : Int) - 2 by omega) (by omega), W_in (show (-9223372036854775808 : Int) ≤ ((TDesign.Instances (TBlock.Design b)).length : Int) - 1 by omega) (by omega), Tplace.instance]
      by_cases k2 : TEdit.Kind e = 2
      · have k3 : ¬ TEdit.Kind e = 3 := by omega
        by_cases q1 : p.1 < 0
        · rw [aftN_a k2 q1, if_pos k2, if_pos q1]
        · rw [aftN_e k3 (fun q => q1 q.2), if_pos k2, if_neg q1, if_neg k3, if_neg k3]
      · rw [if_neg k2]
        by_cases k3 : TEdit.Kind e = 3
        · by_cases q1 : p.1 < 0
          · rw [aftN_b k3 q1, if_pos k3, if_pos q1]
          · by_cases q2 : p.1 = ((TDesign.Instances (TBlock.Design b)).length : Int) - 1
            · rw [aftN_c k3 q1 q2, if_pos k3, if_neg q1, if_pos k3, if_pos q2]
            · rw [aftN_d k3 q1 q2, if_pos k3, if_neg q1, if_pos k3, if_neg q2]
        · rw [aftN_e k3 (fun q => k2 q.1), if_neg k3, if_neg k3])
    (by simp only [impl_Edit_placesAfter_loop0, Int.lt_irrefl, if_false]; rfl)
  exact this
theorem spec_l32Places_eq {b : TBlock} {e : TEdit} (h : CanDo b e) : spec_l32Places b e = some (after b e) := by
  have hD := h.blk.ok.1
  have hf := hD.few
  have hpl := places_len hf
  have h14 := hf.insts
  have h8 := hf.ports
  have hle : (TDesign.Ports (TBlock.Design b)).length ≤ (places (TBlock.Design b)).length := by unfold places; rw [List.length_append, port_len]; omega
  unfold spec_l32Places
  rw [spec_l05Places_eq _ hf, Option.bind_some]
  have := appendLoop (l := places (TBlock.Design b)) (ρ := List Int) (fun k p => [aftN b e k p]) [] (step := fun v => spec_l32Places_loop0 b e (places (TBlock.Design b)) v.1 v.2.1) (good := after b e)
    (fun k p hp hk => by
      have hl := cat1_len (g := aftN b e) ((places (TBlock.Design b)).take k) 0
      rw [List.length_take] at hl
      obtain ⟨hpp, hm1⟩ := place_port hp
      have hg : ∀ n : Int, (([] ++ cat (fun k p => [aftN b e k p]) 0 ((places (TBlock.Design b)).take k)).length + [n].length) * 8 ≤ 140737488355328 := fun n => by
        rw [List.nil_append, List.length_singleton, hl]; omega
      have e1 : IntKind.i64.wrap (((places (TBlock.Design b)).length : Int) - ((TDesign.Ports (TBlock.Design b)).length : Int)) = ((places (TBlock.Design b)).length : Int) - ((TDesign.Ports (TBlock.Design b)).length : Int) := W_in (by omega) (by omega)
      have e2 : IntKind.i64.wrap (((places (TBlock.Design b)).length : Int) - ((TDesign.Ports (TBlock.Design b)).length : Int) - 2) = ((places (TBlock.Design b)).length : Int) - ((TDesign.Ports (TBlock.Design b)).length : Int) - 2 := W_in (by omega) (by omega)
      have c1 : (((places (TBlock.Design b)).length : Int) - ((TDesign.Ports (TBlock.Design b)).length : Int) ≤ (k : Int)) = (p.1 < 0) := propext ⟨fun q => hpp.2 (by omega), fun q => by have := hpp.1 q; omega⟩
      simp only [spec_l32Places_loop0, show (k : Int) < ((places (TBlock.Design b)).length : Int) from by omega, if_true, guardO_pos (hg _), W_suc (show k ≤ 1048576 by omega), W_in (show (-9223372036854775808 : Int) ≤ (k : Int) + 2 by omega) (by omega), W_in (show (-9223372036854775808 : Int) ≤ (k : Int) - 2 by omega) (by omega), e1, e2, c1]
      by_cases k2 : TEdit.Kind e = 2
      · have k3 : ¬ TEdit.Kind e = 3 := by omega
        by_cases q1 : p.1 < 0
        · rw [aftN_a k2 q1, if_pos k2, if_pos q1]
        · rw [aftN_e k3 (fun q => q1 q.2), if_pos k2, if_neg q1, if_neg k3, if_neg k3]
      · rw [if_neg k2]
        by_cases k3 : TEdit.Kind e = 3
        · obtain ⟨hn, x, hx, hx2⟩ := h.last k3
          by_cases q1 : p.1 < 0
          · rw [aftN_b k3 q1, if_pos k3, if_pos q1]
          · have hL := place_last hn hx hp (by omega)
            rw [hx2] at hL
            have c2 : (((places (TBlock.Design b)).length : Int) - ((TDesign.Ports (TBlock.Design b)).length : Int) - 2 ≤ (k : Int)) = (p.1 = ((TDesign.Instances (TBlock.Design b)).length : Int) - 1) := propext ⟨fun q => hL.2 (by omega), fun q => by have := hL.1 q; omega⟩
            simp only [c2]
            by_cases q2 : p.1 = ((TDesign.Instances (TBlock.Design b)).length : Int) - 1
            · rw [aftN_c k3 q1 q2, if_pos k3, if_neg q1, if_pos k3, if_pos q2]
            · rw [aftN_d k3 q1 q2, if_pos k3, if_neg q1, if_pos k3, if_neg q2]
        · rw [aftN_e k3 (fun q => k2 q.1), if_neg k3, if_neg k3])
    (by simp only [spec_l32Places_loop0, Int.lt_irrefl, if_false]; rfl)
  exact this
theorem after_len (b : TBlock) (e : TEdit) : (after b e).length = (places (TBlock.Design b)).length := cat1_len _ _
theorem tot_edit (a : TEdit) : tot tWire (TEdit.Wire a) ≤ tot tEdit a := by
  show tot tWire a.2.2.2.2.2.2.1 ≤ _
  simp only [tot_pair, tot_int, tot_str, tot_unit]
  omega
end Go.Proofs.YtaccffcigblceaaGreatDoor
/-
  Plain laws: marks are held.
-/
namespace Go.Proofs.YtaccffcigblceaaGreatDoor
set_option linter.unusedVariables false
set_option linter.unusedSimpArgs false
open Go Go.Sx
theorem mark_flat {α : Type} {l : List α} {c : Nat} {g : Int → α} {step : Int × Int × List α × Unit → Option ((Int × Int × List α × Unit) ⊕ (Int × List α))}
    (hstep : ∀ (j : Nat) (m : Int) (x : α) (L : List α), j < L.length → (j : Int) < (L.length : Int) → L[j]? = some x → 0 ≤ m → m ≤ 4611686018427387904 → (j : Int) ≤ 1048576 → step (m, (j : Int), L, ()) = some (.inl (m + (c : Int), ((j + 1 : Nat) : Int), List.set L j (g m), ())))
    (hend : ∀ (m : Int) (L : List α), step (m, (L.length : Int), L, ()) = some (.inr (m, L))) (hl : l.length ≤ 1048576) (hc : c ≤ 1048576) :
    ∃ l', whileM step (1, 0, l, ()) = some (1 + ((c * l.length : Nat) : Int), l') ∧ l'.length = l.length ∧ ∀ j, j < l.length → l'[j]? = some (g (1 + ((c * j : Nat) : Int))) := by
  obtain ⟨r, h1, h2, h3, h4⟩ : ∃ r, whileM step (1, 0, l, ()) = some r ∧ r.1 = 1 + ((c * l.length : Nat) : Int) ∧ r.2.length = l.length ∧ ∀ j, j < l.length → r.2[j]? = some (g (1 + ((c * j : Nat) : Int))) := by
    refine whileM_range l.length (fun k v => v.1 = 1 + ((c * k : Nat) : Int) ∧ v.2.1 = (k : Int) ∧ v.2.2.1.length = l.length ∧ ∀ j, j < k → v.2.2.1[j]? = some (g (1 + ((c * j : Nat) : Int)))) _ ⟨by simp, rfl, rfl, fun j hj => by omega⟩ ?_ ?_
    · rintro k ⟨m, i, L, ⟨⟩⟩ hk ⟨hm, hi, hL, hS⟩
      simp only at hm hi hL hS
      have hck : c * k ≤ 1048576 * 1048576 := Nat.mul_le_mul hc (by omega)
      subst hm
      subst hi
      left
      refine ⟨_, hstep k _ _ L (by omega) (by omega) (List.getElem?_eq_getElem (by omega)) (by omega) (by omega) (by omega), by simp only; rw [Nat.mul_succ]; omega, rfl, by simp [hL], fun j hj => ?_⟩
      simp only
      rw [List.getElem?_set]
      split
      · rename_i e; rw [if_pos (by omega), e]
      · exact hS j (by omega)
    · rintro ⟨m, i, L, ⟨⟩⟩ ⟨hm, hi, hL, hS⟩
      simp only at hm hi hL hS
      subst hi
      rw [← hL, hend]
      exact ⟨_, rfl, by rw [hm, hL], rfl, fun j hj => hS j (by omega)⟩
  exact ⟨r.2, by rw [h1, ← h2], h3, h4⟩
theorem held_flat {α : Type} {l : List α} {c n : Nat} {g : Int → α} {step : Int × Int × Unit → Option ((Int × Int × Unit) ⊕ Int)} (hn : l.length = n) (hg : ∀ j, j < n → l[j]? = some (g (1 + ((c * j : Nat) : Int))))
    (hstep : ∀ (j : Nat) (m : Int), (j : Int) < (l.length : Int) → l[j]? = some (g m) → 0 ≤ m → m ≤ 4611686018427387904 → (j : Int) ≤ 1048576 → step (m, (j : Int), ()) = some (.inl (m + (c : Int), ((j + 1 : Nat) : Int), ())))
    (hend : ∀ (m : Int), step (m, (l.length : Int), ()) = some (.inr m)) (hl : n ≤ 1048576) (hc : c ≤ 1048576) : whileM step (1, 0, ()) = some (1 + ((c * n : Nat) : Int)) := by
  refine whileM_rangeE n (fun k v => v.1 = 1 + ((c * k : Nat) : Int) ∧ v.2.1 = (k : Int)) _ ⟨by simp, rfl⟩ ?_ ?_
  · rintro k ⟨m, i, ⟨⟩⟩ hk ⟨hm, hi⟩
    simp only at hm hi
    have hck : c * k ≤ 1048576 * 1048576 := Nat.mul_le_mul hc (by omega)
    subst hm
    subst hi
    left
    exact ⟨_, hstep k _ (by omega) (hg k hk) (by omega) (by omega) (by omega), by simp only; rw [Nat.mul_succ]; omega, rfl⟩
  · rintro ⟨m, i, ⟨⟩⟩ ⟨hm, hi⟩
    simp only at hm hi
    subst hm
    subst hi
    rw [← hn, hend]
theorem few_block (a : TBlock) (h : tot tBlock a ≤ 1048576) : cnt tBlock a ≤ 100 + 20 * 1048576 := by
  have hc := cnt_le tBlock a
  have h1 : wid tBlock ≤ 100 := by decide
  have h2 : widest tBlock ≤ 20 := by decide
  have := Nat.mul_le_mul_right (tot tBlock a) h2
  omega
theorem few_wire (a : TWire) (h : tot tWire a ≤ 1048576) : cnt tWire a ≤ 100 + 20 * 1048576 := by
  have hc := cnt_le tWire a
  have h1 : wid tWire ≤ 100 := by decide
  have h2 : widest tWire ≤ 20 := by decide
  have := Nat.mul_le_mul_right (tot tWire a) h2
  omega
end Go.Proofs.YtaccffcigblceaaGreatDoor
/-
  Plain laws: spans, slews.
-/
namespace Go.Proofs.YtaccffcigblceaaGreatDoor
set_option linter.unusedVariables false
set_option linter.unusedSimpArgs false
open Go Go.Sx
def SlewOk (s : TSpan) : Prop := 0 ≤ TSpan.Early s ∧ TSpan.Early s ≤ TSpan.Late s ∧ TSpan.Late s ≤ 1000000
theorem spec_l12Slews_eq (s : TSpan) : spec_l12Slews s = some (tr (SlewOk s)) := by
  unfold spec_l12Slews SlewOk
  exact and_ifP (fun _ => and_ifP (fun _ => fin_tr decide_eq_true_iff))
def SpanOk (s : TSpan) : Prop := (-1000000000 ≤ TSpan.Early s ∧ TSpan.Early s ≤ 1000000000) ∧ (-1000000000 ≤ TSpan.Late s ∧ TSpan.Late s ≤ 1000000000) ∧ TSpan.Early s ≤ TSpan.Late s
theorem impl_IsSpan_eq (s : TSpan) : impl_IsSpan s = some (tr (SpanOk s)) := by
  unfold impl_IsSpan SpanOk impl_isTime
  exact bind_if (bind_tr (within_tr _ _ _)) (fun _ => bind_if (bind_tr (within_tr _ _ _)) (fun _ => fin_tr decide_eq_true_iff))
theorem impl_areSlews_eq (s : TSpan) : impl_areSlews s = some (tr (SlewOk s)) := by
  unfold impl_areSlews impl_isSlew
  refine eq_tr (bind_if (impl_IsSpan_eq s) (fun _ => bind_if (bind_tr (within_tr _ _ _)) (fun _ => bind_tr (bind_tr (within_tr _ _ _))))) ?_
  unfold SlewOk SpanOk
  omega
end Go.Proofs.YtaccffcigblceaaGreatDoor
/-
  Plain laws: sources after an edit; the law FnExactSourcesAfter.
-/
namespace Go.Proofs.YtaccffcigblceaaGreatDoor
set_option linter.unusedVariables false
set_option linter.unusedSimpArgs false
open Go Go.Sx
theorem spec_IsSpan_eq (s : TSpan) : spec_IsSpan s = some (tr (SpanOk s)) := by
  unfold spec_IsSpan SpanOk
  exact bind_if (l01In_tr _ _ _) (fun _ => bind_if (l01In_tr _ _ _) (fun _ => fin_tr decide_eq_true_iff))
def SourceOk (n : Int) (l : List TSource) (k : Nat) (x : TSource) : Prop :=
  (0 ≤ TSource.Node x ∧ TSource.Node x ≤ n - 1) ∧ (∀ y, 0 < k → l[k - 1]? = some y → TSource.Node y < TSource.Node x) ∧ SpanOk (TSource.Arrival x) ∧ SlewOk (TSource.Slew x)
theorem spec_l12Sources_eq {b : TBlock} (h : BlkSm b) (l : List TSource) (hl : l.length ≤ 1048576) : spec_l12Sources b l = some (tr (AllE l (SourceOk (2 * ((places (TBlock.Design b)).length : Int)) l))) := by
  have hf := h.ok.1.few
  have hpl := places_len hf
  unfold spec_l12Sources spec_l09Count
  rw [spec_l05Places_eq _ hf, Option.bind_some, Option.bind_some, W_in (n := 2 * ((places (TBlock.Design b)).length : Int)) (by omega) (by omega)]
  rw [loopAll (l := l) (show Len l by unfold Len; omega) (SourceOk (2 * ((places (TBlock.Design b)).length : Int)) l) (bad := false) (good := true)
    (step := fun v => spec_l12Sources_loop0 l (2 * ((places (TBlock.Design b)).length : Int)) v.1)
    (fun k x hx hk _ => by
      simp only [spec_l12Sources_loop0, show (k : Int) < (l.length : Int) from by omega, if_true, atI_nat, hx, Option.bind_some, l01In_tr, spec_IsSpan_eq, spec_l12Slews_eq, W_in (show (-9223372036854775808 : Int) ≤ 2 * ((places (TBlock.Design b)).length : Int) - 1 by omega) (by omega)]
      unfold SourceOk
      have fin : ∀ (Q : Prop), (Q ↔ SpanOk (TSource.Arrival x) ∧ SlewOk (TSource.Slew x)) → ((Q → (if tr (SpanOk (TSource.Arrival x)) = true then if tr (SlewOk (TSource.Slew x)) = true then some (.inl (IntKind.i64.wrap ((k : Int) + 1), ())) else some (.inr false) else some (.inr false) : Option ((Int × Unit) ⊕ Bool)) = some (.inl (IntKind.i64.wrap ((k : Int) + 1), ()))) ∧
          (¬ Q → (if tr (SpanOk (TSource.Arrival x)) = true then if tr (SlewOk (TSource.Slew x)) = true then some (.inl (IntKind.i64.wrap ((k : Int) + 1), ())) else some (.inr false) else some (.inr false) : Option ((Int × Unit) ⊕ Bool)) = some (.inr false))) := by
        intro Q hQ
        constructor
        · intro q
          rw [if_pos (tr_pos (hQ.1 q).1), if_pos (tr_pos (hQ.1 q).2)]
        · intro q
          by_cases s1 : SpanOk (TSource.Arrival x)
          · rw [if_pos (tr_pos s1), if_neg (fun s2 => q (hQ.2 ⟨s1, (tr_iff _).1 s2⟩))]
          · rw [if_neg (fun s2 => s1 ((tr_iff _).1 s2))]
      by_cases q1 : 0 ≤ TSource.Node x ∧ TSource.Node x ≤ 2 * ((places (TBlock.Design b)).length : Int) - 1
      · rw [if_pos (tr_pos q1)]
        by_cases hk0 : k = 0
        · subst hk0
          rw [if_neg (show ¬ (0 : Int) < ((0 : Nat) : Int) by omega)]
          refine fin _ ⟨fun q => q.2.2, fun q => ⟨q1, fun y h => by omega, q⟩⟩
        · have hy : l[k - 1]? = some l[k - 1] := List.getElem?_eq_getElem (by omega)
          have hy2 : atI l ((k : Int) - 1) = some l[k - 1] := atI_some (by omega) (by rw [← hy]; congr 1; omega)
          generalize l[k - 1] = y at hy hy2
          rw [if_pos (by omega), W_in (n := (k : Int) - 1) (by omega) (by omega), hy2, Option.bind_some]
          by_cases q2 : TSource.Node x ≤ TSource.Node y
          · rw [if_pos q2]
            exact ⟨fun q => by have := q.2.1 y (by omega) hy; omega, fun _ => rfl⟩
          · rw [if_neg q2]
            refine fin _ ⟨fun q => q.2.2, fun q => ⟨q1, fun z _ hz => ?_, q⟩⟩
            rw [hy] at hz; injection hz with hz; subst hz; omega
      · rw [if_neg (fun q => q1 ((tr_iff _).1 q))]
        exact ⟨fun q => absurd q.1 q1, fun _ => rfl⟩)
    (fun _ => by simp only [spec_l12Sources_loop0, Int.lt_irrefl, if_false]), sel_tr]
theorem impl_areSources_eq {b : TBlock} (h : BlkSm b) (v : Tview) (hv : Tview.places v = places (TBlock.Design b)) (l : List TSource) (hl : l.length ≤ 1048576) : impl_view_areSources v l = some (tr (AllE l (SourceOk (2 * ((places (TBlock.Design b)).length : Int)) l))) := by
  have hf := h.ok.1.few
  have hpl := places_len hf
  have hnode : ∀ n, impl_view_isNode v n = some (tr (0 ≤ n ∧ n ≤ 2 * ((places (TBlock.Design b)).length : Int) - 1)) := by
    intro n
    unfold impl_view_isNode impl_view_nodes
    rw [show impl_length_impl_place (Tview.places v) = some ((Tview.places v).length : Int) from rfl, Option.bind_some, Option.bind_some, hv, W_in (n := 2 * ((places (TBlock.Design b)).length : Int)) (by omega) (by omega), W_in (by omega) (by omega)]
    exact bind_tr (within_tr _ _ _)
  unfold impl_view_areSources
  rw [loopAll (l := l) (show Len l by unfold Len; omega) (SourceOk (2 * ((places (TBlock.Design b)).length : Int)) l) (bad := false) (good := true)
    (step := fun u => impl_view_areSources_loop0 v l u.1)
    (fun k x hx hk _ => by
      simp only [impl_view_areSources_loop0, show (k : Int) < (l.length : Int) from by omega, if_true, atI_nat, hx, Option.bind_some, hnode, impl_IsSpan_eq, impl_areSlews_eq]
      unfold SourceOk
      by_cases q1 : 0 ≤ TSource.Node x ∧ TSource.Node x ≤ 2 * ((places (TBlock.Design b)).length : Int) - 1
      · rw [if_pos (tr_pos q1)]
        by_cases q3 : SpanOk (TSource.Arrival x)
        · rw [if_pos (tr_pos q3)]
          by_cases q4 : SlewOk (TSource.Slew x)
          · rw [if_pos (tr_pos q4)]
            by_cases hk0 : k = 0
            · subst hk0
              rw [if_neg (show ¬ (0 : Int) < ((0 : Nat) : Int) by omega)]
              exact ⟨fun _ => rfl, fun q => absurd ⟨q1, fun y h => by omega, q3, q4⟩ q⟩
            · have hy : l[k - 1]? = some l[k - 1] := List.getElem?_eq_getElem (by omega)
              have hy2 : atI l ((k : Int) - 1) = some l[k - 1] := atI_some (by omega) (by rw [← hy]; congr 1; omega)
              generalize l[k - 1] = y at hy hy2
              rw [if_pos (by omega), W_in (n := (k : Int) - 1) (by omega) (by omega), hy2, Option.bind_some]
              by_cases q2 : TSource.Node x ≤ TSource.Node y
              · rw [if_pos q2]
                exact ⟨fun q => by have := q.2.1 y (by omega) hy; omega, fun _ => rfl⟩
              · rw [if_neg q2]
                refine ⟨fun _ => rfl, fun q => absurd ⟨q1, fun z _ hz => ?_, q3, q4⟩ q⟩
                rw [hy] at hz; injection hz with hz; subst hz; omega
          · rw [if_neg (fun q => q4 ((tr_iff _).1 q))]
            exact ⟨fun q => absurd q.2.2.2 q4, fun _ => rfl⟩
        · rw [if_neg (fun q => q3 ((tr_iff _).1 q))]
          exact ⟨fun q => absurd q.2.2.1 q3, fun _ => rfl⟩
      · rw [if_neg (fun q => q1 ((tr_iff _).1 q))]
        exact ⟨fun q => absurd q.1 q1, fun _ => rfl⟩)
    (fun _ => by simp only [impl_view_areSources_loop0, Int.lt_irrefl, if_false]), sel_tr]
def goes (af : List Int) (n : Int) : Int := (af[(n / 2).toNat]?).getD 0
def carry (af : List Int) (x : TSource) : TSource := (IntKind.i64.wrap (IntKind.i64.wrap (2 * goes af (TSource.Node x)) + Int.tmod (TSource.Node x) 2), x.2)
theorem goes_at {af : List Int} {n : Int} (h0 : 0 ≤ n) (h1 : n ≤ 2 * (af.length : Int) - 1) (h2 : af.length ≤ 1048576) : atI af (IntKind.i64.wrap (Int.tdiv n 2)) = some (goes af n) := by
  rw [Int.tdiv_eq_ediv_of_nonneg h0, W_in (by omega) (by omega)]
  have hlt : (n / 2).toNat < af.length := by omega
  have hg := List.getElem?_eq_getElem hlt
  rw [atI_some (by omega) hg]
  unfold goes
  rw [hg]; rfl
theorem set_carry {l : List TSource} {f : TSource → TSource} {k : Nat} {x : TSource} (hx : l[k]? = some x) : List.set ((l.take k).map f ++ l.drop k) k (f x) = (l.take (k + 1)).map f ++ l.drop (k + 1) := by
  have hk := (List.getElem?_eq_some_iff.1 hx).1
  have hlen : ((l.take k).map f).length = k := by rw [List.length_map, List.length_take]; omega
  have hd : l.drop k = x :: l.drop (k + 1) := by
    rw [List.drop_eq_getElem_cons hk]
    congr 1
    exact (List.getElem?_eq_some_iff.1 hx).2
  rw [hd, take_snoc hx, List.map_append, List.set_append]
  rw [if_neg (by omega), hlen, Nat.sub_self]
  simp
theorem carry_at {l : List TSource} {f : TSource → TSource} {k : Nat} {x : TSource} (hx : l[k]? = some x) : ((l.take k).map f ++ l.drop k)[k]? = some x := by
  have hk := (List.getElem?_eq_some_iff.1 hx).1
  have hlen : ((l.take k).map f).length = k := by rw [List.length_map, List.length_take]; omega
  rw [List.getElem?_append_right (by omega), hlen, Nat.sub_self, List.getElem?_drop]
  exact hx
theorem sourcesAfter_eq (b : TBlock) (e : TEdit) (l : List TSource) (hb : sm tBlock b) (he : sm tEdit e) (hl : l.length ≤ 1048576) : ∃ r, impl_SourcesAfter b e l = some r ∧ spec_SourcesAfter b e l = some r ∧ r.1.length ≤ 1048576 := by
  obtain ⟨c, h1, h2, h3⟩ := editCode_eq b e hb he
  unfold impl_SourcesAfter spec_SourcesAfter
  rw [h1, h2, Option.bind_some, Option.bind_some]
  by_cases hc : c = 0
  · have h := h3 hc
    have hpl := places_len h.blk.ok.1.few
    obtain ⟨v, hv1, hv2, _⟩ := newView_tot h.blk
    rw [if_pos hc, if_pos hc, hv1, Option.bind_some, impl_areSources_eq h.blk v hv2 l hl, spec_l12Sources_eq h.blk l hl, Option.bind_some, Option.bind_some]
    by_cases hS : AllE l (SourceOk (2 * ((places (TBlock.Design b)).length : Int)) l)
    · have hal := after_len b e
      rw [if_pos (tr_pos hS), if_pos (tr_pos hS), impl_placesAfter_eq h, Option.bind_some]
      unfold spec_l32Sources slices_Clone_Simpl_Source_impl_Source
      rw [spec_l32Places_eq h, Option.bind_some, guardO_pos (by rw [List.length_nil]; omega), Option.bind_some, List.nil_append]
      have hat : ∀ (k : Nat) (x : TSource), l[k]? = some x → atI (after b e) (IntKind.i64.wrap (Int.tdiv (TSource.Node x) 2)) = some (goes (after b e) (TSource.Node x)) := fun k x hx => by
        have := (hS k x hx).1
        exact goes_at this.1 (by rw [hal]; omega) (by rw [hal]; omega)
      have i1 := loopAllF (l := l) (ρ := List TSource × Int) (fun k => ((k : Int), (l.take k).map (carry (after b e)) ++ l.drop k, ())) (fun _ x => 0 ≤ goes (after b e) (TSource.Node x)) (step := fun v => impl_SourcesAfter_loop0 l (after b e) v.1 v.2.1) (bad := ([], 5)) (good := (l.map (carry (after b e)), 0))
        (fun k x hx hk _ => by
          simp only [impl_SourcesAfter_loop0, show (k : Int) < (l.length : Int) from by omega, if_true, atI_nat, hx, Option.bind_some, impl_carried, hat k x hx, decide_eq_true_eq, carry_at hx, Int.toNat_natCast, W_suc (show k ≤ 1048576 by omega)]
          constructor
          · intro q
            rw [if_pos q, show ((IntKind.i64.wrap (IntKind.i64.wrap (2 * goes (after b e) (TSource.Node x)) + Int.tmod (TSource.Node x) 2), x.2) : TSource) = carry (after b e) x from rfl, set_carry hx]
          · intro q; rw [if_neg q])
        (fun _ => by simp only [impl_SourcesAfter_loop0, Int.lt_irrefl, if_false, List.take_length, List.drop_length, List.append_nil])
      have i2 := loopAllF (l := l) (ρ := List TSource × Bool) (fun k => ((l.take k).map (carry (after b e)), (k : Int), ())) (fun _ x => 0 ≤ goes (after b e) (TSource.Node x)) (step := fun v => spec_l32Sources_loop0 l (after b e) v.1 v.2.1) (bad := ([], false)) (good := (l.map (carry (after b e)), true))
        (fun k x hx hk _ => by
          simp only [spec_l32Sources_loop0, show (k : Int) < (l.length : Int) from by omega, if_true, atI_nat, hx, Option.bind_some, hat k x hx, W_suc (show k ≤ 1048576 by omega)]
          rw [guardO_pos (by rw [List.length_map, List.length_take, List.length_singleton]; omega)]
          constructor
          · intro q
            rw [if_neg (by omega), take_snoc hx, List.map_append]
            rfl
          · intro q; rw [if_pos (by omega)])
        (fun _ => by simp only [spec_l32Sources_loop0, Int.lt_irrefl, if_false, List.take_length])
      simp only [List.take_zero, List.map_nil, List.nil_append, List.drop_zero] at i1 i2
      rw [show ((0 : Nat) : Int) = 0 from rfl] at i1 i2
      rw [i1, i2, Option.bind_some]
      by_cases hA : AllE l (fun _ x => 0 ≤ goes (after b e) (TSource.Node x))
      · rw [sel_pos hA, sel_pos hA]
        exact ⟨_, rfl, rfl, by simp only [List.length_map]; exact hl⟩
      · rw [sel_neg hA, sel_neg hA]
        exact ⟨_, rfl, rfl, by simp⟩
    · rw [if_neg (fun q => hS ((tr_iff _).1 q)), if_neg (fun q => hS ((tr_iff _).1 q))]
      exact ⟨_, rfl, rfl, by simp⟩
  · rw [if_neg hc, if_neg hc]
    exact ⟨_, rfl, rfl, by simp⟩
end Go.Proofs.YtaccffcigblceaaGreatDoor
/-
  Plain laws: the law FnExactSourcesAfter.
-/
namespace Go.Proofs.YtaccffcigblceaaGreatDoor
set_option linter.unusedVariables false
set_option linter.unusedSimpArgs false
open Go Go.Sx
theorem held_sources (l : List TSource) (hl : l.length ≤ 1048576) : ∃ l', laws_markSourceS l 1 = some (1 + ((5 * l.length : Nat) : Int), l') ∧ laws_heldSourceS l' 1 = some (1 + ((5 * l.length : Nat) : Int)) := by
  obtain ⟨l', h1, h2, h3⟩ := mark_flat (l := l) (c := 5) (g := fun m => ((m, (m + 1, m + 1 + 1, ()), (m + 1 + 1 + 1, m + 1 + 1 + 1 + 1, ()), ()) : TSource)) (step := fun v => laws_markSourceS_loop0 v.1 v.2.1 v.2.2.1)
    (fun j m x L hj hj' hx h0 h1 hj2 => by
      have hx2 : atI L (j : Int) = some x := by rw [atI_nat]; exact hx
      have hb : ∀ {β : Type} (y : TSource) (F : TSource → Option β), (atI (List.set L j y) (j : Int)).bind F = F y := fun y F => by rw [atI_set hj]; rfl
      simp only [laws_markSourceS_loop0, if_pos hj', Int.toNat_natCast, hx2, ↓hb, Option.bind_some, List.set_set, W_in (show (-9223372036854775808 : Int) ≤ m + 1 by omega) (by omega), W_in (show (-9223372036854775808 : Int) ≤ m + 1 + 1 by omega) (by omega), W_in (show (-9223372036854775808 : Int) ≤ m + 1 + 1 + 1 by omega) (by omega), W_in (show (-9223372036854775808 : Int) ≤ m + 1 + 1 + 1 + 1 by omega) (by omega), W_in (show (-9223372036854775808 : Int) ≤ m + 1 + 1 + 1 + 1 + 1 by omega) (by omega), W_suc (show j ≤ 1048576 by omega)]
      rw [show m + 1 + 1 + 1 + 1 + 1 = m + ((5 : Nat) : Int) by omega])
    (fun m L => by simp only [laws_markSourceS_loop0, Int.lt_irrefl, if_false]) hl (by omega)
  refine ⟨l', h1, ?_⟩
  exact held_flat (n := l.length) (c := 5) (g := fun m => ((m, (m + 1, m + 1 + 1, ()), (m + 1 + 1 + 1, m + 1 + 1 + 1 + 1, ()), ()) : TSource)) (step := fun v => laws_heldSourceS_loop0 l' v.1 v.2.1) h2 h3
    (fun j m hj hx h0 h1 hj2 => by
      simp only [laws_heldSourceS_loop0, if_pos hj, atI_nat, hx, Option.bind_some, W_in (show (-9223372036854775808 : Int) ≤ m + 1 by omega) (by omega), W_in (show (-9223372036854775808 : Int) ≤ m + 1 + 1 by omega) (by omega), W_in (show (-9223372036854775808 : Int) ≤ m + 1 + 1 + 1 by omega) (by omega), W_in (show (-9223372036854775808 : Int) ≤ m + 1 + 1 + 1 + 1 by omega) (by omega), W_in (show (-9223372036854775808 : Int) ≤ m + 1 + 1 + 1 + 1 + 1 by omega) (by omega), W_suc (show j ≤ 1048576 by omega), if_true]
      rw [show m + 1 + 1 + 1 + 1 + 1 = m + ((5 : Nat) : Int) by omega])
    (fun m => by simp only [laws_heldSourceS_loop0, Int.lt_irrefl, if_false]) hl (by omega)
theorem few_sources (a : List TSource) (h : tot (.sl tSource) a ≤ 1048576) : cnt (.sl tSource) a ≤ 100 + 20 * 1048576 := by
  have hc := cnt_le (.sl tSource) a
  have h1 : wid (.sl tSource) ≤ 100 := by decide
  have h2 : widest (.sl tSource) ≤ 20 := by decide
  have := Nat.mul_le_mul_right (tot (.sl tSource) a) h2
  omega
theorem laws_FnExactSourcesAfter_ok (a0 : TBlock) (a1 : TEdit) (a2 : List TSource) (b0 : bnd tBlock a0) (b1 : bnd tEdit a1) (b2 : bnd (.sl tSource) a2) : laws_FnExactSourcesAfter a0 a1 a2 = some true := by
  unfold laws_FnExactSourcesAfter
  obtain ⟨n, e, hle, hP⟩ := laws_szBlock_ok a0 1048576 (by omega) (by omega) b0
  rw [e, Option.bind_some]
  by_cases hn : n < 0
  · rw [if_pos hn]
  rw [if_neg hn]
  have hs := hP (by omega)
  have ht := laws_szBlock_tot a0 1048576 (by omega) (by omega) b0 n e (by omega)
  obtain ⟨n1, e1, hle1, hP1⟩ := laws_szEdit_ok a1 n (by omega) (by omega) b1
  rw [e1, Option.bind_some]
  by_cases hn1 : n1 < 0
  · rw [if_pos hn1]
  rw [if_neg hn1]
  have hs1 := hP1 (by omega)
  have ht1 := laws_szEdit_tot a1 n (by omega) (by omega) b1 n1 e1 (by omega)
  obtain ⟨n2, e2, hle2, hP2⟩ := laws_szSourceS_ok a2 n1 (by omega) (by omega) b2
  rw [e2, Option.bind_some]
  by_cases hn2 : n2 < 0
  · rw [if_pos hn2]
  rw [if_neg hn2]
  have hs2 := hP2 (by omega)
  have ht2 := laws_szSourceS_tot a2 n1 (by omega) (by omega) b2 n2 e2 (by omega)
  have hcb := few_block a0 (by omega)
  have hte := tot_edit a1
  have hcw := few_wire (TEdit.Wire a1) (by omega)
  have hcs := few_sources a2 (by omega)
  have hl2 : a2.length ≤ 1048576 := by have := hs2.1; omega
  obtain ⟨r, c1, c2, c3⟩ := sourcesAfter_eq a0 a1 a2 hs hs1 hl2
  have hw : cnt tWire a1.2.2.2.2.2.2.1 = cnt tWire (TEdit.Wire a1) := rfl
  obtain ⟨m0, hm0⟩ := laws_markBlock_mk a0 1 hs (by omega) (by omega)
  obtain ⟨m1, hm1⟩ := laws_markEdit_mk a1 (1 + ((cnt tBlock a0 : Nat) : Int)) hs1 (by omega) (by omega)
  obtain ⟨m2, hm2⟩ := laws_markSourceS_mk a2 (1 + ((cnt tBlock a0 : Nat) : Int) + ((cnt tWire a1.2.2.2.2.2.2.1 : Nat) : Int)) hs2 (by omega) (by omega)
  obtain ⟨m3, hm3, hm4⟩ := held_sources r.1 c3
  have hr : sm (.sl tSource) r.1 := ⟨by omega, fun x _ => sm_fixed _ (by rfl) x⟩
  have hneg : ¬ (1 + ((cnt tBlock a0 : Nat) : Int) + ((cnt tWire a1.2.2.2.2.2.2.1 : Nat) : Int) + ((cnt (.sl tSource) a2 : Nat) : Int)) < 0 := by omega
  have hneg2 : ¬ (1 + ((5 * r.1.length : Nat) : Int)) < 0 := by omega
  simp only [laws_toBlock_ok _ hs, laws_toEdit_ok _ hs1, laws_toSourceS_ok _ hs2, Option.bind_some, c1, c2, laws_eqSourceS_ok _ hr, laws_eqSourceS_ok _ hs2, laws_eqBlock_ok _ hs, laws_eqEdit_ok _ hs1, if_true, hm0, hm1, hm2, hm3, hm4, hneg, hneg2, if_false]
end Go.Proofs.YtaccffcigblceaaGreatDoor
