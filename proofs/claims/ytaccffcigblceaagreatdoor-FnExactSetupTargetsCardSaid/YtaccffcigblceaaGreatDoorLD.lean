/-
  Plain laws: spans, slews.
-/
import Derived.Test.YtaccffcigblceaaGreatDoorLB
import Derived.Test.YtaccffcigblceaaGreatDoorLC
import Derived.Test.YtaccffcigblceaaGreatDoorLA
namespace Go.Proofs.YtaccffcigblceaaGreatDoor
set_option linter.unusedVariables false
set_option linter.unusedSimpArgs false
open Go Go.Sx
def SlewOk (s : TSpan) : Prop := 0 ≤ TSpan.Early s ∧ TSpan.Early s ≤ TSpan.Late s ∧ TSpan.Late s ≤ 1000000
theorem spec_l12Slews_eq (s : TSpan) : spec_l12Slews s = some (tr (SlewOk s)) := by
  unfold spec_l12Slews SlewOk
  exact and_ifP (fun _ => and_ifP (fun _ => fin_tr decide_eq_true_iff))
def SpanOk (s : TSpan) : Prop := (-1000000000 ≤ TSpan.Early s ∧ TSpan.Early s ≤ 1000000000) ∧ (-1000000000 ≤ TSpan.Late s ∧ TSpan.Late s ≤ 1000000000) ∧ TSpan.Early s ≤ TSpan.Late s
theorem impl_IsSpan_eq (s : TSpan) : impl_IsSpan s = some (tr (SpanOk s)) := by
  unfold impl_IsSpan SpanOk impl_isTime
  exact bind_if (bind_tr (within_tr _ _ _)) (fun _ => bind_if (bind_tr (within_tr _ _ _)) (fun _ => fin_tr decide_eq_true_iff))
theorem impl_areSlews_eq (s : TSpan) : impl_areSlews s = some (tr (SlewOk s)) := by
  unfold impl_areSlews impl_isSlew
  refine eq_tr (bind_if (impl_IsSpan_eq s) (fun _ => bind_if (bind_tr (within_tr _ _ _)) (fun _ => bind_tr (bind_tr (within_tr _ _ _))))) ?_
  unfold SlewOk SpanOk
  omega
end Go.Proofs.YtaccffcigblceaaGreatDoor
/-
  Plain laws: externals, setups; the law.
-/
namespace Go.Proofs.YtaccffcigblceaaGreatDoor
set_option linter.unusedVariables false
set_option linter.unusedSimpArgs false
open Go Go.Sx
theorem sifP {ρ : Type} {P Q : Prop} {_ : Decidable P} {m : Option ρ} {a b : ρ} (hm : P → m = some (sel Q a b)) : (if P then m else some b) = some (sel (P ∧ Q) a b) := by
  by_cases h : P
  · rw [if_pos h, hm h]
    by_cases q : Q
    · rw [sel_pos q, sel_pos ⟨h, q⟩]
    · rw [sel_neg q, sel_neg (fun x => q x.2)]
  · rw [if_neg h, sel_neg (fun q => h q.1)]
theorem sifN {ρ : Type} {P Q : Prop} {_ : Decidable P} {m : Option ρ} {a b : ρ} (hm : ¬ P → m = some (sel Q a b)) : (if P then some b else m) = some (sel (¬ P ∧ Q) a b) := by
  by_cases h : P
  · rw [if_pos h, sel_neg (fun q => q.1 h)]
  · rw [if_neg h, hm h]
    by_cases q : Q
    · rw [sel_pos q, sel_pos ⟨h, q⟩]
    · rw [sel_neg q, sel_neg (fun x => q x.2)]
theorem sbind {ρ : Type} {P Q : Prop} {c : Option Bool} {m : Option ρ} {a b : ρ} (h : c = some (tr P)) (hm : P → m = some (sel Q a b)) : (c.bind fun x => if x = true then m else some b) = some (sel (P ∧ Q) a b) := by
  rw [h, Option.bind_some]
  by_cases hp : P
  · rw [if_pos (tr_pos hp), hm hp]
    by_cases q : Q
    · rw [sel_pos q, sel_pos ⟨hp, q⟩]
    · rw [sel_neg q, sel_neg (fun x => q x.2)]
  · rw [if_neg (by rw [tr_neg hp]; simp), sel_neg (fun q => hp q.1)]
theorem sfin {ρ : Type} {a b : ρ} : some a = some (sel True a b) := by rw [sel_pos trivial]
theorem sel_eq {ρ : Type} {m : Option ρ} {P Q : Prop} {a b : ρ} (h : m = some (sel P a b)) (hpq : P ↔ Q) : m = some (sel Q a b) := by rw [h, propext hpq]
theorem sel_both {ρ : Type} {m : Option ρ} {P : Prop} {a b : ρ} (h : m = some (sel P a b)) : (P → m = some a) ∧ (¬ P → m = some b) := ⟨fun q => by rw [h, sel_pos q], fun q => by rw [h, sel_neg q]⟩
def DelOk (s : TSpan) : Prop := TSpan.Early s ≤ TSpan.Late s ∧ -100000 ≤ TSpan.Early s ∧ TSpan.Late s ≤ 100000
def Outer (pl : List Pl) (drv : Bool) (i : Int) : Prop := ∃ p, atI pl i = some p ∧ p.1 < 0 ∧ p.2.2.2.1 = drv
def ExtOk (pl : List Pl) (nc : Int) (drv : Bool) (l : List TExternal) (k : Nat) (x : TExternal) : Prop :=
  (0 ≤ TExternal.Place x ∧ TExternal.Place x ≤ (pl.length : Int) - 1) ∧ Outer pl drv (TExternal.Place x) ∧ (∀ y, 0 < k → l[k - 1]? = some y → TExternal.Place y < TExternal.Place x) ∧
  (0 ≤ TExternal.Clock x ∧ TExternal.Clock x ≤ nc - 1) ∧ DelOk (TExternal.Delay x) ∧ SlewOk (TExternal.Slew x) ∧ (drv = false → TSpan.Early (TExternal.Slew x) = 0 ∧ TSpan.Late (TExternal.Slew x) = 0)
def ExtsOk (pl : List Pl) (nc : Int) (drv : Bool) (l : List TExternal) : Prop := AllE l (ExtOk pl nc drv l)
theorem impl_isPlace_eq (v : Tview) (i : Int) (hn : (Tview.places v).length ≤ 1048576) : impl_view_isPlace v i = some (tr (0 ≤ i ∧ i ≤ ((Tview.places v).length : Int) - 1)) := by
  unfold impl_view_isPlace
  rw [show impl_length_impl_place (Tview.places v) = some ((Tview.places v).length : Int) from rfl, Option.bind_some, W_in (by omega) (by omega)]
  exact bind_tr (within_tr _ _ _)
theorem zero_iff {s : TSpan} : (Decidable.decide (TSpan.Early s = (0 : Int)) && Decidable.decide (TSpan.Late s = (0 : Int))) = true ↔ TSpan.Early s = 0 ∧ TSpan.Late s = 0 := by simp
theorem outer_iff {pl : List Pl} {drv : Bool} {i : Int} {p : Pl} (h : atI pl i = some p) : Outer pl drv i ↔ ¬ (0 : Int) ≤ p.1 ∧ (p.2.2.2.1 == drv) = true := by
  unfold Outer
  rw [h, beq_iff_eq]
  constructor
  · rintro ⟨q, q1, q2, q3⟩
    injection q1 with q1
    subst q1
    exact ⟨by omega, q3⟩
  · rintro ⟨q1, q2⟩
    exact ⟨p, rfl, by omega, q2⟩
theorem before_iff {l : List TExternal} {k : Nat} {x y : TExternal} (hk : 0 < k) (hy : l[k - 1]? = some y) : (∀ y, 0 < k → l[k - 1]? = some y → TExternal.Place y < TExternal.Place x) ↔ ¬ TExternal.Place x ≤ TExternal.Place y := by
  constructor
  · intro h
    have := h y hk hy
    omega
  · intro h z _ hz
    rw [hy] at hz
    injection hz with hz
    subst hz
    omega
theorem before_zero {l : List TExternal} {k : Nat} {x : TExternal} (hk : ¬ 0 < k) : (∀ y, 0 < k → l[k - 1]? = some y → TExternal.Place y < TExternal.Place x) ↔ True := ⟨fun _ => trivial, fun _ y h => absurd h hk⟩
theorem impl_areExternals_eq (v : Tview) (l : List TExternal) (drv : Bool) (nc : Int) (h : sm (.sl tExternal) l) (hn : (Tview.places v).length ≤ 1048576) (h0 : 0 ≤ nc) (h1 : nc ≤ 1048576) : impl_view_areExternals v l drv nc = some (tr (ExtsOk (Tview.places v) nc drv l)) := by
  have hs := small_of_sm h
  have e1 : IntKind.i64.wrap (nc - 1) = nc - 1 := W_in (by omega) (by omega)
  unfold impl_view_areExternals
  rw [loopAll (len_of_sm h) (ExtOk (Tview.places v) nc drv l) (bad := false) (good := true)
    (fun k x hx hk _ => by
      refine sel_both ?_
      simp only [impl_view_areExternals_loop0, show (k : Int) < (l.length : Int) from by omega, if_true, atI_nat, hx, Option.bind_some, e1]
      refine sel_eq (Q := ExtOk (Tview.places v) nc drv l k x) (P := (0 ≤ TExternal.Place x ∧ TExternal.Place x ≤ ((Tview.places v).length : Int) - 1) ∧ ExtOk (Tview.places v) nc drv l k x) (sbind (impl_isPlace_eq v _ hn) (fun hp => ?_)) ⟨fun q => q.2, fun q => ⟨q.1, q⟩⟩
      obtain ⟨p, hp1, _⟩ := at_of hp.1 (show TExternal.Place x < ((Tview.places v).length : Int) by omega)
      rw [hp1, Option.bind_some]
      by_cases hk0 : 0 < k
      · obtain ⟨y, hy⟩ : ∃ y, l[k - 1]? = some y := ⟨_, List.getElem?_eq_getElem (by omega)⟩
        rw [if_pos (show (0 : Int) < (k : Int) by omega), W_pred (by omega) (by omega), atI_nat, hy, Option.bind_some]
        cases drv
        · simp only [Bool.false_eq_true, if_false]
          refine sel_eq (sifN (fun _ => sifP (fun _ => sifN (fun _ => sbind (within_tr _ _ _) (fun _ => sbind (impl_IsSpan_eq _) (fun _ => sifN (fun _ => sifN (fun _ => sifP (fun _ => sfin))))))))) ?_
          unfold ExtOk
          rw [outer_iff hp1, before_iff hk0 hy, zero_iff]
          unfold DelOk SlewOk SpanOk
          grind
        · simp only [if_true]
          refine sel_eq (sifN (fun _ => sifP (fun _ => sifN (fun _ => sbind (within_tr _ _ _) (fun _ => sbind (impl_IsSpan_eq _) (fun _ => sifN (fun _ => sifN (fun _ => sbind (impl_areSlews_eq _) (fun _ => sfin))))))))) ?_
          unfold ExtOk
          rw [outer_iff hp1, before_iff hk0 hy]
          unfold DelOk SlewOk SpanOk
          grind
      · rw [if_neg (show ¬ (0 : Int) < (k : Int) by omega)]
        cases drv
        · simp only [Bool.false_eq_true, if_false]
          refine sel_eq (sifN (fun _ => sifP (fun _ => sbind (within_tr _ _ _) (fun _ => sbind (impl_IsSpan_eq _) (fun _ => sifN (fun _ => sifN (fun _ => sifP (fun _ => sfin)))))))) ?_
          unfold ExtOk
          rw [outer_iff hp1, before_zero hk0, zero_iff]
          unfold DelOk SlewOk SpanOk
          grind
        · simp only [if_true]
          refine sel_eq (sifN (fun _ => sifP (fun _ => sbind (within_tr _ _ _) (fun _ => sbind (impl_IsSpan_eq _) (fun _ => sifN (fun _ => sifN (fun _ => sbind (impl_areSlews_eq _) (fun _ => sfin)))))))) ?_
          unfold ExtOk
          rw [outer_iff hp1, before_zero hk0]
          unfold DelOk SlewOk SpanOk
          grind)
    (fun _ => by simp only [impl_view_areExternals_loop0, Int.lt_irrefl, if_false]), sel_tr]
  rfl
theorem spec_l31Externals_eq (b : TBlock) (s : TSetup) (l : List TExternal) (drv : Bool) (h : sm (.sl tExternal) l) (hf : Few (TBlock.Design b)) (hc : (TSetup.Clocks s).length ≤ 1048576) : spec_l31Externals b s l drv = some (tr (ExtsOk (places (TBlock.Design b)) ((TSetup.Clocks s).length : Int) drv l)) := by
  have hs := small_of_sm h
  have hpl := places_len hf
  have e1 : IntKind.i64.wrap (((TSetup.Clocks s).length : Int) - 1) = ((TSetup.Clocks s).length : Int) - 1 := W_in (by omega) (by omega)
  have e2 : IntKind.i64.wrap (((places (TBlock.Design b)).length : Int) - 1) = ((places (TBlock.Design b)).length : Int) - 1 := W_in (by omega) (by omega)
  unfold spec_l31Externals
  rw [spec_l05Places_eq _ hf, Option.bind_some]
  rw [loopAll (len_of_sm h) (ExtOk (places (TBlock.Design b)) ((TSetup.Clocks s).length : Int) drv l) (bad := false) (good := true)
    (fun k x hx hk _ => by
      refine sel_both ?_
      simp only [spec_l31Externals_loop0, show (k : Int) < (l.length : Int) from by omega, if_true, atI_nat, hx, Option.bind_some, e1, e2]
      refine sel_eq (Q := ExtOk (places (TBlock.Design b)) ((TSetup.Clocks s).length : Int) drv l k x) (P := (0 ≤ TExternal.Place x ∧ TExternal.Place x ≤ ((places (TBlock.Design b)).length : Int) - 1) ∧ ExtOk (places (TBlock.Design b)) ((TSetup.Clocks s).length : Int) drv l k x) (sbind (l01In_tr _ _ _) (fun hp => ?_)) ⟨fun q => q.2, fun q => ⟨q.1, q⟩⟩
      obtain ⟨p, hp1, _⟩ := at_of hp.1 (show TExternal.Place x < ((places (TBlock.Design b)).length : Int) by omega)
      rw [hp1]
      simp only [Option.bind_some]
      by_cases hk0 : 0 < k
      · obtain ⟨y, hy⟩ : ∃ y, l[k - 1]? = some y := ⟨_, List.getElem?_eq_getElem (by omega)⟩
        rw [if_pos (show (0 : Int) < (k : Int) by omega), W_pred (by omega) (by omega), atI_nat, hy, Option.bind_some]
        cases drv
        · simp only [Bool.false_eq_true, if_false]
          refine sel_eq (sifN (fun _ => sbind (l01In_tr _ _ _) (fun _ => sifN (fun _ => sifP (fun _ => sifN (fun _ => sifN (fun _ => sifN (fun _ => sbind (spec_l12Slews_eq _) (fun _ => sifP (fun _ => sfin)))))))))) ?_
          unfold ExtOk
          rw [outer_iff hp1, before_iff hk0 hy, zero_iff]
          unfold DelOk SlewOk
          grind
        · simp only [if_true]
          refine sel_eq (sifN (fun _ => sbind (l01In_tr _ _ _) (fun _ => sifN (fun _ => sifP (fun _ => sifN (fun _ => sifN (fun _ => sifN (fun _ => sbind (spec_l12Slews_eq _) (fun _ => sfin))))))))) ?_
          unfold ExtOk
          rw [outer_iff hp1, before_iff hk0 hy]
          unfold DelOk SlewOk
          grind
      · rw [if_neg (show ¬ (0 : Int) < (k : Int) by omega)]
        cases drv
        · simp only [Bool.false_eq_true, if_false]
          refine sel_eq (sbind (l01In_tr _ _ _) (fun _ => sifN (fun _ => sifP (fun _ => sifN (fun _ => sifN (fun _ => sifN (fun _ => sbind (spec_l12Slews_eq _) (fun _ => sifP (fun _ => sfin))))))))) ?_
          unfold ExtOk
          rw [outer_iff hp1, before_zero hk0, zero_iff]
          unfold DelOk SlewOk
          grind
        · simp only [if_true]
          refine sel_eq (sbind (l01In_tr _ _ _) (fun _ => sifN (fun _ => sifP (fun _ => sifN (fun _ => sifN (fun _ => sifN (fun _ => sbind (spec_l12Slews_eq _) (fun _ => sfin)))))))) ?_
          unfold ExtOk
          rw [outer_iff hp1, before_zero hk0]
          unfold DelOk SlewOk
          grind)
    (fun _ => by simp only [spec_l31Externals_loop0, Int.lt_irrefl, if_false]), sel_tr]
  rfl
theorem smSetup {s : TSetup} (h : sm tSetup s) : sm (.sl tClock) (TSetup.Clocks s) ∧ sm (.sl tExternal) (TSetup.Inputs s) ∧ sm (.sl tExternal) (TSetup.Outputs s) ∧ sm (.sl tException) (TSetup.Exceptions s) ∧ sm (.sl tCorner) (TSetup.Corners s) := by
  refine ⟨?_, ?_, ?_, ?_, ?_⟩
  all_goals first | exact h.1 | exact h.2.1 | exact h.2.2.1 | exact h.2.2.2.1 | exact h.2.2.2.2.1
theorem smClocks {l : List TClock} (h : sm (.sl tClock) l) : pNames l := by
  intro c hc
  have := sm_mem h hc
  refine str_of_sm ?_
  first | exact this.1 | exact this.2.1
def SetOk (pl : List Pl) (s : TSetup) : Prop :=
  ClocksOk (TSetup.Clocks s) ∧ (∀ c ∈ TSetup.Clocks s, TClock.Place c < (pl.length : Int)) ∧ ExtsOk pl ((TSetup.Clocks s).length : Int) true (TSetup.Inputs s) ∧ ExtsOk pl ((TSetup.Clocks s).length : Int) false (TSetup.Outputs s) ∧
  (TSetup.Exceptions s).length ≤ 6 ∧ (∀ e ∈ TSetup.Exceptions s, ExcOk pl.length e) ∧ CornersOk (TSetup.Corners s)
theorem ClocksOk.place {l : List TClock} (h : ClocksOk l) {c : TClock} (hc : c ∈ l) : 0 ≤ TClock.Place c := by
  obtain ⟨k, hk⟩ := List.mem_iff_getElem?.1 hc
  have h1 := h.2.1 k c (by have := (List.getElem?_eq_some_iff.1 hk).1; omega) hk
  unfold clockOk plainOk at h1
  simp only [Bool.and_eq_true, decide_eq_true_eq] at h1
  exact h1.1.1.1.1.1
theorem impl_isSetup_eq (v : Tview) (s : TSetup) (h : sm tSetup s) (hn : (Tview.places v).length ≤ 1048576) : impl_view_isSetup v s = some (tr (SetOk (Tview.places v) s)) := by
  obtain ⟨a1, a2, a3, a4, a5⟩ := smSetup h
  have s1 := small_of_sm a1
  unfold impl_view_isSetup
  rw [show impl_length_impl_Clock (TSetup.Clocks s) = some ((TSetup.Clocks s).length : Int) from rfl, Option.bind_some]
  refine eq_tr (bind_if (impl_IsClocks_eq _) (fun hC => bind_ifn (P := ¬ ∀ c ∈ TSetup.Clocks s, TClock.Place c < ((Tview.places v).length : Int)) ?_ (fun _ => bind_if (impl_areExternals_eq v _ true _ a2 hn (by omega) (by omega)) (fun _ => bind_if (impl_areExternals_eq v _ false _ a3 hn (by omega) (by omega)) (fun _ => and_ifN (fun _ => bind_ifn (P := ¬ ∀ e ∈ TSetup.Exceptions s, ExcOk (Tview.places v).length e) ?_ (fun _ => (?_ : _ = some (tr (CornersOk (TSetup.Corners s))))))))))) ?_
  · rw [slices_ContainsFunc_Simpl_Clock_impl_Clock_at_impl_view_isSetup_c1_eq (len_of_sm a1) (fun c => !tr (0 ≤ TClock.Place c ∧ TClock.Place c ≤ ((Tview.places v).length : Int) - 1)) (fun c _ => by
      unfold impl_view_isSetup_c1
      show (impl_view_isPlace v (TClock.Place c)).bind _ = _
      rw [impl_isPlace_eq v _ hn]; rfl)]
    refine fin_tr ?_
    rw [List.any_eq_true]
    constructor
    · rintro ⟨c, hc, hb⟩ hall
      have := hall c hc
      have h0 := hC.place hc
      rw [tr_pos (by omega)] at hb
      cases hb
    · intro hh
      apply Classical.byContradiction
      intro hne
      refine hh (fun c hc => ?_)
      apply Classical.byContradiction
      intro hlt
      exact hne ⟨c, hc, by rw [tr_neg (by omega)]; rfl⟩
  · rw [slices_ContainsFunc_Simpl_Exception_impl_Exception_at_impl_view_isSetup_c2_eq (len_of_sm a4) (fun e => !tr (ExcOk (Tview.places v).length e)) (fun e he => by
      unfold impl_view_isSetup_c2
      show (impl_view_isException v e).bind _ = _
      rw [impl_view_isException_eq v e (sm_mem a4 he) hn]; rfl)]
    refine fin_tr ?_
    rw [List.any_eq_true]
    constructor
    · rintro ⟨c, hc, hb⟩ hall
      rw [tr_pos (hall c hc)] at hb
      cases hb
    · intro hh
      apply Classical.byContradiction
      intro hne
      refine hh (fun c hc => ?_)
      apply Classical.byContradiction
      intro hlt
      exact hne ⟨c, hc, by rw [tr_neg hlt]; rfl⟩
  · by_cases h0 : (TSetup.Corners s).length = 0
    · rw [if_pos (by omega)]
      refine fin_tr ⟨fun _ => ?_, fun _ => rfl⟩
      have : TSetup.Corners s = [] := List.eq_nil_of_length_eq_zero h0
      rw [this]
      exact ⟨by simp, fun c hc => (by cases hc), fun j _ hj => (by simp at hj)⟩
    · rw [if_neg (by omega), impl_IsCornerList_eq _ a5 h0]; rfl
  · unfold SetOk
    simp only [Classical.not_not]
    constructor
    · rintro ⟨q1, q2, q3, q4, q5, q6, q7⟩; exact ⟨q1, q2, q3, q4, by omega, q6, q7⟩
    · rintro ⟨q1, q2, q3, q4, q5, q6, q7⟩; exact ⟨q1, q2, q3, q4, by omega, q6, q7⟩
def IsSetOk (b : TBlock) (s : TSetup) : Prop := BlockOk b ∧ SetOk (places (TBlock.Design b)) s
theorem impl_IsSetup_eq (b : TBlock) (s : TSetup) (hb : sm tBlock b) (hs : sm tSetup s) : impl_IsSetup b s = some (tr (IsSetOk b s)) := by
  unfold impl_IsSetup
  refine bind_if (impl_IsBlock_eq b hb) (fun hB => ?_)
  obtain ⟨v, h1, h2, _⟩ := newView_tot ⟨hB, hb⟩
  have hpl := places_len hB.1.few
  rw [h1, Option.bind_some, impl_isSetup_eq v s hs (by rw [h2]; omega), h2]; rfl
theorem spec_IsSetup_eq (b : TBlock) (s : TSetup) (hb : sm tBlock b) (hs : sm tSetup s) : spec_IsSetup b s = some (tr (IsSetOk b s)) := by
  obtain ⟨a1, a2, a3, a4, a5⟩ := smSetup hs
  have s1 := small_of_sm a1
  have s4 := small_of_sm a4
  unfold spec_IsSetup
  refine eq_tr (bind_if (spec_IsBlock_eq b hb) (fun hB => bind_if (spec_IsClocks_eq _ (smClocks a1) (by omega)) (fun hC => and_ifN (fun _ => bind_if (spec_l31Corners_eq _ a5) (fun _ => (?_ : _ = some (tr (AllE (TSetup.Clocks s) (fun _ c => TClock.Place c < ((places (TBlock.Design b)).length : Int)) ∧ AllE (TSetup.Exceptions s) (fun _ e => ExcOk (places (TBlock.Design b)).length e) ∧ ExtsOk (places (TBlock.Design b)) ((TSetup.Clocks s).length : Int) true (TSetup.Inputs s) ∧ ExtsOk (places (TBlock.Design b)) ((TSetup.Clocks s).length : Int) false (TSetup.Outputs s)))))))))  ?_
  · have hf := hB.1.few
    have hpl := places_len hf
    rw [loopAll (len_of_sm a1) (fun _ c => TClock.Place c < ((places (TBlock.Design b)).length : Int)) (bad := false) (good := tr (AllE (TSetup.Exceptions s) (fun _ e => ExcOk (places (TBlock.Design b)).length e) ∧ ExtsOk (places (TBlock.Design b)) ((TSetup.Clocks s).length : Int) true (TSetup.Inputs s) ∧ ExtsOk (places (TBlock.Design b)) ((TSetup.Clocks s).length : Int) false (TSetup.Outputs s)))
      (fun k c hx hk _ => by
        simp only [spec_IsSetup_loop1, show (k : Int) < ((TSetup.Clocks s).length : Int) from by omega, if_true, atI_nat, hx, Option.bind_some, spec_l05Places_eq _ hf]
        constructor
        · intro hh; rw [if_neg (by omega)]
        · intro hh; rw [if_pos (by omega)])
      (fun _ => by
        simp only [spec_IsSetup_loop1, Int.lt_irrefl, if_false]
        rw [loopAll (len_of_sm a4) (fun _ e => ExcOk (places (TBlock.Design b)).length e) (bad := .inr false) (good := .inr (tr (ExtsOk (places (TBlock.Design b)) ((TSetup.Clocks s).length : Int) true (TSetup.Inputs s) ∧ ExtsOk (places (TBlock.Design b)) ((TSetup.Clocks s).length : Int) false (TSetup.Outputs s))))
          (fun k e hx hk _ => by
            simp only [spec_IsSetup_loop0, show (k : Int) < ((TSetup.Exceptions s).length : Int) from by omega, if_true, atI_nat, hx, Option.bind_some, spec_IsException_eq b ⟨hB, hb⟩ e (sm_get a4 hx)]
            constructor
            · intro hh; rw [if_pos (tr_pos hh)]
            · intro hh; rw [if_neg (fun q => hh ((tr_iff _).1 q))])
          (fun _ => by
            simp only [spec_IsSetup_loop0, Int.lt_irrefl, if_false, spec_l31Externals_eq b s _ _ a2 hf s1, spec_l31Externals_eq b s _ _ a3 hf s1, Option.bind_some]
            by_cases q1 : ExtsOk (places (TBlock.Design b)) ((TSetup.Clocks s).length : Int) true (TSetup.Inputs s)
            · rw [if_pos (tr_pos q1)]
              congr 3
              exact tr_congr ⟨fun q => ⟨q1, q⟩, fun q => q.2⟩
            · rw [if_neg (fun q => q1 ((tr_iff _).1 q)), tr_neg (fun q => q1 q.1)])]
        congr 1
        by_cases q1 : AllE (TSetup.Exceptions s) (fun _ e => ExcOk (places (TBlock.Design b)).length e)
        · rw [sel_pos q1]
          congr 1
          exact tr_congr ⟨fun q => ⟨q1, q⟩, fun q => q.2⟩
        · rw [sel_neg q1, tr_neg (fun q => q1 q.1)]), sel_then]
  · unfold IsSetOk SetOk
    rw [AllE_mem, AllE_mem]
    constructor
    · rintro ⟨q1, q2, q3, q4, q5, q6, q7, q8⟩; exact ⟨q1, q2, q5, q7, q8, by omega, q6, q4⟩
    · rintro ⟨q1, q2, q5, q7, q8, q3, q6, q4⟩; exact ⟨q1, q2, by omega, q4, q5, q6, q7, q8⟩
end Go.Proofs.YtaccffcigblceaaGreatDoor
/-
  Plain laws: marks are held.
-/
namespace Go.Proofs.YtaccffcigblceaaGreatDoor
set_option linter.unusedVariables false
set_option linter.unusedSimpArgs false
open Go Go.Sx
theorem mark_flat {α : Type} {l : List α} {c : Nat} {g : Int → α} {step : Int × Int × List α × Unit → Option ((Int × Int × List α × Unit) ⊕ (Int × List α))}
    (hstep : ∀ (j : Nat) (m : Int) (x : α) (L : List α), j < L.length → (j : Int) < (L.length : Int) → L[j]? = some x → 0 ≤ m → m ≤ 4611686018427387904 → (j : Int) ≤ 1048576 → step (m, (j : Int), L, ()) = some (.inl (m + (c : Int), ((j + 1 : Nat) : Int), List.set L j (g m), ())))
    (hend : ∀ (m : Int) (L : List α), step (m, (L.length : Int), L, ()) = some (.inr (m, L))) (hl : l.length ≤ 1048576) (hc : c ≤ 1048576) :
    ∃ l', whileM step (1, 0, l, ()) = some (1 + ((c * l.length : Nat) : Int), l') ∧ l'.length = l.length ∧ ∀ j, j < l.length → l'[j]? = some (g (1 + ((c * j : Nat) : Int))) := by
  obtain ⟨r, h1, h2, h3, h4⟩ : ∃ r, whileM step (1, 0, l, ()) = some r ∧ r.1 = 1 + ((c * l.length : Nat) : Int) ∧ r.2.length = l.length ∧ ∀ j, j < l.length → r.2[j]? = some (g (1 + ((c * j : Nat) : Int))) := by
    refine whileM_range l.length (fun k v => v.1 = 1 + ((c * k : Nat) : Int) ∧ v.2.1 = (k : Int) ∧ v.2.2.1.length = l.length ∧ ∀ j, j < k → v.2.2.1[j]? = some (g (1 + ((c * j : Nat) : Int)))) _ ⟨by simp, rfl, rfl, fun j hj => by omega⟩ ?_ ?_
    · rintro k ⟨m, i, L, ⟨⟩⟩ hk ⟨hm, hi, hL, hS⟩
      simp only at hm hi hL hS
      have hck : c * k ≤ 1048576 * 1048576 := Nat.mul_le_mul hc (by omega)
      subst hm
      subst hi
      left
      refine ⟨_, hstep k _ _ L (by omega) (by omega) (List.getElem?_eq_getElem (by omega)) (by omega) (by omega) (by omega), by simp only; rw [Nat.mul_succ]; omega, rfl, by simp [hL], fun j hj => ?_⟩
      simp only
      rw [List.getElem?_set]
      split
      · rename_i e; rw [if_pos (by omega), e]
      · exact hS j (by omega)
    · rintro ⟨m, i, L, ⟨⟩⟩ ⟨hm, hi, hL, hS⟩
      simp only at hm hi hL hS
      subst hi
      rw [← hL, hend]
      exact ⟨_, rfl, by rw [hm, hL], rfl, fun j hj => hS j (by omega)⟩
  exact ⟨r.2, by rw [h1, ← h2], h3, h4⟩
theorem held_flat {α : Type} {l : List α} {c n : Nat} {g : Int → α} {step : Int × Int × Unit → Option ((Int × Int × Unit) ⊕ Int)} (hn : l.length = n) (hg : ∀ j, j < n → l[j]? = some (g (1 + ((c * j : Nat) : Int))))
    (hstep : ∀ (j : Nat) (m : Int), (j : Int) < (l.length : Int) → l[j]? = some (g m) → 0 ≤ m → m ≤ 4611686018427387904 → (j : Int) ≤ 1048576 → step (m, (j : Int), ()) = some (.inl (m + (c : Int), ((j + 1 : Nat) : Int), ())))
    (hend : ∀ (m : Int), step (m, (l.length : Int), ()) = some (.inr m)) (hl : n ≤ 1048576) (hc : c ≤ 1048576) : whileM step (1, 0, ()) = some (1 + ((c * n : Nat) : Int)) := by
  refine whileM_rangeE n (fun k v => v.1 = 1 + ((c * k : Nat) : Int) ∧ v.2.1 = (k : Int)) _ ⟨by simp, rfl⟩ ?_ ?_
  · rintro k ⟨m, i, ⟨⟩⟩ hk ⟨hm, hi⟩
    simp only at hm hi
    have hck : c * k ≤ 1048576 * 1048576 := Nat.mul_le_mul hc (by omega)
    subst hm
    subst hi
    left
    exact ⟨_, hstep k _ (by omega) (hg k hk) (by omega) (by omega) (by omega), by simp only; rw [Nat.mul_succ]; omega, rfl⟩
  · rintro ⟨m, i, ⟨⟩⟩ ⟨hm, hi⟩
    simp only at hm hi
    subst hm
    subst hi
    rw [← hn, hend]
theorem few_block (a : TBlock) (h : tot tBlock a ≤ 1048576) : cnt tBlock a ≤ 100 + 20 * 1048576 := by
  have hc := cnt_le tBlock a
  have h1 : wid tBlock ≤ 100 := by decide
  have h2 : widest tBlock ≤ 20 := by decide
  have := Nat.mul_le_mul_right (tot tBlock a) h2
  omega
end Go.Proofs.YtaccffcigblceaaGreatDoor
/-
  Plain laws: the targets of a setup; the law FnExactSetupTargets.
-/
namespace Go.Proofs.YtaccffcigblceaaGreatDoor
set_option linter.unusedVariables false
set_option linter.unusedSimpArgs false
open Go Go.Sx
def tgtR (w : Wv) (x : TExternal) (c : TClock) : TSpan := (IntKind.i64.wrap (IntKind.i64.wrap (w.rise - TSpan.Early (TExternal.Delay x)) + TClock.Uncertainty c), IntKind.i64.wrap (IntKind.i64.wrap (IntKind.i64.wrap (w.rise + w.period) - TSpan.Late (TExternal.Delay x)) - TClock.Uncertainty c), ())
def tgtOf (l : List TClock) (k : Nat) (x : TExternal) : List TTarget := match l[(TExternal.Clock x).toNat]? with
  | some c => [(IntKind.i64.wrap (2 * TExternal.Place x), tgtR (wave l (TExternal.Clock x)) x c, ()), (IntKind.i64.wrap (IntKind.i64.wrap (2 * TExternal.Place x) + 1), tgtR (wave l (TExternal.Clock x)) x c, ())]
  | none => []
def targets (s : TSetup) : List TTarget := cat (tgtOf (TSetup.Clocks s)) 0 (TSetup.Outputs s)
theorem exts_few {pl : List Pl} {nc : Int} {drv : Bool} {l : List TExternal} (h : ExtsOk pl nc drv l) : l.length ≤ pl.length := by
  have : ∀ (k : Nat) (x : TExternal), l[k]? = some x → (k : Int) ≤ TExternal.Place x := by
    intro k
    induction k with
    | zero => intro x hx; have := (h 0 x hx).1.1; omega
    | succ k ih =>
      intro x hx
      have hlt := (List.getElem?_eq_some_iff.1 hx).1
      have hy : l[k]? = some l[k] := List.getElem?_eq_getElem (by omega)
      have h1 := ih _ hy
      have h2 := (h (k + 1) x hx).2.2.1 l[k] (by omega) (by rw [Nat.add_sub_cancel]; exact hy)
      omega
  rcases Nat.eq_zero_or_pos l.length with h0 | h0
  · omega
  · have hy : l[l.length - 1]? = some l[l.length - 1] := List.getElem?_eq_getElem (by omega)
    have h1 := this _ _ hy
    have h2 := (h _ _ hy).1.2
    omega
theorem tgtOf_len (l : List TClock) (k : Nat) (x : TExternal) : (tgtOf l k x).length ≤ 2 := by
  unfold tgtOf
  split <;> simp
theorem target_step {s : TSetup} {pl : List Pl} (h : SetOk pl s) {k : Nat} {x : TExternal} (hx : (TSetup.Outputs s)[k]? = some x) : ∃ c, (TSetup.Clocks s)[(TExternal.Clock x).toNat]? = some c ∧ atI (TSetup.Clocks s) (TExternal.Clock x) = some c ∧ pWave (TSetup.Clocks s) (TExternal.Clock x) := by
  have hc := (h.2.2.2.1 k x hx).2.2.2.1
  have hlt : (TExternal.Clock x).toNat < (TSetup.Clocks s).length := by omega
  have hg := List.getElem?_eq_getElem hlt
  exact ⟨_, hg, atI_some hc.1 hg, pWave_of h.1 hc.1 (by omega)⟩
theorem targets_len {s : TSetup} (n : Nat) : (cat (tgtOf (TSetup.Clocks s)) 0 ((TSetup.Outputs s).take n)).length ≤ 2 * (TSetup.Outputs s).length := by
  have := cat_len (f := tgtOf (TSetup.Clocks s)) (c := 2) (l := (TSetup.Outputs s).take n) (m := 0) (fun k x _ => tgtOf_len _ _ _)
  rw [List.length_take] at this
  have h2 : 2 * min n (TSetup.Outputs s).length ≤ 2 * (TSetup.Outputs s).length := Nat.mul_le_mul_left _ (by omega)
  omega
theorem impl_demands_eq {s : TSetup} {pl : List Pl} (h : SetOk pl s) (hpl : pl.length ≤ 100) : impl_demands s = some (targets s) := by
  have hfew := exts_few h.2.2.2.1
  unfold impl_demands
  have := appendLoop (l := TSetup.Outputs s) (ρ := List TTarget) (tgtOf (TSetup.Clocks s)) [] (step := fun v => impl_demands_loop0 s v.1 v.2.1) (good := targets s)
    (fun k x hx hk => by
      have hl := targets_len (s := s) k
      obtain ⟨c, h1, h2, h3⟩ := target_step h hx
      simp only [impl_demands_loop0, show (k : Int) < ((TSetup.Outputs s).length : Int) from by omega, if_true, atI_nat, hx, Option.bind_some, impl_waveOf_eq h3, h2]
      rw [guardO_pos (by rw [List.nil_append]; simp only [List.length_cons, List.length_nil]; omega), W_suc (by omega)]
      have ht : tgtOf (TSetup.Clocks s) k x = [(IntKind.i64.wrap (2 * TExternal.Place x), tgtR (wave (TSetup.Clocks s) (TExternal.Clock x)) x c, ()), (IntKind.i64.wrap (IntKind.i64.wrap (2 * TExternal.Place x) + 1), tgtR (wave (TSetup.Clocks s) (TExternal.Clock x)) x c, ())] := by unfold tgtOf; rw [h1]
      rw [ht]; rfl)
    (by simp only [impl_demands_loop0, Int.lt_irrefl, if_false]; rfl)
  exact this
theorem spec_targets_eq {s : TSetup} {pl : List Pl} (h : SetOk pl s) (hpl : pl.length ≤ 100) : whileM (fun v => spec_SetupTargets_loop0 s v.1 v.2.1) (([] : List (Int × TSpan × Unit)), (0 : Int), ()) = some (targets s, (0 : Int)) := by
  have hfew := exts_few h.2.2.2.1
  have := appendLoop (l := TSetup.Outputs s) (ρ := List TTarget × Int) (tgtOf (TSetup.Clocks s)) [] (step := fun v => spec_SetupTargets_loop0 s v.1 v.2.1) (good := (targets s, (0 : Int)))
    (fun k x hx hk => by
      have hl := targets_len (s := s) k
      obtain ⟨c, h1, h2, h3⟩ := target_step h hx
      simp only [spec_SetupTargets_loop0, show (k : Int) < ((TSetup.Outputs s).length : Int) from by omega, if_true, atI_nat, hx, Option.bind_some, spec_l14Of_eq h3, h2]
      rw [guardO_pos (by rw [List.nil_append]; simp only [List.length_cons, List.length_nil]; omega), W_suc (by omega)]
      have ht : tgtOf (TSetup.Clocks s) k x = [(IntKind.i64.wrap (2 * TExternal.Place x), tgtR (wave (TSetup.Clocks s) (TExternal.Clock x)) x c, ()), (IntKind.i64.wrap (IntKind.i64.wrap (2 * TExternal.Place x) + 1), tgtR (wave (TSetup.Clocks s) (TExternal.Clock x)) x c, ())] := by unfold tgtOf; rw [h1]
      rw [ht]; rfl)
    (by simp only [spec_SetupTargets_loop0, Int.lt_irrefl, if_false]; rfl)
  exact this
theorem setupTargets_eq (b : TBlock) (s : TSetup) (hb : sm tBlock b) (hs : sm tSetup s) : ∃ r, impl_SetupTargets b s = some r ∧ spec_SetupTargets b s = some r ∧ r.1.length ≤ 1048576 := by
  unfold impl_SetupTargets spec_SetupTargets
  rw [impl_IsSetup_eq b s hb hs, spec_IsSetup_eq b s hb hs, Option.bind_some, Option.bind_some]
  by_cases h : IsSetOk b s
  · have hpl := places_len h.1.1.few
    rw [if_pos (tr_pos h), if_pos (tr_pos h), impl_demands_eq h.2 (by omega), spec_targets_eq h.2 (by omega)]
    refine ⟨_, rfl, rfl, ?_⟩
    have hfew := exts_few h.2.2.2.2.1
    have := targets_len (s := s) (TSetup.Outputs s).length
    rw [List.take_length] at this
    show (targets s).length ≤ 1048576
    unfold targets
    omega
  · rw [if_neg (fun q => h ((tr_iff _).1 q)), if_neg (fun q => h ((tr_iff _).1 q))]
    exact ⟨_, rfl, rfl, by simp⟩
theorem held_targets (l : List TTarget) (hl : l.length ≤ 1048576) : ∃ l', laws_markTargetS l 1 = some (1 + ((3 * l.length : Nat) : Int), l') ∧ laws_heldTargetS l' 1 = some (1 + ((3 * l.length : Nat) : Int)) := by
  obtain ⟨l', h1, h2, h3⟩ := mark_flat (l := l) (c := 3) (g := fun m => ((m, (m + 1, m + 2, ()), ()) : TTarget)) (step := fun v => laws_markTargetS_loop0 v.1 v.2.1 v.2.2.1)
    (fun j m x L hj hj' hx h0 h1 hj2 => by
      have hx2 : atI L (j : Int) = some x := by rw [atI_nat]; exact hx
      have hb : ∀ {β : Type} (y : TTarget) (F : TTarget → Option β), (atI (List.set L j y) (j : Int)).bind F = F y := fun y F => by rw [atI_set hj]; rfl
      simp only [laws_markTargetS_loop0, if_pos hj', Int.toNat_natCast, hx2, ↓hb, Option.bind_some, List.set_set, W_in (show (-9223372036854775808 : Int) ≤ m + 1 by omega) (by omega), W_in (show (-9223372036854775808 : Int) ≤ m + 1 + 1 by omega) (by omega), W_in (show (-9223372036854775808 : Int) ≤ m + 1 + 1 + 1 by omega) (by omega), W_suc (show j ≤ 1048576 by omega)]
      rw [show m + 1 + 1 + 1 = m + ((3 : Nat) : Int) by omega, show m + 1 + 1 = m + 2 by omega])
    (fun m L => by simp only [laws_markTargetS_loop0, Int.lt_irrefl, if_false]) hl (by omega)
  refine ⟨l', h1, ?_⟩
  exact held_flat (n := l.length) (c := 3) (g := fun m => ((m, (m + 1, m + 2, ()), ()) : TTarget)) (step := fun v => laws_heldTargetS_loop0 l' v.1 v.2.1) h2 h3
    (fun j m hj hx h0 h1 hj2 => by
      simp only [laws_heldTargetS_loop0, if_pos hj, atI_nat, hx, Option.bind_some, W_in (show (-9223372036854775808 : Int) ≤ m + 1 by omega) (by omega), W_in (show (-9223372036854775808 : Int) ≤ m + 1 + 1 by omega) (by omega), W_in (show (-9223372036854775808 : Int) ≤ m + 1 + 1 + 1 by omega) (by omega), W_suc (show j ≤ 1048576 by omega), if_true]
      rw [show m + 1 + 1 + 1 = m + ((3 : Nat) : Int) by omega, if_pos (show m + 2 = m + 1 + 1 by omega)])
    (fun m => by simp only [laws_heldTargetS_loop0, Int.lt_irrefl, if_false]) hl (by omega)
theorem few_setup (a : TSetup) (h : tot tSetup a ≤ 1048576) : cnt tSetup a ≤ 100 + 20 * 1048576 := by
  have hc := cnt_le tSetup a
  have h1 : wid tSetup ≤ 100 := by decide
  have h2 : widest tSetup ≤ 20 := by decide
  have := Nat.mul_le_mul_right (tot tSetup a) h2
  omega
theorem laws_FnExactSetupTargets_ok (a0 : TBlock) (a1 : TSetup) (b0 : bnd tBlock a0) (b1 : bnd tSetup a1) : laws_FnExactSetupTargets a0 a1 = some true := by
  unfold laws_FnExactSetupTargets
  obtain ⟨n, e, hle, hP⟩ := laws_szBlock_ok a0 1048576 (by omega) (by omega) b0
  rw [e, Option.bind_some]
  by_cases hn : n < 0
  · rw [if_pos hn]
  rw [if_neg hn]
  have hs := hP (by omega)
  have ht := laws_szBlock_tot a0 1048576 (by omega) (by omega) b0 n e (by omega)
  obtain ⟨n1, e1, hle1, hP1⟩ := laws_szSetup_ok a1 n (by omega) (by omega) b1
  rw [e1, Option.bind_some]
  by_cases hn1 : n1 < 0
  · rw [if_pos hn1]
  rw [if_neg hn1]
  have hs1 := hP1 (by omega)
  have ht1 := laws_szSetup_tot a1 n (by omega) (by omega) b1 n1 e1 (by omega)
  have hcb := few_block a0 (by omega)
  have hcs := few_setup a1 (by omega)
  obtain ⟨r, c1, c2, c3⟩ := setupTargets_eq a0 a1 hs hs1
  obtain ⟨m0, hm0⟩ := laws_markBlock_mk a0 1 hs (by omega) (by omega)
  obtain ⟨m1, hm1⟩ := laws_markSetup_mk a1 (1 + ((cnt tBlock a0 : Nat) : Int)) hs1 (by omega) (by omega)
  obtain ⟨m3, hm3, hm4⟩ := held_targets r.1 c3
  have hr : sm (.sl tTarget) r.1 := ⟨by omega, fun x _ => sm_fixed _ (by rfl) x⟩
  have hneg : ¬ (1 + ((cnt tBlock a0 : Nat) : Int) + ((cnt tSetup a1 : Nat) : Int)) < 0 := by omega
  have hneg2 : ¬ (1 + ((3 * r.1.length : Nat) : Int)) < 0 := by omega
  simp only [laws_toBlock_ok _ hs, laws_toSetup_ok _ hs1, Option.bind_some, c1, c2, laws_eqTargetS_ok _ hr, laws_eqBlock_ok _ hs, laws_eqSetup_ok _ hs1, if_true, hm0, hm1, hm3, hm4, hneg, hneg2, if_false]
end Go.Proofs.YtaccffcigblceaaGreatDoor
