/-
  Plain laws: links of arcs.
-/
import Derived.Test.YtenpdmpfepgkjaaGreatDoorLC
import Derived.Test.YtenpdmpfepgkjaaGreatDoorLA
namespace Go.Proofs.YtenpdmpfepgkjaaGreatDoor
set_option linter.unusedVariables false
set_option linter.unusedSimpArgs false
open Go Go.Sx

def mkLink (f t a b kind ix : Int) : TLink := (2 * f + a, 2 * t + b, kind, ix, ())

/-- the transitions of an arc -/
def trs (a : TArc) : List (Int × Int × Unit) :=
  if TArc.Kind a = 2 then [(0, 0, ()), (0, 1, ())] else if TArc.Kind a = 3 then [(1, 0, ()), (1, 1, ())] else
    if TArc.Kind a = 1 then (if TArc.Sense a = 1 then [(0, 0, ()), (1, 1, ())] else if TArc.Sense a = 2 then [(0, 1, ()), (1, 0, ())] else [(0, 0, ()), (0, 1, ()), (1, 0, ()), (1, 1, ())]) else []
theorem transitions_eq (a : TArc) : impl_Arc_transitions a = some (trs a) := by
  unfold impl_Arc_transitions trs
  repeat' split
  all_goals rfl
def arcL (a : TArc) (f t ix : Int) : List TLink := (trs a).map (fun p => mkLink f t p.1 p.2.1 1 ix)

theorem pair_eq (l : List TLink) (f t a b kind ix : Int) (hl : l.length ≤ 1048576) (hf : 0 ≤ f ∧ f ≤ 1048576) (ht : 0 ≤ t ∧ t ≤ 1048576) (ha : 0 ≤ a ∧ a ≤ 1) (hb : 0 ≤ b ∧ b ≤ 1) :
    spec_l09Pair l f t a b kind ix = some (l ++ [mkLink f t a b kind ix]) := by
  unfold spec_l09Pair mkLink
  rw [guardO_pos (by simp; omega), W_in (n := 2 * f) (by omega) (by omega), W_in (n := 2 * t) (by omega) (by omega), W_in (n := 2 * f + a) (by omega) (by omega), W_in (n := 2 * t + b) (by omega) (by omega)]

def fitsB (arc : TArc) (a b : Int) : Bool :=
  if TArc.Kind arc = 1 then (if TArc.Sense arc = 3 then true else (decide (TArc.Sense arc = 1) == decide (a = b))) else if TArc.Kind arc = 2 then decide (a = 0) else if TArc.Kind arc = 3 then decide (a = 1) else false
def fitL (arc : TArc) (f t ix a b : Int) : List TLink := if fitsB arc a b = true then [mkLink f t a b 1 ix] else []

theorem arc_step (arc : TArc) (f t ix a b : Int) (l : List TLink) (hl : l.length ≤ 1048576) (hf : 0 ≤ f ∧ f ≤ 1048576) (ht : 0 ≤ t ∧ t ≤ 1048576) (ha : 0 ≤ a ∧ a ≤ 1) (hb : 0 ≤ b ∧ b ≤ 1) :
    spec_l09Arc_loop0 arc f t ix a l b = some (.inl (l ++ fitL arc f t ix a b, b + 1, ())) := by
  unfold spec_l09Arc_loop0 fitL fitsB
  rw [if_pos (by omega), pair_eq l f t a b 1 ix hl hf ht ha hb, W_in (n := b + 1) (by omega) (by omega)]
  simp only [Option.bind_some]
  by_cases k1 : TArc.Kind arc = 1
  · simp only [k1, if_true]
    by_cases s3 : TArc.Sense arc = 3
    · simp only [s3, if_true]
    · simp only [s3, if_false]
      split
      · rfl
      · rw [List.append_nil]
  by_cases k2 : TArc.Kind arc = 2
  · simp only [k2, if_true, Int.reduceEq, if_false, decide_eq_true_eq]
    split
    · rfl
    · rw [List.append_nil]
  by_cases k3 : TArc.Kind arc = 3
  · simp only [k3, if_true, Int.reduceEq, if_false, decide_eq_true_eq]
    split
    · rfl
    · rw [List.append_nil]
  · simp only [k1, k2, k3, if_false, Bool.false_eq_true, List.append_nil]

theorem fitL_len (arc : TArc) (f t ix a b : Int) : (fitL arc f t ix a b).length ≤ 1 := by
  unfold fitL; split <;> simp

theorem arc_inner (arc : TArc) (f t ix a : Int) (l : List TLink) (hl : l.length ≤ 1048000) (hf : 0 ≤ f ∧ f ≤ 1048576) (ht : 0 ≤ t ∧ t ≤ 1048576) (ha : 0 ≤ a ∧ a ≤ 1) :
    whileM (fun v => spec_l09Arc_loop0 arc f t ix a v.1 v.2.1) (l, (0 : Int), ()) = some (.inl (l ++ fitL arc f t ix a 0 ++ fitL arc f t ix a 1, a + 1, ())) := by
  have h1 := fitL_len arc f t ix a 0
  have h2 := fitL_len arc f t ix a 1
  rw [whileM_in (v' := (l ++ fitL arc f t ix a 0, (0 : Int) + 1, ())) (arc_step arc f t ix a 0 l (by omega) hf ht ha (by omega)),
    whileM_in (v' := (l ++ fitL arc f t ix a 0 ++ fitL arc f t ix a 1, (0 : Int) + 1 + 1, ())) (arc_step arc f t ix a (0 + 1) _ (by rw [List.length_append]; omega) hf ht ha (by omega)), whileM_out]
  simp only [spec_l09Arc_loop0]
  rw [if_neg (by omega), W_in (n := a + 1) (by omega) (by omega)]

theorem arc_fits (arc : TArc) (f t ix : Int) (hs : TArc.Kind arc = 1 → 1 ≤ TArc.Sense arc ∧ TArc.Sense arc ≤ 3) : fitL arc f t ix 0 0 ++ fitL arc f t ix 0 1 ++ (fitL arc f t ix 1 0 ++ fitL arc f t ix 1 1) = arcL arc f t ix := by
  unfold fitL fitsB arcL trs
  by_cases k1 : TArc.Kind arc = 1
  · have h := hs k1
    by_cases s1 : TArc.Sense arc = 1
    · simp [k1, s1]
    by_cases s2 : TArc.Sense arc = 2
    · simp [k1, s2]
    · have s3 : TArc.Sense arc = 3 := by omega
      simp [k1, s3]
  by_cases k2 : TArc.Kind arc = 2
  · simp [k2]
  by_cases k3 : TArc.Kind arc = 3
  · simp [k3]
  · simp [k1, k2, k3]

theorem spec_l09Arc_eq (l : List TLink) (arc : TArc) (f t ix : Int) (hl : l.length ≤ 1047000) (hf : 0 ≤ f ∧ f ≤ 1048576) (ht : 0 ≤ t ∧ t ≤ 1048576) (hs : TArc.Kind arc = 1 → 1 ≤ TArc.Sense arc ∧ TArc.Sense arc ≤ 3) :
    spec_l09Arc l arc f t ix = some (l ++ arcL arc f t ix) := by
  have h1 := fitL_len arc f t ix 0 0
  have h2 := fitL_len arc f t ix 0 1
  unfold spec_l09Arc
  have s0 : spec_l09Arc_loop1 arc f t ix l 0 = some (.inl (l ++ fitL arc f t ix 0 0 ++ fitL arc f t ix 0 1, 0 + 1, ())) := by
    unfold spec_l09Arc_loop1
    rw [if_pos (by omega), arc_inner arc f t ix 0 l (by omega) hf ht (by omega)]
  have s1 : spec_l09Arc_loop1 arc f t ix (l ++ fitL arc f t ix 0 0 ++ fitL arc f t ix 0 1) 1 = some (.inl (l ++ fitL arc f t ix 0 0 ++ fitL arc f t ix 0 1 ++ fitL arc f t ix 1 0 ++ fitL arc f t ix 1 1, 1 + 1, ())) := by
    unfold spec_l09Arc_loop1
    rw [if_pos (by omega), arc_inner arc f t ix 1 _ (by simp only [List.length_append]; omega) hf ht (by omega)]
  rw [whileM_in (v' := (l ++ fitL arc f t ix 0 0 ++ fitL arc f t ix 0 1, (1 : Int), ())) s0, whileM_in (v' := (l ++ fitL arc f t ix 0 0 ++ fitL arc f t ix 0 1 ++ fitL arc f t ix 1 0 ++ fitL arc f t ix 1 1, (2 : Int), ())) s1, whileM_out (r := l ++ arcL arc f t ix)]
  simp only [spec_l09Arc_loop1]
  rw [if_neg (by omega), ← arc_fits arc f t ix hs]
  simp only [List.append_assoc]

/-! ### the links of an instance -/

def arcsL (c : TCell) (f : Int) : List TLink := cat (fun i a => arcL a (f + TArc.From a) (f + TArc.To a) (i : Int)) 0 (TCell.Arcs c)

theorem trs_len (a : TArc) : (trs a).length ≤ 4 := by
  unfold trs; repeat' split
  all_goals simp

theorem impl_cellLinks_eq {b : TBlock} (h : BlkSm b) {x : TInstance} (hx : x ∈ TDesign.Instances (TBlock.Design b)) (f : Int) (hf : 0 ≤ f ∧ f ≤ 1000000) :
    ∃ c, (TLibrary.Cells (TBlock.Library b))[(TInstance.Cell x).toNat]? = some c ∧ CellOk c ∧ impl_Block_cellLinks b x f = some (arcsL c f) := by
  obtain ⟨hc, ⟨c, hc1, hc2⟩, _⟩ := h.ok.1.2.2.1 x hx
  have hC := h.ok.1.1.2.1 c (List.mem_of_getElem? hc1)
  have hA := hC.2.2.1.1
  refine ⟨c, hc1, hC, ?_⟩
  unfold impl_Block_cellLinks
  rw [atI_some hc.1 hc1, Option.bind_some]
  refine appendLoop (l := TCell.Arcs c) (fun i a => arcL a (f + TArc.From a) (f + TArc.To a) (i : Int)) [] (fun k a ha hk => ?_) ?_
  · have hao := (hC.2.2.1.2 k a ha).1
    have hpl := hC.2.1.2.1
    have hl := cat_len (f := fun i a => arcL a (f + TArc.From a) (f + TArc.To a) (i : Int)) (c := 4) (l := (TCell.Arcs c).take k) (m := 0) (fun i a _ => by simp only [arcL, List.length_map]; exact trs_len a)
    rw [List.length_take] at hl
    simp only [List.nil_append, impl_Block_cellLinks_loop1, show (k : Int) < ((TCell.Arcs c).length : Int) from by omega, if_true, atI_nat, ha, transitions_eq, Option.bind_some]
    generalize cat (fun i a => arcL a (f + TArc.From a) (f + TArc.To a) (i : Int)) 0 ((TCell.Arcs c).take k) = acc at hl
    have ht4 := trs_len a
    have htr : ∀ p ∈ trs a, (0 ≤ p.1 ∧ p.1 ≤ 1) ∧ (0 ≤ p.2.1 ∧ p.2.1 ≤ 1) := by
      intro p hp
      unfold trs at hp
      repeat' split at hp
      all_goals (simp only [List.mem_cons, List.not_mem_nil, or_false] at hp)
      all_goals first | (rcases hp with rfl | rfl | rfl | rfl <;> simp) | (rcases hp with rfl | rfl <;> simp) | exact hp.elim
    have h1 := hao.1
    have h2 := hao.2.1
    refine (appendLoop (l := trs a) (ρ := (List TLink × Int × Unit) ⊕ List TLink) (fun _ p => [mkLink (f + TArc.From a) (f + TArc.To a) p.1 p.2.1 1 (k : Int)]) acc (good := .inl (acc ++ arcL a (f + TArc.From a) (f + TArc.To a) (k : Int), ((k + 1 : Nat) : Int), ())) (fun j p hp hj => ?_) ?_)
    · have hp2 := htr p (List.mem_of_getElem? hp)
      have hl2 := cat_len (f := fun (_ : Nat) (p : Int × Int × Unit) => [mkLink (f + TArc.From a) (f + TArc.To a) p.1 p.2.1 1 (k : Int)]) (c := 1) (l := (trs a).take j) (m := 0) (fun _ _ _ => by simp)
      rw [List.length_take] at hl2
      simp only [impl_Block_cellLinks_loop0, show (j : Int) < ((trs a).length : Int) from by omega, if_true, atI_nat, hp, Option.bind_some]
      rw [guardO_pos (by rw [List.length_append, List.length_singleton]; omega), W_suc (by omega), W_in (n := f + TArc.From a) (by omega) (by omega), W_in (n := f + TArc.To a) (by omega) (by omega), W_in (n := 2 * (f + TArc.From a)) (by omega) (by omega), W_in (n := 2 * (f + TArc.To a)) (by omega) (by omega), W_in (n := 2 * (f + TArc.From a) + p.1) (by omega) (by omega), W_in (n := 2 * (f + TArc.To a) + p.2.1) (by omega) (by omega)]
      rfl
    · have e : cat (fun (_ : Nat) (p : Int × Int × Unit) => [mkLink (f + TArc.From a) (f + TArc.To a) p.1 p.2.1 1 (k : Int)]) 0 (trs a) = arcL a (f + TArc.From a) (f + TArc.To a) (k : Int) := by
        unfold arcL
        generalize trs a = l
        have : ∀ (m : Nat), cat (fun (_ : Nat) (p : Int × Int × Unit) => [mkLink (f + TArc.From a) (f + TArc.To a) p.1 p.2.1 1 (k : Int)]) m l = l.map (fun p => mkLink (f + TArc.From a) (f + TArc.To a) p.1 p.2.1 1 (k : Int)) := by
          induction l with
          | nil => intro m; rfl
          | cons p r ih => intro m; simp [cat, ih]
        exact this 0
      simp only [impl_Block_cellLinks_loop0, Int.lt_irrefl, if_false, e]
      rw [W_suc (by omega)]
  · simp only [List.nil_append, impl_Block_cellLinks_loop1, Int.lt_irrefl, if_false]; rfl

end Go.Proofs.YtenpdmpfepgkjaaGreatDoor
/-
  Plain laws: where a pin's place is; the links of all instances.
-/
namespace Go.Proofs.YtenpdmpfepgkjaaGreatDoor
set_option linter.unusedVariables false
set_option linter.unusedSimpArgs false
open Go Go.Sx

theorem findIx_first {α : Type} {p : α → Bool} {l : List α} {k : Nat} {x : α} (hx : l[k]? = some x) (hp : p x = true) (hf : ∀ (j : Nat) (y : α), j < k → l[j]? = some y → p y = false) : findIx p l = (k : Int) := by
  have hk := (List.getElem?_eq_some_iff.1 hx)
  have : l.findIdx? p = some k := by
    rw [List.findIdx?_eq_some_iff_getElem]
    refine ⟨hk.1, by rw [hk.2]; exact hp, fun j hj => ?_⟩
    have := hf j (l[j]'(by have := hk.1; omega)) hj (List.getElem?_eq_getElem _)
    simp [this]
  unfold findIx
  rw [this]

theorem spec_l05Find_eq (d : TDesign) (i j : Int) (h : Few d) : spec_l05Find d i j = some (findIx (fun x : Pl => decide (x.1 = i) && decide (x.2.1 = j)) (places d)) := by
  have hpl := places_len h
  unfold spec_l05Find
  rw [spec_l05Places_eq d h, Option.bind_some]
  refine index_loop (out := fun i => i) (show Len (places d) by show List.length _ ≤ _; omega) (fun k x hx => ?_) ?_
  · have hk := (List.getElem?_eq_some_iff.1 hx).1
    simp only [spec_l05Find_loop0, show (k : Int) < ((places d).length : Int) from by omega, if_true, atI_nat, hx, Option.bind_some, Bool.and_eq_true, decide_eq_true_eq]
    split
    · rename_i e1
      split
      · rename_i e2; rw [if_pos ⟨e1, e2⟩]
      · rename_i e2; rw [if_neg (fun q => e2 q.2)]
    · rename_i e1; rw [if_neg (fun q => e1 q.1)]
  · simp only [spec_l05Find_loop0, Int.lt_irrefl, if_false]

theorem spec_l05Driver_eq (d : TDesign) (n : Int) (h : Few d) : spec_l05Driver d n = some (findIx (fun x : Pl => decide (x.2.2.1 = n) && x.2.2.2.1) (places d)) := by
  have hpl := places_len h
  unfold spec_l05Driver
  rw [spec_l05Places_eq d h, Option.bind_some]
  refine index_loop (out := fun i => i) (show Len (places d) by show List.length _ ≤ _; omega) (fun k x hx => ?_) ?_
  · have hk := (List.getElem?_eq_some_iff.1 hx).1
    simp only [spec_l05Driver_loop0, show (k : Int) < ((places d).length : Int) from by omega, if_true, atI_nat, hx, Option.bind_some, Bool.and_eq_true, decide_eq_true_eq]
    split
    · rename_i e1
      split
      · rename_i e2; rw [if_pos ⟨e1, e2⟩]
      · rename_i e2; rw [if_neg (fun q => e2 q.2)]
    · rename_i e1; rw [if_neg (fun q => e1 q.1)]
  · simp only [spec_l05Driver_loop0, Int.lt_irrefl, if_false]

/-! ### the places of an instance -/

theorem cat_one {α β : Type} {g : Nat → α → β} : ∀ {l : List α} {m j : Nat}, (cat (fun j n => [g j n]) m l)[j]? = (l[j]?).map (g (m + j))
  | [], m, j => by simp [cat]
  | x :: r, m, 0 => by simp [cat]
  | x :: r, m, j + 1 => by
    simp only [cat, List.cons_append, List.nil_append, List.getElem?_cons_succ]
    rw [cat_one (l := r) (m := m + 1) (j := j), show m + 1 + j = m + (j + 1) by omega]
theorem cat_one_len {α β : Type} {g : Nat → α → β} : ∀ {l : List α} {m : Nat}, (cat (fun j n => [g j n]) m l).length = l.length
  | [], m => rfl
  | x :: r, m => by simp [cat, cat_one_len (l := r)]

theorem instPl_len_eq (i : Nat) (x : TInstance) : (instPl i x).length = (TInstance.Nets x).length := by unfold instPl; rw [cat_one_len]

/-- the number of the first place of an instance -/
def fst (d : TDesign) (i : Nat) : Nat := (cat instPl 0 ((TDesign.Instances d).take i)).length
theorem fst_succ {d : TDesign} {i : Nat} {x : TInstance} (hx : (TDesign.Instances d)[i]? = some x) : fst d (i + 1) = fst d i + (TInstance.Nets x).length := by
  unfold fst
  rw [cat_snoc hx, List.length_append, instPl_len_eq]

theorem places_split {d : TDesign} {i : Nat} {x : TInstance} (hx : (TDesign.Instances d)[i]? = some x) : ∃ B, places d = cat instPl 0 ((TDesign.Instances d).take i) ++ (instPl i x ++ B) := by
  have hi := List.getElem?_eq_some_iff.1 hx
  have e : TDesign.Instances d = (TDesign.Instances d).take i ++ (x :: (TDesign.Instances d).drop (i + 1)) := by
    rw [← hi.2, ← List.drop_eq_getElem_cons hi.1, List.take_append_drop]
  refine ⟨cat instPl (i + 1) ((TDesign.Instances d).drop (i + 1)) ++ cat portPl 0 (TDesign.Ports d), ?_⟩
  unfold places
  conv => lhs; rw [e]
  rw [cat_append]
  have hl : ((TDesign.Instances d).take i).length = i := by rw [List.length_take]; have := hi.1; omega
  rw [hl, Nat.zero_add]
  simp only [cat, List.append_assoc]

theorem find_pin {d : TDesign} (h : Few d) {i j : Nat} {x : TInstance} (hx : (TDesign.Instances d)[i]? = some x) (hj : j < (TInstance.Nets x).length) :
    spec_l05Find d (i : Int) (j : Int) = some ((fst d i : Int) + (j : Int)) := by
  rw [spec_l05Find_eq d _ _ h]
  obtain ⟨B, hB⟩ := places_split hx
  congr 1
  have hn : (TInstance.Nets x)[j]? = some (TInstance.Nets x)[j] := List.getElem?_eq_getElem hj
  have hat : ∀ (q : Nat) (y : Pl), (instPl i x)[q]? = some y → y.1 = (i : Int) ∧ y.2.1 = (q : Int) := by
    intro q y hy
    unfold instPl at hy
    rw [cat_one, Nat.zero_add] at hy
    simp only [Option.map_eq_some_iff] at hy
    obtain ⟨n, _, rfl⟩ := hy
    exact ⟨rfl, rfl⟩
  have hex : ∃ y, (instPl i x)[j]? = some y := ⟨_, List.getElem?_eq_getElem (by rw [instPl_len_eq]; exact hj)⟩
  obtain ⟨y, hy⟩ := hex
  have hy2 := hat j y hy
  have := findIx_first (p := fun x : Pl => decide (x.1 = (i : Int)) && decide (x.2.1 = (j : Int))) (l := places d) (k := fst d i + j) (x := y)
    (by
      rw [hB, List.getElem?_append_right (by unfold fst; omega), show fst d i + j - (cat instPl 0 ((TDesign.Instances d).take i)).length = j by unfold fst; omega, List.getElem?_append_left (by rw [instPl_len_eq]; exact hj)]
      exact hy)
    (by simp [hy2.1, hy2.2])
    (fun q z hq hz => by
      rw [hB] at hz
      by_cases hqA : q < (cat instPl 0 ((TDesign.Instances d).take i)).length
      · rw [List.getElem?_append_left hqA] at hz
        obtain ⟨i', x', hi', hz'⟩ := mem_cat.1 (List.mem_of_getElem? hz)
        have hlt : i' < i := by
          have := (List.getElem?_eq_some_iff.1 hi').1
          rw [List.length_take] at this
          omega
        rw [Nat.zero_add] at hz'
        have : z.1 = (i' : Int) := by
          unfold instPl at hz'
          obtain ⟨j', n, _, hn'⟩ := mem_cat.1 hz'
          simp only [List.mem_singleton] at hn'
          rw [hn']
        have hne : ¬ z.1 = (i : Int) := by omega
        simp [hne]
      · have hq2 : q - (cat instPl 0 ((TDesign.Instances d).take i)).length < j := by unfold fst at hq; omega
        rw [List.getElem?_append_right (by omega), List.getElem?_append_left (by rw [instPl_len_eq]; omega)] at hz
        have := (hat _ _ hz).2
        have hne : ¬ z.2.1 = (j : Int) := by omega
        simp [hne])
  rw [this]
  omega

/-! ### the links of all instances -/

def instL (b : TBlock) (i : Nat) (x : TInstance) : List TLink := match (TLibrary.Cells (TBlock.Library b))[(TInstance.Cell x).toNat]? with
  | some c => arcsL c (fst (TBlock.Design b) i : Int)
  | none => []
def instLinks (b : TBlock) : List TLink := cat (instL b) 0 (TDesign.Instances (TBlock.Design b))

theorem arcsL_len (c : TCell) (f : Int) (h : (TCell.Arcs c).length ≤ 8) : (arcsL c f).length ≤ 32 := by
  have := cat_len (f := fun i a => arcL a (f + TArc.From a) (f + TArc.To a) (i : Int)) (c := 4) (l := TCell.Arcs c) (m := 0) (fun i a _ => by simp only [arcL, List.length_map]; exact trs_len a)
  unfold arcsL
  omega
theorem fst_le {d : TDesign} (h : Few d) (i : Nat) : fst d i ≤ 70 := cat_inst_len h i

theorem instL_len {b : TBlock} (h : BlkSm b) (i : Nat) (x : TInstance) (hx : x ∈ TDesign.Instances (TBlock.Design b)) : (instL b i x).length ≤ 32 := by
  obtain ⟨c, h1, h2, _⟩ := impl_cellLinks_eq h hx 0 (by omega)
  unfold instL
  rw [h1]
  exact arcsL_len c _ h2.2.2.1.1
theorem cat_instL_len {b : TBlock} (h : BlkSm b) (k : Nat) : (cat (instL b) 0 ((TDesign.Instances (TBlock.Design b)).take k)).length ≤ 448 := by
  have h1 := h.ok.1.few.insts
  have := cat_len (f := instL b) (c := 32) (l := (TDesign.Instances (TBlock.Design b)).take k) (m := 0) (fun i x hx => instL_len h i x (List.mem_of_mem_take hx))
  rw [List.length_take] at this
  omega

end Go.Proofs.YtenpdmpfepgkjaaGreatDoor
/-
  Plain laws: the links of all instances, by the reference and by the program; drivers.
-/
namespace Go.Proofs.YtenpdmpfepgkjaaGreatDoor
set_option linter.unusedVariables false
set_option linter.unusedSimpArgs false
open Go Go.Sx

/-- the reference's links of one instance -/
theorem spec_inst_eq {b : TBlock} (h : BlkSm b) {i : Nat} {x : TInstance} (hx : (TDesign.Instances (TBlock.Design b))[i]? = some x) {c : TCell} (hc : (TLibrary.Cells (TBlock.Library b))[(TInstance.Cell x).toNat]? = some c) (acc : List TLink) (ha : acc.length ≤ 100000) :
    whileM (fun v => spec_l09Links_loop0 b (i : Int) c v.1 v.2.1) (acc, (0 : Int), ()) = some (.inl (acc ++ arcsL c (fst (TBlock.Design b) i : Int), ((i + 1 : Nat) : Int), ())) := by
  have hf := h.ok.1.few
  have hi := (List.getElem?_eq_some_iff.1 hx).1
  have h14 := hf.insts
  have hxm := List.mem_of_getElem? hx
  obtain ⟨_, ⟨c', hc1, hc2⟩, _⟩ := h.ok.1.2.2.1 x hxm
  rw [hc] at hc1; injection hc1 with hc1; subst hc1
  have hC := h.ok.1.1.2.1 c (List.mem_of_getElem? hc)
  have hA := hC.2.2.1.1
  have hpn := hC.2.1.2.1
  have h70 := fst_le hf i
  refine appendLoop (l := TCell.Arcs c) (fun k a => arcL a ((fst (TBlock.Design b) i : Int) + TArc.From a) ((fst (TBlock.Design b) i : Int) + TArc.To a) (k : Int)) acc (fun k a hka hk => ?_) ?_
  · have hao := (hC.2.2.1.2 k a hka).1
    have hl := cat_len (f := fun k a => arcL a ((fst (TBlock.Design b) i : Int) + TArc.From a) ((fst (TBlock.Design b) i : Int) + TArc.To a) (k : Int)) (c := 4) (l := (TCell.Arcs c).take k) (m := 0) (fun i a _ => by simp only [arcL, List.length_map]; exact trs_len a)
    rw [List.length_take] at hl
    simp only [spec_l09Links_loop0, show (k : Int) < ((TCell.Arcs c).length : Int) from by omega, if_true, atI_nat, hka, Option.bind_some]
    generalize cat (fun k a => arcL a ((fst (TBlock.Design b) i : Int) + TArc.From a) ((fst (TBlock.Design b) i : Int) + TArc.To a) (k : Int)) 0 ((TCell.Arcs c).take k) = acc2 at hl
    have h1 := hao.1
    have h2 := hao.2.1
    by_cases hk3 : TArc.Kind a ≤ 3
    · have e1 := find_pin hf hx (j := (TArc.From a).toNat) (by omega)
      have e2 := find_pin hf hx (j := (TArc.To a).toNat) (by omega)
      rw [show ((TArc.From a).toNat : Int) = TArc.From a by omega] at e1
      rw [show ((TArc.To a).toNat : Int) = TArc.To a by omega] at e2
      rw [if_pos hk3, e1, Option.bind_some, e2, Option.bind_some, spec_l09Arc_eq _ a _ _ _ (by rw [List.length_append]; omega) (by omega) (by omega) (fun hk1 => by
        rcases hao.2.2 with hh | hh | hh
        · exact hh.2.2.2.1
        · have := hh.1; omega
        · have := hh.1; omega), Option.bind_some, W_suc (by omega)]
    · rw [if_neg hk3, W_suc (by omega)]
      have e : arcL a ((fst (TBlock.Design b) i : Int) + TArc.From a) ((fst (TBlock.Design b) i : Int) + TArc.To a) (k : Int) = [] := by
        unfold arcL trs
        rw [if_neg (by omega), if_neg (by omega), if_neg (by omega)]
        rfl
      rw [e, List.append_nil]
  · simp only [spec_l09Links_loop0, Int.lt_irrefl, if_false]
    rw [W_suc (by omega)]
    rfl

/-! ### drivers -/

theorem filter_inst {i : Nat} {x : TInstance} {a : TLibrary} {d : TDesign} (hl : LibOk a) (h : InstOk a d x) (hsm : (TInstance.Nets x).length ≤ 1048576) : ((instPl i x).filter (fun y => y.2.2.2.1)).map (fun y => y.2.2.1) = [lastNet x] := by
  obtain ⟨_, ⟨c, hc, hn⟩, _⟩ := h
  have h2 : 2 ≤ (TCell.Pins c).length := (hl.2.1 c (List.mem_of_getElem? hc)).2.1.1
  unfold instPl lastNet
  rw [W_pred hsm (by omega)]
  generalize hN : TInstance.Nets x = l
  rw [hN] at hn
  have hne : l.length ≠ 0 := by omega
  have gen : ∀ (l : List Int) (m n : Nat), m + l.length = n + 1 → l.length ≠ 0 → ((cat (fun j n' => [((i : Int), (j : Int), n', decide ((j : Int) = ((n : Nat) : Int)), ())]) m l).filter (fun y : Pl => y.2.2.2.1)).map (fun y => y.2.2.1) = [l.getLastD 0] := by
    intro l
    induction l with
    | nil => intro m n _ h0; simp at h0
    | cons y r ih =>
      intro m n hm _
      by_cases hr : r = []
      · subst hr
        simp only [List.length_cons, List.length_nil] at hm
        have : (m : Int) = (n : Int) := by omega
        simp [cat, this]
      · have hrl : r.length ≠ 0 := fun e => hr (List.eq_nil_of_length_eq_zero e)
        simp only [List.length_cons] at hm
        have hmn : ¬ (m : Int) = (n : Int) := by omega
        have := ih (m + 1) n (by omega) hrl
        simp only [cat, List.cons_append, List.nil_append]
        rw [List.filter_cons_of_neg (by simp [hmn]), this]
        cases r with
        | nil => exact absurd rfl hr
        | cons z q => simp [List.getLastD_cons]
  exact gen l 0 (l.length - 1) (by omega) hne

theorem filter_port (j : Nat) (p : TPort) : ((portPl j p).filter (fun y => y.2.2.2.1)).map (fun y => y.2.2.1) = if TPort.Dir p = 1 then [TPort.Net p] else [] := by
  unfold portPl
  by_cases h : TPort.Dir p = 1
  · simp [h]
  · simp [h]

/-- the nets of the places that drive -/
theorem drv_places {a : TLibrary} {d : TDesign} (h : DesignOk a d) (hsm : sm tDesign d) : ((places d).filter (fun y => y.2.2.2.1)).map (fun y => y.2.2.1) = drvs d := by
  unfold places drvs
  rw [List.filter_append, List.map_append]
  congr 1
  · have : ∀ (l : List TInstance) (m : Nat), (∀ x ∈ l, InstOk a d x ∧ (TInstance.Nets x).length ≤ 1048576) → ((cat instPl m l).filter (fun y => y.2.2.2.1)).map (fun y => y.2.2.1) = l.map lastNet := by
      intro l
      induction l with
      | nil => intro m _; rfl
      | cons x r ih =>
        intro m hl
        have hx := hl x (by simp)
        simp only [cat, List.filter_append, List.map_append, List.map_cons]
        rw [filter_inst h.1 hx.1 hx.2, ih (m + 1) (fun y hy => hl y (by simp [hy]))]
        rfl
    exact this _ 0 (fun x hx => ⟨h.2.2.1 x hx, small_of_sm (smInst (sm_mem (smDesign hsm).1 hx)).2⟩)
  · have : ∀ (l : List TPort) (m : Nat), ((cat portPl m l).filter (fun y => y.2.2.2.1)).map (fun y => y.2.2.1) = (l.filter (fun p => decide (TPort.Dir p = 1))).map TPort.Net := by
      intro l
      induction l with
      | nil => intro m; rfl
      | cons p r ih =>
        intro m
        simp only [cat, List.filter_append, List.map_append]
        rw [filter_port, ih (m + 1)]
        by_cases hd : TPort.Dir p = 1
        · simp [hd]
        · simp [hd]
    exact this _ 0

end Go.Proofs.YtenpdmpfepgkjaaGreatDoor
/-
  Plain laws: the view's links are the reference's.
-/
namespace Go.Proofs.YtenpdmpfepgkjaaGreatDoor
set_option linter.unusedVariables false
set_option linter.unusedSimpArgs false
open Go Go.Sx

theorem countP_two {α : Type} {p : α → Bool} {l : List α} {i j : Nat} {a b : α} (hij : i < j) (ha : l[i]? = some a) (hb : l[j]? = some b) (pa : p a = true) (pb : p b = true) : 2 ≤ l.countP p := by
  have e : l.countP p = (l.take j).countP p + (l.drop j).countP p := by rw [← List.countP_append, List.take_append_drop]
  have h1 : 0 < (l.take j).countP p := List.countP_pos_iff.2 ⟨a, List.mem_iff_getElem?.2 ⟨i, by rw [List.getElem?_take, if_pos hij]; exact ha⟩, pa⟩
  have h2 : 0 < (l.drop j).countP p := List.countP_pos_iff.2 ⟨b, List.mem_iff_getElem?.2 ⟨0, by rw [List.getElem?_drop]; exact hb⟩, pb⟩
  omega

def drvP (n : Int) (x : Pl) : Bool := decide (x.2.2.1 = n) && x.2.2.2.1
def drvOf (d : TDesign) (n : Int) : Int := findIx (drvP n) (places d)

theorem drv_count {a : TLibrary} {d : TDesign} (h : DesignOk a d) (hsm : sm tDesign d) {v : Nat} (hv : v < (TDesign.Nets d).length) : (places d).countP (drvP (v : Int)) = 1 := by
  have h1 := h.2.2.2.2 _ (List.mem_of_getElem? (cnts_get (s := drvs d) hv))
  rw [← drv_places h hsm, List.countP_map, List.countP_filter] at h1
  have e : (places d).countP (drvP (v : Int)) = (places d).countP (fun y => ((fun x => decide (x = (v : Int))) ∘ fun y : Pl => y.2.2.1) y && y.2.2.2.1) := rfl
  rw [e]
  omega

/-- the place that drives a net -/
theorem drv_ex {a : TLibrary} {d : TDesign} (h : DesignOk a d) (hsm : sm tDesign d) {v : Nat} (hv : v < (TDesign.Nets d).length) :
    ∃ (q : Nat) (y : Pl), (places d)[q]? = some y ∧ drvP (v : Int) y = true ∧ drvOf d (v : Int) = (q : Int) ∧ ∀ (p : Nat) (z : Pl), (places d)[p]? = some z → drvP (v : Int) z = true → p = q := by
  have hc := drv_count h hsm hv
  obtain ⟨y, hy, hp⟩ := List.countP_pos_iff.1 (show 0 < (places d).countP (drvP (v : Int)) by omega)
  obtain ⟨q, hq⟩ := List.mem_iff_getElem?.1 hy
  have uniq : ∀ (p : Nat) (z : Pl), (places d)[p]? = some z → drvP (v : Int) z = true → p = q := by
    intro p z hz hpz
    rcases Nat.lt_trichotomy p q with hlt | he | hlt
    · have := countP_two hlt hz hq hpz hp; omega
    · exact he
    · have := countP_two hlt hq hz hp hpz; omega
  refine ⟨q, y, hq, hp, findIx_first hq hp (fun j z hj hz => ?_), uniq⟩
  cases hb : drvP (v : Int) z
  · rfl
  · have := uniq j z hz hb; omega

def netL (d : TDesign) (n : Int) : List TLink := cat (fun j s => [mkLink (drvOf d n) s 0 0 2 (j : Int), mkLink (drvOf d n) s 1 1 2 (j : Int)]) 0 (sinks d n)
theorem netL_len {d : TDesign} (h : Few d) (n : Int) : (netL d n).length ≤ 156 := by
  have h1 := cat_len (f := fun j s => [mkLink (drvOf d n) s 0 0 2 (j : Int), mkLink (drvOf d n) s 1 1 2 (j : Int)]) (c := 2) (l := sinks d n) (m := 0) (fun _ _ _ => by simp)
  have h2 := sinkF_len n (places d) 0
  have h3 := places_len h
  unfold netL
  have : (sinks d n).length ≤ 78 := by unfold sinks; omega
  omega
theorem cat_const {α β γ : Type} (f : Nat → List γ) : ∀ (l : List α) (r : List β) (m : Nat), l.length = r.length → cat (fun k _ => f k) m l = cat (fun k _ => f k) m r
  | [], [], _, _ => rfl
  | [], _ :: _, _, h => by simp at h
  | _ :: _, [], _, h => by simp at h
  | _ :: l, _ :: r, m, h => by simp only [cat]; rw [cat_const f l r (m + 1) (by simpa using h)]

def netLinks (b : TBlock) : List TLink := cat (fun v _ => netL (TBlock.Design b) (v : Int)) 0 (TBlock.Wires b)
def linksOf (b : TBlock) : List TLink := instLinks b ++ netLinks b

theorem cat_net_len {b : TBlock} (h : BlkSm b) {α : Type} (l : List α) : (cat (fun v _ => netL (TBlock.Design b) (v : Int)) 0 l).length ≤ 156 * l.length :=
  cat_len (f := fun v _ => netL (TBlock.Design b) (v : Int)) (c := 156) (l := l) (m := 0) (fun v _ _ => netL_len h.ok.1.few _)

theorem instLinks_len {b : TBlock} (h : BlkSm b) : (instLinks b).length ≤ 448 := by
  have := cat_instL_len h (TDesign.Instances (TBlock.Design b)).length
  rw [List.take_length] at this
  exact this

theorem drvOf_bd {b : TBlock} (h : BlkSm b) {v : Nat} (hv : v < (TDesign.Nets (TBlock.Design b)).length) : 0 ≤ drvOf (TBlock.Design b) (v : Int) ∧ drvOf (TBlock.Design b) (v : Int) < ((places (TBlock.Design b)).length : Int) := by
  obtain ⟨q, y, hq, _, e, _⟩ := drv_ex h.ok.1 (smBlock h.sm).2.1 hv
  have := (List.getElem?_eq_some_iff.1 hq).1
  rw [e]; omega

theorem spec_l09Links_eq {b : TBlock} (h : BlkSm b) : spec_l09Links b = some (linksOf b) := by
  have hf := h.ok.1.few
  have h14 := hf.insts
  have h30 := h.ok.1.2.1.2.1
  have hpl := places_len hf
  unfold spec_l09Links
  refine appendLoop (l := TDesign.Instances (TBlock.Design b)) (instL b) [] (fun i x hx hi => ?_) ?_
  · have hxm := List.mem_of_getElem? hx
    obtain ⟨hc, ⟨c, hc1, hc2⟩, _⟩ := h.ok.1.2.2.1 x hxm
    have hl := cat_instL_len h i
    simp only [List.nil_append, spec_l09Links_loop3, show (i : Int) < ((TDesign.Instances (TBlock.Design b)).length : Int) from by omega, if_true, atI_nat, hx, Option.bind_some, atI_some hc.1 hc1]
    rw [spec_inst_eq h hx hc1 _ (by omega)]
    have e : instL b i x = arcsL c (fst (TBlock.Design b) i : Int) := by unfold instL; rw [hc1]
    rw [e]
  · have hil := instLinks_len h
    simp only [List.nil_append, spec_l09Links_loop3, Int.lt_irrefl, if_false]
    refine appendLoop (l := TDesign.Nets (TBlock.Design b)) (fun v _ => netL (TBlock.Design b) (v : Int)) (instLinks b) (ρ := (List TLink × Int × Unit) ⊕ List TLink) (good := .inr (linksOf b)) (fun v s hs hv => ?_) ?_
    · have hdr := drvOf_bd h hv
      have hl := cat_net_len h ((TDesign.Nets (TBlock.Design b)).take v)
      rw [List.length_take] at hl
      have e1 : spec_l05Driver (TBlock.Design b) (v : Int) = some (drvOf (TBlock.Design b) (v : Int)) := spec_l05Driver_eq _ _ hf
      simp only [spec_l09Links_loop2, show (v : Int) < ((TDesign.Nets (TBlock.Design b)).length : Int) from by omega, if_true, e1, Option.bind_some, spec_l05Sinks_eq _ _ hf]
      have hsl : (sinks (TBlock.Design b) (v : Int)).length ≤ 78 := by
        have := sinkF_len (v : Int) (places (TBlock.Design b)) 0
        unfold sinks; omega
      generalize hacc : instLinks b ++ cat (fun v _ => netL (TBlock.Design b) (v : Int)) 0 ((TDesign.Nets (TBlock.Design b)).take v) = acc
      have hal : acc.length ≤ 10000 := by rw [← hacc, List.length_append]; omega
      refine appendLoop (l := sinks (TBlock.Design b) (v : Int)) (fun j s => [mkLink (drvOf (TBlock.Design b) (v : Int)) s 0 0 2 (j : Int), mkLink (drvOf (TBlock.Design b) (v : Int)) s 1 1 2 (j : Int)]) acc (fun j y hy hj => ?_) ?_
      · have hyb := mem_sinks (List.mem_of_getElem? hy)
        have hl2 := cat_len (f := fun j s => [mkLink (drvOf (TBlock.Design b) (v : Int)) s 0 0 2 (j : Int), mkLink (drvOf (TBlock.Design b) (v : Int)) s 1 1 2 (j : Int)]) (c := 2) (l := (sinks (TBlock.Design b) (v : Int)).take j) (m := 0) (fun _ _ _ => by simp)
        rw [List.length_take] at hl2
        simp only [spec_l09Links_loop1, show (j : Int) < ((sinks (TBlock.Design b) (v : Int)).length : Int) from by omega, if_true, atI_nat, hy, Option.bind_some]
        rw [pair_eq _ _ _ _ _ _ _ (by rw [List.length_append]; omega) (by omega) (by omega) (by omega) (by omega), Option.bind_some, pair_eq _ _ _ _ _ _ _ (by simp only [List.length_append, List.length_singleton]; omega) (by omega) (by omega) (by omega) (by omega), Option.bind_some, W_suc (by omega)]
        simp only [List.append_assoc, List.cons_append, List.nil_append]
      · simp only [spec_l09Links_loop1, Int.lt_irrefl, if_false]
        rw [W_suc (by omega)]; rfl
    · simp only [spec_l09Links_loop2, Int.lt_irrefl, if_false]
      rw [cat_const (fun v => netL (TBlock.Design b) (v : Int)) (TDesign.Nets (TBlock.Design b)) (TBlock.Wires b) 0 h.ok.2.1.symm]
      rfl

end Go.Proofs.YtenpdmpfepgkjaaGreatDoor
/-
  Plain laws: the view, with its links.
-/
namespace Go.Proofs.YtenpdmpfepgkjaaGreatDoor
set_option linter.unusedVariables false
set_option linter.unusedSimpArgs false
open Go Go.Sx

/-- how the lists of drivers and sinks stand behind k places -/
structure Stand (d : TDesign) (n k : Nat) (l0 : List Int) (l1 : List (List Int)) : Prop where
  n0 : l0.length = n
  n1 : l1.length = n
  drv : ∀ (v q : Nat) (y : Pl), v < n → q < k → (places d)[q]? = some y → drvP (v : Int) y = true → l0[v]? = some (q : Int)
  snk : ∀ (v : Nat), v < n → l1[v]? = some (cat (sinkF (v : Int)) 0 ((places d).take k))

theorem newView_eq {b : TBlock} (h : BlkSm b) : ∃ v, impl_newView b = some v ∧ Tview.places v = places (TBlock.Design b) ∧ Tview.Block v = b ∧ Tview.links v = linksOf b := by
  have hD := h.ok.1
  have hf := hD.few
  have hsd := (smBlock h.sm).2.1
  have hpl := places_len hf
  have h14 := hf.insts
  have hwn := h.ok.2.1
  have h30 := hD.2.1.2.1
  have hil := instLinks_len h
  unfold impl_newView
  rw [impl_Design_places_eq _ hf, Option.bind_some]
  refine loopTot (l := TDesign.Instances (TBlock.Design b)) (fun k v => v.1 = ((fst (TBlock.Design b) k : Nat) : Int) ∧ v.2.1 = (k : Int) ∧ v.2.2.1 = cat (instL b) 0 ((TDesign.Instances (TBlock.Design b)).take k)) _ ⟨rfl, rfl, rfl⟩ ?_ ?_
  · rintro k x ⟨n, i, c, ⟨⟩⟩ hx hk ⟨hn, hi, hc⟩
    simp only at hn hi hc
    subst hi
    subst hn
    subst hc
    have h70 := fst_le hf k
    have hl := cat_instL_len h k
    obtain ⟨c, h1, h2, h3⟩ := impl_cellLinks_eq h (List.mem_of_getElem? hx) ((fst (TBlock.Design b) k : Nat) : Int) (by omega)
    have hal := arcsL_len c ((fst (TBlock.Design b) k : Nat) : Int) h2.2.2.1.1
    have hnx := hf.nets x (List.mem_of_getElem? hx)
    simp only [impl_newView_loop4, show (k : Int) < ((TDesign.Instances (TBlock.Design b)).length : Int) from by omega, if_true, atI_nat, hx, h3, Option.bind_some, impl_length_int64_eq]
    rw [guardO_pos (by omega)]
    refine ⟨_, rfl, ?_, ?_, ?_⟩
    · simp only; rw [W_in (by omega) (by omega), fst_succ hx]; omega
    · simp only; rw [W_suc (by omega)]
    · simp only
      rw [cat_snoc hx]
      congr 1
      unfold instL; rw [h1]
  · rintro ⟨n, i, c0, ⟨⟩⟩ ⟨_, hi, hc0⟩
    simp only at hi hc0
    subst hi
    rw [List.take_length] at hc0
    have hc0l : c0.length ≤ 448 := by rw [hc0]; exact hil
    simp only [impl_newView_loop4, Int.lt_irrefl, if_false]
    rw [guardO_pos (by omega), guardO_pos (by omega), guardO_pos (by omega), guardO_pos (by omega), guardO_pos (by omega)]
    obtain ⟨r, hr1, r', rfl, hr2⟩ := loopTot (l := places (TBlock.Design b)) (ρ := (Int × Int × List TLink × Unit) ⊕ Tview) (step := fun v => impl_newView_loop3 b (places (TBlock.Design b)) c0 v.1 v.2.1 v.2.2.1) (v := ((0 : Int), List.replicate (Int.toNat (↑(List.length (TBlock.Wires b)) : Int)) (0 : Int), List.replicate (Int.toNat (↑(List.length (TBlock.Wires b)) : Int)) (([] : List Int)), ()))
      (fun k v => v.1 = (k : Int) ∧ Stand (TBlock.Design b) (TBlock.Wires b).length k v.2.1 v.2.2.1)
      (fun r => ∃ r', r = .inr r' ∧ Tview.places r' = places (TBlock.Design b) ∧ Tview.Block r' = b ∧ Tview.links r' = linksOf b)
      ⟨rfl, by simp, by simp, fun v q y _ hq => by omega, fun v hv => by
        rw [List.take_zero]
        simp only [cat]
        rw [List.getElem?_replicate, if_pos (by omega)]⟩
      (by
        rintro k x ⟨i, l0, l1, ⟨⟩⟩ hx hk ⟨hi, hS⟩
        simp only at hi hS
        subst hi
        have hn := place_net hD (List.mem_of_getElem? hx)
        have hn1 := hn.2
        have hn00 : 0 ≤ x.2.2.1 := hn.1
        have htn : Tplace.net x = x.2.2.1 := rfl
        simp only [impl_newView_loop3, show (k : Int) < ((places (TBlock.Design b)).length : Int) from by omega, if_true, atI_nat, hx, Option.bind_some]
        have hn0 := hS.n0
        have hn2 := hS.n1
        obtain ⟨q, hq1, _⟩ := at_of (l := l0) hn.1 (by omega)
        obtain ⟨p, hp1, _⟩ := at_of (l := l1) hn.1 (by omega)
        have hpv : p = cat (sinkF x.2.2.1) 0 ((places (TBlock.Design b)).take k) := by
          have e := hS.snk (x.2.2.1).toNat (by omega)
          have e2 : l1[(x.2.2.1).toNat]? = some p := by
            have := hp1
            unfold atI at this
            rw [if_pos hn.1] at this
            exact this
          rw [e] at e2
          injection e2 with e2
          rw [← e2, show (((x.2.2.1).toNat : Nat) : Int) = x.2.2.1 by omega]
        have hpl2 : p.length ≤ 78 := by
          rw [hpv]
          have := sinkF_len x.2.2.1 ((places (TBlock.Design b)).take k) 0
          rw [List.length_take] at this
          omega
        by_cases hd : x.2.2.2.1 = true
        · rw [if_pos hd, show atI l0 (Tplace.net x) = some q from hq1, Option.bind_some]
          refine ⟨_, rfl, by simp only; rw [W_suc (by omega)], ?_, ?_, ?_, ?_⟩
          · simp [hn0]
          · exact hn2
          · intro v p' y hv hp' hy hdy
            simp only
            rw [List.getElem?_set]
            by_cases hnet : (Tplace.net x).toNat = v
            · rw [if_pos hnet, if_pos (by omega)]
              obtain ⟨q', _, _, _, _, uniq⟩ := drv_ex hD hsd (v := v) (by omega)
              have hxd : drvP (v : Int) x = true := by
                unfold drvP
                have : x.2.2.1 = (v : Int) := by rw [← hnet]; show x.2.2.1 = ((x.2.2.1).toNat : Int); omega
                simp [this, hd]
              have e1 := uniq k x hx hxd
              have e2 := uniq p' y hy hdy
              rw [e1, e2]
            · rw [if_neg hnet]
              have hpk : p' ≠ k := by
                intro e
                subst e
                rw [hx] at hy
                injection hy with hy
                subst hy
                unfold drvP at hdy
                simp only [Bool.and_eq_true, decide_eq_true_eq] at hdy
                exact hnet (by show (x.2.2.1).toNat = v; omega)
              exact hS.drv v p' y hv (by omega) hy hdy
          · intro v hv
            simp only
            rw [hS.snk v hv, cat_snoc hx]
            congr 1
            have : sinkF (v : Int) k x = [] := by
              unfold sinkF
              rw [if_pos hd]
              split <;> rfl
            rw [this, List.append_nil]
        · rw [if_neg hd, show atI l1 (Tplace.net x) = some p from hp1, Option.bind_some, guardO_pos (by simp; omega)]
          refine ⟨_, rfl, by simp only; rw [W_suc (by omega)], hn0, ?_, ?_, ?_⟩
          · simp [hn2]
          · intro v p' y hv hp' hy hdy
            have hpk : p' ≠ k := by
              intro e
              subst e
              rw [hx] at hy
              injection hy with hy
              subst hy
              unfold drvP at hdy
              simp only [Bool.and_eq_true] at hdy
              exact hd hdy.2
            exact hS.drv v p' y hv (by omega) hy hdy
          · intro v hv
            simp only
            rw [List.getElem?_set, cat_snoc hx]
            by_cases hnet : (Tplace.net x).toNat = v
            · have hxv : x.2.2.1 = (v : Int) := by rw [← hnet]; show x.2.2.1 = ((x.2.2.1).toNat : Int); omega
              rw [if_pos hnet, if_pos (by omega), hpv, hxv]
              unfold sinkF
              rw [if_pos hxv, if_neg hd]
            · have hxv : ¬ x.2.2.1 = (v : Int) := fun e => hnet (by show (x.2.2.1).toNat = v; omega)
              rw [if_neg hnet, hS.snk v hv]
              have : sinkF (v : Int) k x = [] := by unfold sinkF; rw [if_neg hxv]
              rw [this, List.append_nil])
      (by
        rintro ⟨i, l0, l1, ⟨⟩⟩ ⟨hi, hS⟩
        simp only at hi hS
        subst hi
        simp only [impl_newView_loop3, Int.lt_irrefl, if_false]
        have hS0 := hS.n0
        obtain ⟨r, hr1, r', rfl, hr2⟩ := loopTot (l := TBlock.Wires b) (ρ := (Int × List Int × List (List Int) × Unit) ⊕ ((Int × Int × List TLink × Unit) ⊕ Tview)) (step := fun v => impl_newView_loop2 b (places (TBlock.Design b)) l0 v.1 v.2.1 v.2.2.1 v.2.2.2.1 v.2.2.2.2.1) (v := ((0 : Int), ([] : List Int), ([] : List (List Int)), c0, l1, ()))
          (fun k v => v.1 = (k : Int) ∧ v.2.1.length = k ∧ v.2.2.1.length = k ∧ v.2.2.2.1 = c0 ++ cat (fun v _ => netL (TBlock.Design b) (v : Int)) 0 ((TBlock.Wires b).take k) ∧ v.2.2.2.2.1 = l1)
          (fun r => ∃ r', r = .inr (.inr r') ∧ Tview.places r' = places (TBlock.Design b) ∧ Tview.Block r' = b ∧ Tview.links r' = linksOf b)
          ⟨rfl, rfl, rfl, by simp [cat], rfl⟩
          (by
            rintro k w ⟨i, c1, c2, c3, l2, ⟨⟩⟩ hw hk ⟨hi, g1, g2, g3, g4⟩
            simp only at hi g1 g2 g3 g4
            subst hi
            subst g4
            have hc3 : c3.length ≤ 5200 := by
              have := cat_net_len h ((TBlock.Wires b).take k)
              rw [List.length_take] at this
              rw [g3, List.length_append]; omega
            obtain ⟨nl, hnl, hnl2⟩ := nodeLoads_tot h hw
            obtain ⟨ed, hed, hed2⟩ := exactDelays_tot h hw
            have hpar := (h.ok.2.2 k w hw).1.1
            have hn0 : atI nl (0 : Int) = some nl[0] := (show nl[0]? = some nl[0] from List.getElem?_eq_getElem (by omega))
            have hl2 := hS.snk k hk
            rw [List.take_length] at hl2
            obtain ⟨dq, dy, hdq, hdy, hdo, _⟩ := drv_ex hD hsd (v := k) (by omega)
            have hl0 := hS.drv k dq dy hk (List.getElem?_eq_some_iff.1 hdq).1 hdq hdy
            have hdl := (List.getElem?_eq_some_iff.1 hdq).1
            have hl2' : l2[k]? = some (sinks (TBlock.Design b) (k : Int)) := hl2
            have hsl : (sinks (TBlock.Design b) (k : Int)).length ≤ 78 := by
              have := sinkF_len (k : Int) (places (TBlock.Design b)) 0
              unfold sinks; omega
            simp only [impl_newView_loop2, show (k : Int) < ((TBlock.Wires b).length : Int) from by omega, if_true, hnl, hn0, hed, Option.bind_some, atI_nat, hl2']
            rw [guardO_pos (by simp; omega), guardO_pos (by simp; omega)]
            obtain ⟨r, hr1, r', rfl, hr2⟩ := loopTot (l := sinks (TBlock.Design b) (k : Int)) (ρ := (Int × List Int × List (List Int) × List TLink × List (List Int) × Unit) ⊕ ((Int × List Int × List (List Int) × Unit) ⊕ ((Int × Int × List TLink × Unit) ⊕ Tview))) (step := fun v => impl_newView_loop1 l0 (k : Int) c1 c2 l2 nl[0] ed (sinks (TBlock.Design b) (k : Int)) v.1 v.2.1) (v := ((0 : Int), c3, ()))
              (fun m v => v.1 = (m : Int) ∧ v.2.1 = c3 ++ cat (fun j s => [mkLink (drvOf (TBlock.Design b) (k : Int)) s 0 0 2 (j : Int), mkLink (drvOf (TBlock.Design b) (k : Int)) s 1 1 2 (j : Int)]) 0 ((sinks (TBlock.Design b) (k : Int)).take m))
              (fun r => ∃ r', r = .inl r' ∧ r'.1 = ((k + 1 : Nat) : Int) ∧ r'.2.1.length = k + 1 ∧ r'.2.2.1.length = k + 1 ∧ r'.2.2.2.1 = c0 ++ cat (fun v _ => netL (TBlock.Design b) (v : Int)) 0 ((TBlock.Wires b).take (k + 1)) ∧ r'.2.2.2.2.1 = l2)
              ⟨rfl, by simp [cat]⟩
              (by
                rintro m y ⟨i, c4, ⟨⟩⟩ hy hm ⟨hi, gc⟩
                simp only at hi gc
                subst hi
                have hyb := mem_sinks (List.mem_of_getElem? hy)
                have hc4 : c4.length ≤ 6000 := by
                  have := cat_len (f := fun j s => [mkLink (drvOf (TBlock.Design b) (k : Int)) s 0 0 2 (j : Int), mkLink (drvOf (TBlock.Design b) (k : Int)) s 1 1 2 (j : Int)]) (c := 2) (l := (sinks (TBlock.Design b) (k : Int)).take m) (m := 0) (fun _ _ _ => by simp)
                  rw [List.length_take] at this
                  rw [gc, List.length_append]; omega
                simp only [impl_newView_loop1, show (m : Int) < ((sinks (TBlock.Design b) (k : Int)).length : Int) from by omega, if_true, atI_nat, hy, Option.bind_some]
                have st : ∀ (j : Nat) (c5 : List TLink), j < 2 → c5.length ≤ 6100 → impl_newView_loop0 l0 (k : Int) (m : Int) y (j : Int) c5 = some (.inl (((j + 1 : Nat) : Int), c5 ++ [mkLink (dq : Int) y (j : Int) (j : Int) 2 (m : Int)], ())) := by
                  intro j c5 hj hc5
                  simp only [impl_newView_loop0, show (j : Int) < (2 : Int) from by omega, if_true, atI_nat, hl0, Option.bind_some]
                  rw [guardO_pos (by simp; omega), W_in (n := 2 * (dq : Int)) (by omega) (by omega), W_in (n := 2 * (dq : Int) + (j : Int)) (by omega) (by omega), W_in (n := 2 * y) (by omega) (by omega), W_in (n := 2 * y + (j : Int)) (by omega) (by omega), W_suc (by omega)]
                  rfl
                have s0 := st 0 c4 (by omega) (by omega)
                have s1 := st 1 (c4 ++ [mkLink (dq : Int) y ((0 : Nat) : Int) ((0 : Nat) : Int) 2 (m : Int)]) (by omega) (by simp; omega)
                have hw2 : whileM (fun v => impl_newView_loop0 l0 (k : Int) (m : Int) y v.1 v.2.1) ((0 : Int), c4, ()) = some (.inl (((m + 1 : Nat) : Int), c4 ++ [mkLink (dq : Int) y ((0 : Nat) : Int) ((0 : Nat) : Int) 2 (m : Int)] ++ [mkLink (dq : Int) y ((1 : Nat) : Int) ((1 : Nat) : Int) 2 (m : Int)], ())) := by
                  rw [whileM_in (v' := (((0 + 1 : Nat) : Int), c4 ++ [mkLink (dq : Int) y ((0 : Nat) : Int) ((0 : Nat) : Int) 2 (m : Int)], ())) s0, whileM_in (v' := (((1 + 1 : Nat) : Int), c4 ++ [mkLink (dq : Int) y ((0 : Nat) : Int) ((0 : Nat) : Int) 2 (m : Int)] ++ [mkLink (dq : Int) y ((1 : Nat) : Int) ((1 : Nat) : Int) 2 (m : Int)], ())) s1, whileM_out]
                  simp only [impl_newView_loop0]
                  rw [if_neg (by omega), W_suc (by omega)]
                refine ⟨_, hw2, rfl, ?_⟩
                simp only
                rw [gc, cat_snoc hy, hdo]
                simp only [List.append_assoc, List.cons_append, List.nil_append, Int.natCast_zero, Int.natCast_one])
              (by
                rintro ⟨i, c4, ⟨⟩⟩ ⟨hi, gc⟩
                simp only at hi gc
                subst hi
                rw [List.take_length] at gc
                simp only [impl_newView_loop1, Int.lt_irrefl, if_false]
                refine ⟨_, rfl, _, rfl, by simp only; rw [W_suc (by omega)], by simp [g1], by simp [g2], ?_, ?_⟩
                · simp only
                  rw [gc, g3, cat_snoc hw, List.append_assoc]
                  rfl
                · simp only
                  apply List.ext_getElem?
                  intro i
                  rw [List.getElem?_set]
                  split
                  · rename_i e
                    have e : k = i := by simpa using e
                    subst e
                    rw [hl2']
                    split
                    · rfl
                    · rename_i hlt
                      exact absurd (by have := hS.n1; simpa using (show k < l2.length by omega)) hlt
                  · rfl)
            exact ⟨r', hr1, hr2⟩)
          (by
            rintro ⟨i, c1, c2, c3, l2, ⟨⟩⟩ ⟨hi, g1, g2, g3, g4⟩
            simp only at hi g3
            subst hi
            rw [List.take_length] at g3
            simp only [impl_newView_loop2, Int.lt_irrefl, if_false]
            refine ⟨_, rfl, _, rfl, rfl, rfl, ?_⟩
            show c3 = linksOf b
            rw [g3, hc0]; rfl)
        exact ⟨_, hr1, _, rfl, hr2⟩)
    exact ⟨r', hr1, hr2⟩

end Go.Proofs.YtenpdmpfepgkjaaGreatDoor
/-
  Plain laws: what is reached through live links, by the queue.
-/
namespace Go.Proofs.YtenpdmpfepgkjaaGreatDoor
set_option linter.unusedVariables false
set_option linter.unusedSimpArgs false
open Go Go.Sx

def Live (L : List TLink) (lv : List Bool) (a c : Int) : Prop := ∃ (k : Nat) (l : TLink), L[k]? = some l ∧ lv[k]? = some true ∧ TLink.From l = a ∧ TLink.To l = c
inductive Rch (L : List TLink) (lv : List Bool) (S : Int → Prop) : Int → Prop
  | base {a : Int} : S a → Rch L lv S a
  | step {a c : Int} : Rch L lv S a → Live L lv a c → Rch L lv S c

theorem Rch.sub {L : List TLink} {lv : List Bool} {S T : Int → Prop} (h0 : ∀ a, S a → T a) (h1 : ∀ a c, T a → Live L lv a c → T c) {a : Int} (h : Rch L lv S a) : T a := by
  induction h with
  | base h => exact h0 _ h
  | step _ hl ih => exact h1 _ _ ih hl
theorem Rch.mono {L : List TLink} {lv : List Bool} {S T : Int → Prop} (h0 : ∀ a, S a → T a) {a : Int} (h : Rch L lv S a) : Rch L lv T a := h.sub (fun a ha => .base (h0 a ha)) (fun a c ha hl => .step ha hl)

/-- what lies ahead, weighed -/
def wt : List (List Int) → List Bool → Nat
  | x :: xs, b :: bs => (if b = true then 0 else 1 + x.length) + wt xs bs
  | _, _ => 0
theorem wt_set : ∀ (l1 : List (List Int)) (l2 : List Bool) (i : Nat) (x : List Int), l1[i]? = some x → l2[i]? = some false → wt l1 (l2.set i true) + (1 + x.length) = wt l1 l2
  | [], _, _, _, h, _ => by simp at h
  | _ :: _, [], _, _, _, h => by simp at h
  | y :: l1, b :: l2, 0, x, h1, h2 => by
    simp at h1 h2
    subst h1; subst h2
    simp [wt]; omega
  | y :: l1, b :: l2, i + 1, x, h1, h2 => by
    have := wt_set l1 l2 i x (by simpa using h1) (by simpa using h2)
    simp only [List.set_cons_succ, wt]
    omega
theorem wt_le : ∀ (l1 : List (List Int)) (l2 : List Bool) (m : Nat), (∀ x ∈ l1, x.length ≤ m) → wt l1 l2 ≤ (1 + m) * l1.length
  | [], _, _, _ => by simp [wt]
  | _ :: _, [], _, _ => by simp [wt]
  | y :: l1, b :: l2, m, h => by
    have h1 := wt_le l1 l2 m (fun x hx => h x (by simp [hx]))
    have h2 := h y (by simp)
    simp only [wt, List.length_cons, Nat.mul_add, Nat.mul_one]
    have h3 : (if b = true then 0 else 1 + y.length) ≤ 1 + m := by split <;> omega
    simp only [Nat.add_mul, Nat.one_mul] at h1 ⊢
    omega

theorem set_same {α : Type} {l : List α} {i : Nat} {x : α} (h : l[i]? = some x) : l.set i x = l := by
  apply List.ext_getElem?
  intro j
  rw [List.getElem?_set]
  split
  · rename_i e
    subst e
    rw [h, if_pos (List.getElem?_eq_some_iff.1 h).1]
  · rfl

/-- links that lead from node to node -/
def InN (N : Nat) (L : List TLink) : Prop := ∀ l ∈ L, (0 ≤ TLink.From l ∧ TLink.From l < (N : Int)) ∧ (0 ≤ TLink.To l ∧ TLink.To l < (N : Int))

/-- the targets of a node's live links -/
structure Nexts (N : Nat) (L : List TLink) (lv : List Bool) (k : Nat) (nx : List (List Int)) : Prop where
  len : nx.length = N
  short : ∀ x ∈ nx, x.length ≤ k
  mem : ∀ (a : Nat) (x : List Int), nx[a]? = some x → ∀ c, c ∈ x ↔ ∃ (j : Nat) (l : TLink), j < k ∧ L[j]? = some l ∧ lv[j]? = some true ∧ TLink.From l = (a : Int) ∧ TLink.To l = c

theorem reach_impl {g : Tgraph} {nodes : List Int} {N : Nat} (hN : (N : Int) = 2 * ((Tview.places (Tgraph.view g)).length : Int)) (hNs : N ≤ 1000) (hL : InN N (Tview.links (Tgraph.view g))) (hLs : (Tview.links (Tgraph.view g)).length ≤ 6000)
    (hlv : (Tgraph.live g).length = (Tview.links (Tgraph.view g)).length) (hn : ∀ a ∈ nodes, 0 ≤ a ∧ a < (N : Int)) (hnl : nodes.length ≤ 1048576) :
    ∃ r, impl_graph_reach_at_impl_forward g nodes () = some r ∧ r.length = N ∧ ∀ (a : Nat) (b : Bool), r[a]? = some b → (b = true ↔ Rch (Tview.links (Tgraph.view g)) (Tgraph.live g) (fun a => a ∈ nodes) (a : Int)) := by
  generalize hLL : Tview.links (Tgraph.view g) = L at *
  unfold impl_graph_reach_at_impl_forward impl_view_nodes
  rw [show impl_length_impl_place (Tview.places (Tgraph.view g)) = some ((Tview.places (Tgraph.view g)).length : Int) from rfl, Option.bind_some, Option.bind_some, ← hN, W_in (n := (N : Int)) (by omega) (by omega), guardO_pos (by omega), guardO_pos (by omega), guardO_pos (by omega), guardO_pos (by omega)]
  refine loopTot (l := L) (fun k v => v.1 = (k : Int) ∧ Nexts N L (Tgraph.live g) k v.2.1) _ ⟨rfl, by simp, fun x hx => by
    rw [List.mem_replicate] at hx; rw [hx.2]; simp, fun a x hx c => by
    rw [List.getElem?_replicate] at hx
    split at hx
    · injection hx with hx
      subst hx
      constructor
      · intro h; cases h
      · rintro ⟨j, _, hj, _⟩; omega
    · cases hx⟩ ?_ ?_
  · rintro k l ⟨i, nx, ⟨⟩⟩ hl hk ⟨hi, hS⟩
    simp only at hi hS
    subst hi
    have hlb := hL l (List.mem_of_getElem? hl)
    have hlv1 : (Tgraph.live g)[k]? = some (Tgraph.live g)[k] := List.getElem?_eq_getElem (by omega)
    generalize (Tgraph.live g)[k] = bl at hlv1
    have hnl2 := hS.len
    obtain ⟨x, hx1, hxm⟩ := at_of (l := nx) hlb.1.1 (by omega)
    have hxa : nx[(TLink.From l).toNat]? = some x := by
      have := hx1
      unfold atI at this
      rw [if_pos hlb.1.1] at this
      exact this
    have hsh := hS.short x hxm
    simp only [impl_graph_reach_at_impl_forward_loop1, hLL, show (k : Int) < (L.length : Int) from by omega, if_true, atI_nat, hl, impl_forward, hlv1, hx1, Option.bind_some]
    by_cases hb : bl = true
    · rw [if_pos hb, guardO_pos (by simp; omega), W_suc (by omega)]
      subst hb
      refine ⟨_, rfl, rfl, by simp [hnl2], ?_, ?_⟩
      · intro y hy
        rcases List.mem_or_eq_of_mem_set hy with hy | rfl
        · have := hS.short y hy; omega
        · simp; omega
      · intro a y hy c
        simp only at hy
        rw [List.getElem?_set] at hy
        split at hy
        · rename_i ea
          rw [if_pos (by omega)] at hy
          injection hy with hy
          subst hy
          rw [List.mem_append, List.mem_singleton, hS.mem _ x hxa c]
          constructor
          · rintro (⟨j, l', h1, h2, h3, h4, h5⟩ | rfl)
            · exact ⟨j, l', by omega, h2, h3, by omega, h5⟩
            · exact ⟨k, l, by omega, hl, hlv1, by omega, rfl⟩
          · rintro ⟨j, l', h1, h2, h3, h4, h5⟩
            by_cases hjk : j = k
            · subst hjk
              rw [hl] at h2; injection h2 with h2; subst h2
              exact .inr h5.symm
            · exact .inl ⟨j, l', by omega, h2, h3, by omega, h5⟩
        · rename_i ea
          rw [hS.mem a y hy c]
          constructor
          · rintro ⟨j, l', h1, h2, h3, h4, h5⟩; exact ⟨j, l', by omega, h2, h3, h4, h5⟩
          · rintro ⟨j, l', h1, h2, h3, h4, h5⟩
            by_cases hjk : j = k
            · subst hjk
              rw [hl] at h2; injection h2 with h2; subst h2
              exact absurd (by omega) ea
            · exact ⟨j, l', by omega, h2, h3, h4, h5⟩
    · rw [if_neg hb, W_suc (by omega)]
      have hbf : bl = false := by simpa using hb
      subst hbf
      refine ⟨_, rfl, rfl, hnl2, fun y hy => by have := hS.short y hy; omega, fun a y hy c => ?_⟩
      rw [hS.mem a y hy c]
      constructor
      · rintro ⟨j, l', h1, h2, h3, h4, h5⟩; exact ⟨j, l', by omega, h2, h3, h4, h5⟩
      · rintro ⟨j, l', h1, h2, h3, h4, h5⟩
        by_cases hjk : j = k
        · subst hjk; rw [hlv1] at h3; cases h3
        · exact ⟨j, l', by omega, h2, h3, h4, h5⟩
  · rintro ⟨i, nx, ⟨⟩⟩ ⟨hi, hS⟩
    simp only at hi hS
    subst hi
    have hnl2 := hS.len
    simp only [impl_graph_reach_at_impl_forward_loop1, hLL, Int.lt_irrefl, if_false]
    unfold slices_Clone_Sint64_int64
    rw [guardO_pos (by omega), guardO_pos (by simp; omega), Option.bind_some]
    have hmemL : ∀ (a : Nat) (x : List Int), nx[a]? = some x → ∀ c, c ∈ x ↔ Live L (Tgraph.live g) (a : Int) c := by
      intro a x hx c
      rw [hS.mem a x hx c]
      constructor
      · rintro ⟨j, l', h1, h2, h3, h4, h5⟩; exact ⟨j, l', h2, h3, h4, h5⟩
      · rintro ⟨j, l', h2, h3, h4, h5⟩; exact ⟨j, l', (List.getElem?_eq_some_iff.1 h2).1, h2, h3, h4, h5⟩
    have hw0 := wt_le nx (List.replicate N false) L.length hS.short
    have hmul : (1 + L.length) * nx.length ≤ 6001 * 1000 := Nat.mul_le_mul (by omega) (by omega)
    have := whileM_inv (σ := List Int × List (List Int) × List Bool × Unit) (ρ := (Int × List (List Int) × Unit) ⊕ List Bool) (step := fun v => impl_graph_reach_at_impl_forward_loop0 v.1 v.2.1 v.2.2.1)
      (fun v => v.2.1 = nx ∧ v.2.2.1.length = N ∧ v.1.length + wt nx v.2.2.1 ≤ 8000000 ∧
        (∀ a ∈ v.1, 0 ≤ a ∧ a < (N : Int) ∧ Rch L (Tgraph.live g) (fun a => a ∈ nodes) a) ∧
        (∀ (a : Nat), v.2.2.1[a]? = some true → Rch L (Tgraph.live g) (fun a => a ∈ nodes) (a : Int)) ∧
        (∀ a ∈ nodes, a ∈ v.1 ∨ v.2.2.1[a.toNat]? = some true) ∧
        (∀ (a : Nat) (c : Int), v.2.2.1[a]? = some true → Live L (Tgraph.live g) (a : Int) c → c ∈ v.1 ∨ v.2.2.1[c.toNat]? = some true))
      (fun v => v.1.length + wt nx v.2.2.1)
      (fun r => ∃ r', r = .inr r' ∧ r'.length = N ∧ ∀ (a : Nat) (b : Bool), r'[a]? = some b → (b = true ↔ Rch L (Tgraph.live g) (fun a => a ∈ nodes) (a : Int)))
      (v := ([] ++ nodes, nx, List.replicate (Int.toNat (N : Int)) false, ()))
      ⟨rfl, by simp, by simp only [List.nil_append, Int.toNat_natCast]; omega, fun a ha => by
          simp only [List.nil_append] at ha
          exact ⟨(hn a ha).1, (hn a ha).2, .base ha⟩, fun a ha => (by
          simp only [Int.toNat_natCast] at ha
          rw [List.getElem?_replicate] at ha
          split at ha <;> cases ha), fun a ha => .inl (by simpa using ha), fun a c ha _ => (by
          simp only [Int.toNat_natCast] at ha
          rw [List.getElem?_replicate] at ha
          split at ha <;> cases ha)⟩
      (by
        rintro ⟨op, nx', rc, ⟨⟩⟩ ⟨e1, e2, e3, e4, e5, e6, e7⟩
        simp only at e1 e2 e3 e4 e5 e6 e7
        subst e1
        simp only [impl_graph_reach_at_impl_forward_loop0]
        cases op with
        | nil =>
          rw [if_neg (by simp)]
          refine .inr ⟨_, rfl, rc, rfl, e2, fun a b hb => ?_⟩
          constructor
          · intro h; subst h; exact e5 a hb
          · intro h
            have hall : ∀ c : Int, Rch L (Tgraph.live g) (fun a => a ∈ nodes) c → (0 ≤ c ∧ rc[c.toNat]? = some true) := by
              intro c hc
              refine hc.sub (T := fun c => 0 ≤ c ∧ rc[c.toNat]? = some true) (fun a ha => ⟨(hn a ha).1, ?_⟩) (fun a c ha hl => ?_)
              · rcases e6 a ha with h | h
                · cases h
                · exact h
              · obtain ⟨k, l, h1, _, _, h4⟩ := id hl
                have hb2 := hL l (List.mem_of_getElem? h1)
                have hl' : Live L (Tgraph.live g) ((a.toNat : Nat) : Int) c := by rw [show ((a.toNat : Nat) : Int) = a by omega]; exact hl
                rcases e7 a.toNat c ha.2 hl' with h | h
                · cases h
                · exact ⟨by omega, h⟩
            have := (hall (a : Int) h).2
            rw [Int.toNat_natCast, hb] at this
            injection this
        | cons x0 rest =>
          obtain ⟨hx0, hxN, hxR⟩ := e4 x0 (by simp)
          have hdr : List.take (Int.toNat (((x0 :: rest).length : Nat) : Int) - Int.toNat (1 : Int)) (List.drop (Int.toNat (1 : Int)) (x0 :: rest)) = rest := by simp
          obtain ⟨b0, hb1, _⟩ := at_of (l := rc) hx0 (by omega)
          have hba : rc[x0.toNat]? = some b0 := by
            have := hb1
            unfold atI at this
            rw [if_pos hx0] at this
            exact this
          rw [if_pos (by simp only [List.length_cons]; omega), show atI (x0 :: rest) (0 : Int) = some x0 from rfl, Option.bind_some, guardO_pos (by simp only [List.length_cons]; omega), guardO_pos (by omega), hb1, Option.bind_some]
          simp only [hdr]
          simp only [List.length_cons] at e3
          by_cases hb : b0 = true
          · subst hb
            rw [if_pos rfl]
            refine .inl ⟨_, rfl, ⟨rfl, e2, by simp only; omega, fun a ha => e4 a (by simp [ha]), e5, fun a ha => ?_, fun a c ha hl => ?_⟩, by simp only [List.length_cons]; omega⟩
            · rcases e6 a ha with h | h
              · rcases List.mem_cons.1 h with h | h
                · subst h; exact .inr hba
                · exact .inl h
              · exact .inr h
            · rcases e7 a c ha hl with h | h
              · rcases List.mem_cons.1 h with h | h
                · subst h; exact .inr hba
                · exact .inl h
              · exact .inr h
          · have hbf : b0 = false := by simpa using hb
            subst hbf
            obtain ⟨x2, hx2, hx2m⟩ := at_of (l := nx') hx0 (by omega)
            have hxa : nx'[x0.toNat]? = some x2 := by
              have := hx2
              unfold atI at this
              rw [if_pos hx0] at this
              exact this
            have hwt := wt_set nx' rc x0.toNat x2 hxa hba
            have hx0n : ((x0.toNat : Nat) : Int) = x0 := by omega
            rw [if_neg hb, hx2, Option.bind_some, guardO_pos (by omega), set_same hxa]
            have up : ∀ a : Nat, rc[a]? = some true → (rc.set x0.toNat true)[a]? = some true := by
              intro a ha
              rw [List.getElem?_set]
              split
              · rw [if_pos (by omega)]
              · exact ha
            have at0 : (rc.set x0.toNat true)[x0.toNat]? = some true := by rw [List.getElem?_set_self (by omega)]
            refine .inl ⟨_, rfl, ⟨rfl, by simp [e2], by simp only [List.length_append]; omega, fun a ha => ?_, fun a ha => ?_, fun a ha => ?_, fun a c ha hl => ?_⟩, by simp only [List.length_append, List.length_cons]; omega⟩
            · rcases List.mem_append.1 ha with ha | ha
              · exact e4 a (by simp [ha])
              · have hl := (hmemL _ x2 hxa a).1 ha
                rw [hx0n] at hl
                obtain ⟨k, l, h1, _, _, h4⟩ := id hl
                have hb2 := hL l (List.mem_of_getElem? h1)
                exact ⟨by omega, by omega, .step hxR hl⟩
            · simp only at ha
              rw [List.getElem?_set] at ha
              split at ha
              · rename_i e; rw [← e, hx0n]; exact hxR
              · exact e5 a ha
            · rcases e6 a ha with h | h
              · rcases List.mem_cons.1 h with h | h
                · subst h; exact .inr at0
                · exact .inl (by simp [h])
              · exact .inr (up _ h)
            · simp only at ha
              rw [List.getElem?_set] at ha
              split at ha
              · rename_i e
                subst e
                exact .inl (by simp only [List.mem_append]; exact .inr ((hmemL _ x2 hxa c).2 hl))
              · rcases e7 a c ha hl with h | h
                · rcases List.mem_cons.1 h with h | h
                  · subst h; exact .inr at0
                  · exact .inl (by simp [h])
                · exact .inr (up _ h))
    obtain ⟨r, h1, r', rfl, h3⟩ := this
    exact ⟨r', h1, h3⟩

end Go.Proofs.YtenpdmpfepgkjaaGreatDoor
/-
  Plain laws: what is reached through live links, by rounds; cones.
-/
namespace Go.Proofs.YtenpdmpfepgkjaaGreatDoor
set_option linter.unusedVariables false
set_option linter.unusedSimpArgs false
open Go Go.Sx

def cf (l : List Bool) : Nat := l.countP (fun b => !b)
theorem cf_set : ∀ (l : List Bool) (i : Nat), l[i]? = some false → cf (l.set i true) + 1 = cf l
  | [], _, h => by simp at h
  | b :: l, 0, h => by simp at h; subst h; simp [cf]
  | b :: l, i + 1, h => by
    have := cf_set l i (by simpa using h)
    unfold cf at this ⊢
    simp only [List.set_cons_succ, List.countP_cons]
    omega

theorem bat {l : List Bool} {i : Int} {b : Bool} (h : atI l i = some b) (h0 : 0 ≤ i) : l[i.toNat]? = some b := by
  unfold atI at h
  rw [if_pos h0] at h
  exact h

theorem set_up {l : List Bool} {i : Nat} (a : Nat) (h : l[a]? = some true) : (l.set i true)[a]? = some true := by
  rw [List.getElem?_set]
  split
  · have := (List.getElem?_eq_some_iff.1 h).1
    rw [if_pos (by omega)]
  · exact h

def Closed (L : List TLink) (lv : List Bool) (k : Nat) (s : List Bool) : Prop := ∀ (j : Nat) (l : TLink), j < k → L[j]? = some l → lv[j]? = some true → s[(TLink.From l).toNat]? = some true → s[(TLink.To l).toNat]? = some true

structure Rnd (N : Nat) (L : List TLink) (lv : List Bool) (S : Int → Prop) (k : Nat) (s0 : List Bool) (ch : Bool) (s : List Bool) : Prop where
  len : s.length = N
  snd : ∀ a : Nat, s[a]? = some true → Rch L lv S (a : Int)
  up : ∀ a : Nat, s0[a]? = some true → s[a]? = some true
  still : ch = false → s = s0 ∧ Closed L lv k s0
  less : cf s + (if ch = true then 1 else 0) ≤ cf s0

theorem round_eq {N : Nat} {L : List TLink} {lv : List Bool} {S : Int → Prop} (hL : InN N L) (hLs : L.length ≤ 6000) (hlv : lv.length = L.length) {s0 : List Bool} (h0 : s0.length = N) (hs0 : ∀ a : Nat, s0[a]? = some true → Rch L lv S (a : Int)) :
    ∃ ch s, whileM (fun v => spec_l09Reach_loop0 L lv true v.1 v.2.1 v.2.2.1) (false, (0 : Int), s0, ()) = some (.inl (ch, s, ())) ∧ Rnd N L lv S L.length s0 ch s := by
  obtain ⟨r, h1, ch, s, rfl, h3⟩ := loopTot (l := L) (ρ := (Bool × List Bool × Unit) ⊕ List Bool) (step := fun v => spec_l09Reach_loop0 L lv true v.1 v.2.1 v.2.2.1) (v := (false, (0 : Int), s0, ()))
    (fun k v => v.2.1 = (k : Int) ∧ Rnd N L lv S k s0 v.1 v.2.2.1) (fun r => ∃ ch s, r = .inl (ch, s, ()) ∧ Rnd N L lv S L.length s0 ch s)
    ⟨rfl, h0, hs0, fun a h => h, fun _ => ⟨rfl, fun j l hj => by omega⟩, by simp⟩
    (by
      rintro k l ⟨ch, i, s, ⟨⟩⟩ hl hk ⟨hi, hR⟩
      simp only at hi hR
      subst hi
      have hlb := hL l (List.mem_of_getElem? hl)
      have hsl := hR.len
      have hlv1 : lv[k]? = some lv[k] := List.getElem?_eq_getElem (by omega)
      generalize lv[k] = bl at hlv1
      obtain ⟨x3, hx3, _⟩ := at_of (l := s) hlb.1.1 (by omega)
      obtain ⟨x4, hx4, _⟩ := at_of (l := s) hlb.2.1 (by omega)
      have hb3 := bat hx3 hlb.1.1
      have hb4 := bat hx4 hlb.2.1
      simp only [spec_l09Reach_loop0, show (k : Int) < (L.length : Int) from by omega, if_true, atI_nat, hl, hlv1, hx3, hx4, Option.bind_some]
      have keep : (bl = true → x3 = true → x4 = true) → Rnd N L lv S (k + 1) s0 ch s := fun hcl => ⟨hR.len, hR.snd, hR.up, fun hch => by
        obtain ⟨e1, e2⟩ := hR.still hch
        refine ⟨e1, fun j l' hj hl' hlv' hfr => ?_⟩
        by_cases hjk : j = k
        · subst hjk
          rw [hl] at hl'; injection hl' with hl'; subst hl'
          rw [hlv1] at hlv'; injection hlv' with hlv'
          subst e1
          rw [hb3] at hfr; injection hfr with hfr
          rw [hb4, hcl hlv' hfr]
        · exact e2 j l' (by omega) hl' hlv' hfr, hR.less⟩
      by_cases hbl : bl = true
      · subst hbl
        by_cases h3 : x3 = true
        · subst h3
          by_cases h4 : x4 = true
          · subst h4
            simp only [if_true]
            exact ⟨_, rfl, by simp only; rw [W_suc (by omega)], keep (fun _ _ => rfl)⟩
          · have h4f : x4 = false := by simpa using h4
            subst h4f
            simp only [if_true, Bool.false_eq_true, if_false]
            have hcf := cf_set s (TLink.To l).toNat hb4
            have hless := hR.less
            refine ⟨_, rfl, by simp only; rw [W_suc (by omega)], by simp [hsl], fun a ha => ?_, fun a ha => set_up a (hR.up a ha), fun h => (by cases h), ?_⟩
            · simp only at ha
              rw [List.getElem?_set] at ha
              split at ha
              · rename_i e
                rw [← e, show (((TLink.To l).toNat : Nat) : Int) = TLink.To l by omega]
                have hfr := hR.snd _ hb3
                rw [show (((TLink.From l).toNat : Nat) : Int) = TLink.From l by omega] at hfr
                exact .step hfr ⟨k, l, hl, hlv1, rfl, rfl⟩
              · exact hR.snd a ha
            · simp only [if_true]
              have : (if ch = true then 1 else 0) ≤ 1 := by split <;> omega
              omega
        · have h3f : x3 = false := by simpa using h3
          subst h3f
          simp only [if_true, Bool.false_eq_true, if_false]
          exact ⟨_, rfl, by simp only; rw [W_suc (by omega)], keep (fun _ h => by cases h)⟩
      · have hblf : bl = false := by simpa using hbl
        subst hblf
        simp only [if_true, Bool.false_eq_true, if_false]
        exact ⟨_, rfl, by simp only; rw [W_suc (by omega)], keep (fun h => by cases h)⟩)
    (by
      rintro ⟨ch, i, s, ⟨⟩⟩ ⟨hi, hR⟩
      simp only at hi hR
      subst hi
      simp only [spec_l09Reach_loop0, Int.lt_irrefl, if_false]
      exact ⟨_, rfl, ch, s, rfl, hR⟩)
  exact ⟨ch, s, h1, h3⟩

theorem spec_reach {N : Nat} {L : List TLink} {lv : List Bool} (hNs : N ≤ 1000) (hL : InN N L) (hLs : L.length ≤ 6000) (hlv : lv.length = L.length) {node : Int} (hn : 0 ≤ node ∧ node < (N : Int)) :
    ∃ r, spec_l09Reach (N : Int) L lv node true = some r ∧ r.length = N ∧ ∀ (a : Nat) (b : Bool), r[a]? = some b → (b = true ↔ Rch L lv (fun a => a = node) (a : Int)) := by
  unfold spec_l09Reach
  obtain ⟨x, hx, _⟩ := at_of (l := List.replicate (Int.toNat (N : Int)) false) hn.1 (by simp; exact hn.2)
  rw [guardO_pos (by omega), guardO_pos (by omega), guardO_pos (by omega), guardO_pos (by omega), hx, Option.bind_some]
  have hnn : ((node.toNat : Nat) : Int) = node := by omega
  have := whileM_inv (σ := Bool × List Bool × Unit) (ρ := List Bool) (step := fun v => spec_l09Reach_loop1 L lv true v.1 v.2.1)
    (fun v => v.2.1.length = N ∧ (∀ a : Nat, v.2.1[a]? = some true → Rch L lv (fun a => a = node) (a : Int)) ∧ v.2.1[node.toNat]? = some true ∧ (v.1 = false → Closed L lv L.length v.2.1))
    (fun v => 2 * cf v.2.1 + (if v.1 = true then 1 else 0))
    (fun r => r.length = N ∧ ∀ (a : Nat) (b : Bool), r[a]? = some b → (b = true ↔ Rch L lv (fun a => a = node) (a : Int)))
    (v := (true, List.set (List.replicate (Int.toNat (N : Int)) false) (Int.toNat node) true, ()))
    ⟨by simp, fun a ha => (by
      simp only at ha
      rw [List.getElem?_set] at ha
      split at ha
      · rename_i e; rw [← e]; exact .base hnn
      · rw [List.getElem?_replicate] at ha
        split at ha
        · cases ha
        · cases ha), (by simp only; rw [List.getElem?_set_self (by simp; omega)]), fun h => (by cases h)⟩
    (by
      rintro ⟨ch, s, ⟨⟩⟩ ⟨e1, e2, e3, e4⟩
      simp only at e1 e2 e3 e4
      simp only [spec_l09Reach_loop1]
      by_cases hc : ch = true
      · rw [if_pos hc]
        obtain ⟨ch', s', h1, hR⟩ := round_eq hL hLs hlv e1 e2
        rw [h1]
        refine .inl ⟨_, rfl, ⟨hR.len, hR.snd, hR.up _ e3, fun h => ?_⟩, ?_⟩
        · obtain ⟨e, hcl⟩ := hR.still h
          simp only
          rw [e]; exact hcl
        · have hless := hR.less
          simp only [hc, if_true]
          by_cases hc' : ch' = true
          · simp only [hc', if_true] at hless ⊢; omega
          · simp only [hc', if_false] at hless ⊢; omega
      · rw [if_neg hc]
        have hcl := e4 (by simpa using hc)
        refine .inr ⟨s, rfl, e1, fun a b hb => ?_⟩
        constructor
        · intro h; subst h; exact e2 a hb
        · intro h
          have hall : ∀ c : Int, Rch L lv (fun a => a = node) c → (0 ≤ c ∧ s[c.toNat]? = some true) := by
            intro c hc
            refine hc.sub (T := fun c => 0 ≤ c ∧ s[c.toNat]? = some true) (fun a ha => by subst ha; exact ⟨hn.1, e3⟩) (fun a c ha hl => ?_)
            obtain ⟨k, l, h1, h2, h3, h4⟩ := hl
            have hb2 := hL l (List.mem_of_getElem? h1)
            refine ⟨by omega, ?_⟩
            rw [← h4]
            exact hcl k l (List.getElem?_eq_some_iff.1 h1).1 h1 h2 (by rw [h3]; exact ha.2)
          have := (hall (a : Int) h).2
          rw [Int.toNat_natCast, hb] at this
          injection this)
  exact this

/-! ### lists of what is set -/

def listedF (k : Nat) (b : Bool) : List Int := if b = true then [(k : Int)] else []
theorem listedF_len (l : List Bool) (m : Nat) : (cat listedF m l).length ≤ l.length := by
  have := cat_len (f := listedF) (c := 1) (l := l) (m := m) (fun i x _ => by unfold listedF; split <;> simp)
  omega
theorem impl_indicesOf_eq (l : List Bool) (hl : l.length ≤ 1000) : impl_indicesOf l = some (cat listedF 0 l) := by
  unfold impl_indicesOf
  refine appendLoop (l := l) listedF [] (fun k x hx hk => ?_) ?_
  · have h1 := listedF_len (l.take k) 0
    rw [List.length_take] at h1
    simp only [List.nil_append, impl_indicesOf_loop0, show (k : Int) < (l.length : Int) from by omega, if_true, atI_nat, hx, Option.bind_some, W_suc (show k ≤ 1048576 by omega)]
    generalize cat listedF 0 (l.take k) = acc at h1
    unfold listedF
    split
    · rw [guardO_pos (by show (acc.length + 1) * 8 ≤ _; omega)]
    · rw [List.append_nil]
  · simp only [List.nil_append, impl_indicesOf_loop0, Int.lt_irrefl, if_false]
theorem spec_l09Listed_eq (l : List Bool) (hl : l.length ≤ 1000) : spec_l09Listed l = some (cat listedF 0 l) := by
  unfold spec_l09Listed
  refine appendLoop (l := l) listedF [] (fun k x hx hk => ?_) ?_
  · have h1 := listedF_len (l.take k) 0
    rw [List.length_take] at h1
    simp only [List.nil_append, spec_l09Listed_loop0, show (k : Int) < (l.length : Int) from by omega, if_true, atI_nat, hx, Option.bind_some, W_suc (show k ≤ 1048576 by omega)]
    generalize cat listedF 0 (l.take k) = acc at h1
    unfold listedF
    split
    · rw [guardO_pos (by show (acc.length + 1) * 8 ≤ _; omega)]
    · rw [List.append_nil]
  · simp only [List.nil_append, spec_l09Listed_loop0, Int.lt_irrefl, if_false]

end Go.Proofs.YtenpdmpfepgkjaaGreatDoor
/-
  Plain laws: live links, cones; FnExactConeOf.
-/
namespace Go.Proofs.YtenpdmpfepgkjaaGreatDoor
set_option linter.unusedVariables false
set_option linter.unusedSimpArgs false
open Go Go.Sx

def liveOf (n : Nat) (br : List Int) : List Bool := (List.range n).map (fun (k : Nat) => !decide ((k : Int) ∈ br))
theorem liveOf_len (n : Nat) (br : List Int) : (liveOf n br).length = n := by simp [liveOf]

theorem spec_l09Has_eq (l : List Int) (x : Int) (hl : l.length ≤ 1048576) : spec_l09Has l x = some (decide (x ∈ l)) := by
  unfold spec_l09Has
  rw [index_loop (l := l) (p := fun y => decide (y = x)) (out := fun i => decide (0 ≤ i)) (show List.length _ ≤ _ by omega) (fun k y hy => by
    have hk := (List.getElem?_eq_some_iff.1 hy).1
    simp only [spec_l09Has_loop0, show (k : Int) < (l.length : Int) from by omega, if_true, atI_nat, hy, Option.bind_some, decide_eq_true_eq]
    split
    · rw [decide_eq_true (by omega)]
    · rfl) (by simp only [spec_l09Has_loop0, Int.lt_irrefl, if_false]; rfl)]
  congr 1
  rw [decide_eq_decide, findIx_nonneg, List.any_eq_true]
  constructor
  · rintro ⟨y, hy, e⟩; simp at e; subst e; exact hy
  · intro h; exact ⟨x, h, by simp⟩

theorem spec_l09Live_eq (L : List TLink) (br : List Int) (hL : L.length ≤ 6000) (hb : br.length ≤ 1048576) : spec_l09Live L br = some (liveOf L.length br) := by
  have e : cat (fun k (_ : TLink) => [!decide ((k : Int) ∈ br)]) 0 L = liveOf L.length br := by
    apply List.ext_getElem?
    intro j
    rw [cat_one]
    unfold liveOf
    rw [List.getElem?_map, Nat.zero_add]
    by_cases h : j < L.length
    · rw [List.getElem?_eq_getElem h, List.getElem?_range h]; rfl
    · rw [List.getElem?_eq_none (by omega), List.getElem?_eq_none (by simp; omega)]; rfl
  unfold spec_l09Live
  refine appendLoop (l := L) (fun k (_ : TLink) => [!decide ((k : Int) ∈ br)]) [] (fun k x hx hk => ?_) ?_
  · have h1 : (cat (fun k (_ : TLink) => [!decide ((k : Int) ∈ br)]) 0 (L.take k)).length = (L.take k).length := cat_one_len
    rw [List.length_take] at h1
    simp only [List.nil_append, spec_l09Live_loop0, show (k : Int) < (L.length : Int) from by omega, if_true, spec_l09Has_eq br _ hb, Option.bind_some]
    rw [guardO_pos (by rw [List.length_singleton]; omega), W_suc (by omega)]
  · simp only [List.nil_append, spec_l09Live_loop0, Int.lt_irrefl, if_false, e]

theorem liveOf_set {n : Nat} {s : List Int} {x : Int} (h0 : 0 ≤ x) (h1 : x < (n : Int)) : List.set (liveOf n s) (Int.toNat x) false = liveOf n (s ++ [x]) := by
  apply List.ext_getElem?
  intro j
  rw [List.getElem?_set]
  unfold liveOf
  rw [List.getElem?_map, List.getElem?_map, List.length_map, List.length_range]
  by_cases hj : j < n
  · rw [List.getElem?_range hj]
    by_cases e : x.toNat = j
    · rw [if_pos e, if_pos (by omega)]
      have : (j : Int) = x := by omega
      simp [this]
    · rw [if_neg e]
      have : ¬ (j : Int) = x := by omega
      simp [this]
  · rw [List.getElem?_eq_none (l := List.range n) (by simp; omega)]
    split
    · rw [if_neg (by omega)]; rfl
    · rfl

theorem graphOf_eq (v : Tview) (br : List Int) (hL : (Tview.links v).length ≤ 6000) (hb : AllIn br 0 (((Tview.links v).length : Int) - 1)) (hbl : br.length ≤ 1048576) : impl_view_graphOf v br = some (v, liveOf (Tview.links v).length br, ()) := by
  unfold impl_view_graphOf
  rw [guardO_pos (by omega), guardO_pos (by omega), guardO_pos (by omega), guardO_pos (by omega)]
  generalize hn : (Tview.links v).length = n at *
  have hlen : List.length (List.replicate (Int.toNat (n : Int)) false) = n := by simp
  have hrest : whileM (fun w => impl_view_graphOf_loop0 v br w.1 w.2.1) ((0 : Int), List.replicate n true, ()) = some (.inr (v, liveOf n br, ())) := by
    have := loopThrough (l := br) (ρ := (Int × List Bool × Unit) ⊕ Tgraph) (fun k => ((k : Int), liveOf n (br.take k), ())) (step := fun w => impl_view_graphOf_loop0 v br w.1 w.2.1) (good := .inr (v, liveOf n br, ()))
      (fun k x hx hk => by
        have hxb := hb x (List.mem_of_getElem? hx)
        obtain ⟨y, hy, _⟩ := at_of (l := liveOf n (br.take k)) hxb.1 (by rw [liveOf_len]; omega)
        simp only [impl_view_graphOf_loop0, show (k : Int) < (br.length : Int) from by omega, if_true, atI_nat, hx, hy, Option.bind_some]
        rw [liveOf_set hxb.1 (by omega), take_snoc hx, W_suc (by omega)])
      (by simp only [impl_view_graphOf_loop0, Int.lt_irrefl, if_false, List.take_length])
    have e0 : liveOf n (br.take 0) = List.replicate n true := by
      apply List.ext_getElem?
      intro j
      simp only [liveOf, List.take_zero, List.not_mem_nil, decide_false, Bool.not_false, List.getElem?_map, List.getElem?_replicate]
      by_cases h : j < n
      · simp [h]
      · simp [h]
    rw [← e0]
    exact this
  refine whileM_rangeE n (fun k w => w.1 = (k : Int) ∧ w.2.1.length = n ∧ ∀ j, j < k → w.2.1[j]? = some true) _ ⟨rfl, by simp, fun j hj => by omega⟩ ?_ ?_
  · rintro k ⟨i, l, ⟨⟩⟩ hk ⟨hi, hl, hS⟩
    simp only at hi hl hS
    subst hi
    have hx : l[k]? = some l[k] := List.getElem?_eq_getElem (by omega)
    left
    simp only [impl_view_graphOf_loop1, hn, hlen, show (k : Int) < (n : Int) from by omega, if_true, atI_nat, hx, Option.bind_some]
    refine ⟨_, rfl, by simp only; rw [W_suc (by omega)], by simp [hl], fun j hj => ?_⟩
    simp only [Int.toNat_natCast]
    rw [List.getElem?_set]
    split
    · rw [if_pos (by omega)]
    · exact hS j (by omega)
  · rintro ⟨i, l, ⟨⟩⟩ ⟨hi, hl, hS⟩
    simp only at hi hl hS
    subst hi
    have e : l = List.replicate n true := by
      apply List.ext_getElem?
      intro j
      rw [List.getElem?_replicate]
      by_cases h : j < n
      · rw [hS j h, if_pos h]
      · rw [List.getElem?_eq_none (by omega), if_neg h]
    simp only [impl_view_graphOf_loop1, hn, hlen, Int.lt_irrefl, if_false]
    rw [e]
    exact hrest

/-! ### lists that rise -/

def RisOk (n : Int) (l : List Int) : Prop := AllIn l 0 (n - 1) ∧ Inc l

theorem inc_at' {l : List Int} : Inc l ↔ AllE l (fun k x => ∀ y, 0 < k → l[k - 1]? = some y → y < x) := by
  constructor
  · intro h k x hx y hk hy
    exact h (k - 1) y x hy (by rw [show k - 1 + 1 = k by omega]; exact hx)
  · intro h k x y hx hy
    exact h (k + 1) y hy x (by omega) hx

theorem spec_l09Rising_eq (l : List Int) (n : Int) (hl : l.length ≤ 1048576) (hn : 0 ≤ n ∧ n ≤ 1048576) : spec_l09Rising l n = some (tr (RisOk n l)) := by
  have e1 : IntKind.i64.wrap (n - 1) = n - 1 := W_in (by omega) (by omega)
  unfold spec_l09Rising
  rw [loopAll (l := l) (show List.length _ ≤ _ by omega) (fun k x => (0 ≤ x ∧ x ≤ n - 1) ∧ ∀ y, 0 < k → l[k - 1]? = some y → y < x) (bad := false) (good := true)
    (fun k x hx hk _ => by
      simp only [spec_l09Rising_loop0, show (k : Int) < (l.length : Int) from by omega, if_true, atI_nat, hx, Option.bind_some, l01In_tr, e1]
      by_cases hb : 0 ≤ x ∧ x ≤ n - 1
      · rw [if_pos (tr_pos hb)]
        by_cases h0 : (0 : Int) < (k : Int)
        · obtain ⟨y, hy⟩ : ∃ y, l[k - 1]? = some y := ⟨_, List.getElem?_eq_getElem (by omega)⟩
          rw [if_pos h0, W_pred (by omega) (by omega), atI_nat, hy, Option.bind_some]
          constructor
          · intro hh
            rw [if_neg]
            have := hh.2 y (by omega) rfl
            omega
          · intro hh
            rw [if_pos]
            apply Classical.byContradiction
            intro hlt
            refine hh ⟨hb, fun y' _ hy' => ?_⟩
            injection hy' with hy'
            have : ¬ x ≤ y := hlt
            omega
        · rw [if_neg h0]
          exact ⟨fun _ => rfl, fun hh => absurd ⟨hb, fun y hk0 => by omega⟩ hh⟩
      · rw [if_neg (fun q => hb ((tr_iff _).1 q))]
        exact ⟨fun hh => absurd hh.1 hb, fun _ => rfl⟩)
    (fun _ => by simp only [spec_l09Rising_loop0, Int.lt_irrefl, if_false]), sel_tr]
  congr 1
  refine tr_congr ?_
  unfold RisOk
  rw [inc_at']
  constructor
  · intro q
    exact ⟨AllE_mem.1 (fun k x hx => (q k x hx).1), fun k x hx => (q k x hx).2⟩
  · rintro ⟨q1, q2⟩ k x hx
    exact ⟨q1 x (List.mem_of_getElem? hx), q2 k x hx⟩

theorem impl_rising (l : List Int) (n : Int) (hl : l.length ≤ 1048576) : ((impl_areWithin l 0 n).bind fun b => if b = true then (impl_isIncreasing l).bind fun c => some c else some false) = some (tr (AllIn l 0 n ∧ Inc l)) :=
  bind_if (areWithin_tr _ _ _ hl) (fun _ => bind_tr (impl_isIncreasing_eq _ (show List.length _ ≤ _ by omega)))

/-! ### cones -/

theorem cat_mem_links {b : TBlock} (h : BlkSm b) {l : TLink} (hl : l ∈ linksOf b) : (0 ≤ TLink.From l ∧ TLink.From l < 2 * ((places (TBlock.Design b)).length : Int)) ∧ (0 ≤ TLink.To l ∧ TLink.To l < 2 * ((places (TBlock.Design b)).length : Int)) := by
  have hf := h.ok.1.few
  unfold linksOf at hl
  rcases List.mem_append.1 hl with hl | hl
  · obtain ⟨i, x, hi, hx⟩ := mem_cat.1 hl
    rw [Nat.zero_add] at hx
    obtain ⟨hc, ⟨c, hc1, hc2⟩, _⟩ := h.ok.1.2.2.1 x (List.mem_of_getElem? hi)
    have hC := h.ok.1.1.2.1 c (List.mem_of_getElem? hc1)
    unfold instL at hx
    rw [hc1] at hx
    obtain ⟨k, a, ha, hla⟩ := mem_cat.1 hx
    have hao := (hC.2.2.1.2 k a ha).1
    have h1 := hao.1
    have h2 := hao.2.1
    obtain ⟨B, hB⟩ := places_split hi
    have hlen : fst (TBlock.Design b) i + (TInstance.Nets x).length ≤ (places (TBlock.Design b)).length := by
      rw [hB, List.length_append, List.length_append, instPl_len_eq]; unfold fst; omega
    unfold arcL at hla
    obtain ⟨p, hp, rfl⟩ := List.mem_map.1 hla
    have htr : (0 ≤ p.1 ∧ p.1 ≤ 1) ∧ (0 ≤ p.2.1 ∧ p.2.1 ≤ 1) := by
      unfold trs at hp
      repeat' split at hp
      all_goals (simp only [List.mem_cons, List.not_mem_nil, or_false] at hp)
      all_goals first | (rcases hp with rfl | rfl | rfl | rfl <;> simp) | (rcases hp with rfl | rfl <;> simp) | exact hp.elim
    simp only [mkLink, TLink.From, TLink.To]
    omega
  · obtain ⟨v, w, hw, hx⟩ := mem_cat.1 hl
    rw [Nat.zero_add] at hx
    have hv : v < (TDesign.Nets (TBlock.Design b)).length := by
      have := (List.getElem?_eq_some_iff.1 hw).1
      have := h.ok.2.1
      omega
    have hd := drvOf_bd h hv
    obtain ⟨j, s, hs, hls⟩ := mem_cat.1 hx
    have hsb := mem_sinks (List.mem_of_getElem? hs)
    simp only [List.mem_cons, List.not_mem_nil, or_false] at hls
    rcases hls with rfl | rfl
    · simp only [mkLink, TLink.From, TLink.To]; omega
    · simp only [mkLink, TLink.From, TLink.To]; omega

theorem linksOf_len {b : TBlock} (h : BlkSm b) : (linksOf b).length ≤ 6000 := by
  have h1 := instLinks_len h
  have h2 := cat_net_len h (TBlock.Wires b)
  have h3 := h.ok.2.1
  have h4 := h.ok.1.2.1.2.1
  unfold linksOf netLinks
  rw [List.length_append]
  omega

/-- the same truths at the same places -/
theorem bools_eq {P : Nat → Prop} {r s : List Bool} (hl : r.length = s.length) (hr : ∀ (a : Nat) (b : Bool), r[a]? = some b → (b = true ↔ P a)) (hs : ∀ (a : Nat) (b : Bool), s[a]? = some b → (b = true ↔ P a)) : r = s := by
  apply List.ext_getElem?
  intro j
  by_cases h : j < r.length
  · have h1 : r[j]? = some r[j] := List.getElem?_eq_getElem h
    have h2 : s[j]? = some s[j] := List.getElem?_eq_getElem (by omega)
    rw [h1, h2]
    congr 1
    exact Bool.eq_iff_iff.2 ((hr j _ h1).trans (hs j _ h2).symm)
  · rw [List.getElem?_eq_none (by omega), List.getElem?_eq_none (by omega)]

theorem cone_loop {N : Nat} {L : List TLink} {lv : List Bool} (hNs : N ≤ 1000) (hL : InN N L) (hLs : L.length ≤ 6000) (hlv : lv.length = L.length) {nodes : List Int} (hn : ∀ a ∈ nodes, 0 ≤ a ∧ a < (N : Int)) (hnl : nodes.length ≤ 1048576) :
    ∃ r, whileM (fun v => spec_ConeOf_loop1 nodes L lv (N : Int) v.1 v.2.1) ((0 : Int), List.replicate (Int.toNat (N : Int)) false, ()) = some (cat listedF 0 r, 0) ∧ r.length = N ∧ ∀ (a : Nat) (b : Bool), r[a]? = some b → (b = true ↔ Rch L lv (fun a => a ∈ nodes) (a : Int)) := by
  obtain ⟨r, h1, s, rfl, h3⟩ := loopTot (l := nodes) (ρ := List Int × Int) (step := fun v => spec_ConeOf_loop1 nodes L lv (N : Int) v.1 v.2.1) (v := ((0 : Int), List.replicate (Int.toNat (N : Int)) false, ()))
    (fun k v => v.1 = (k : Int) ∧ v.2.1.length = N ∧ ∀ (a : Nat) (b : Bool), v.2.1[a]? = some b → (b = true ↔ Rch L lv (fun a => a ∈ nodes.take k) (a : Int)))
    (fun r => ∃ s, r = (cat listedF 0 s, 0) ∧ s.length = N ∧ ∀ (a : Nat) (b : Bool), s[a]? = some b → (b = true ↔ Rch L lv (fun a => a ∈ nodes) (a : Int)))
    ⟨rfl, by simp, fun a b hb => by
      simp only at hb
      rw [List.getElem?_replicate] at hb
      split at hb
      · injection hb with hb
        subst hb
        constructor
        · intro h; cases h
        · intro h
          exact (h.sub (T := fun _ => False) (fun a ha => by simp at ha) (fun _ _ h _ => h)).elim
      · cases hb⟩
    (by
      rintro k x ⟨i, s, ⟨⟩⟩ hx hk ⟨hi, hl, hS⟩
      simp only at hi hl hS
      subst hi
      obtain ⟨rr, hr1, hr2, hr3⟩ := spec_reach hNs hL hLs hlv (hn x (List.mem_of_getElem? hx))
      simp only [spec_ConeOf_loop1, show (k : Int) < (nodes.length : Int) from by omega, if_true, atI_nat, hx, Option.bind_some, hr1]
      obtain ⟨r, h1, t, rfl, h2, h3⟩ := loopTot (l := rr) (ρ := (Int × List Bool × Unit) ⊕ (List Int × Int)) (step := fun v => spec_ConeOf_loop0 (k : Int) rr v.1 v.2.1) (v := ((0 : Int), s, ()))
        (fun m v => v.1 = (m : Int) ∧ v.2.1.length = N ∧ ∀ (a : Nat) (p q : Bool), s[a]? = some p → rr[a]? = some q → v.2.1[a]? = some (if a < m then p || q else p))
        (fun r => ∃ t, r = .inl (((k + 1 : Nat) : Int), t, ()) ∧ t.length = N ∧ ∀ (a : Nat) (p q : Bool), s[a]? = some p → rr[a]? = some q → t[a]? = some (p || q))
        ⟨rfl, hl, fun a p q hp _ => by simp only [Nat.not_lt_zero, if_false]; exact hp⟩
        (by
          rintro m y ⟨i, t, ⟨⟩⟩ hy hm ⟨hi, ht, hT⟩
          simp only at hi ht hT
          subst hi
          have hsp : s[m]? = some s[m] := List.getElem?_eq_getElem (by omega)
          generalize s[m] = p at hsp
          have htm := hT m p y hsp hy
          rw [if_neg (by omega)] at htm
          have goal : ∀ z : Bool, z = (p || y) → ∀ (a : Nat) (p' q' : Bool), s[a]? = some p' → rr[a]? = some q' → (t.set m z)[a]? = some (if a < m + 1 then p' || q' else p') := by
            intro z hz a p' q' hp' hq'
            rw [List.getElem?_set]
            split
            · rename_i e
              subst e
              rw [hsp] at hp'; injection hp' with hp'; subst hp'
              rw [hy] at hq'; injection hq' with hq'; subst hq'
              rw [if_pos (by omega), if_pos (by omega), hz]
            · rw [hT a p' q' hp' hq']
              by_cases ham : a < m
              · rw [if_pos ham, if_pos (by omega)]
              · rw [if_neg ham, if_neg (by omega)]
          simp only [spec_ConeOf_loop0, show (m : Int) < (t.length : Int) from by omega, if_true, atI_nat, htm, Option.bind_some, Int.toNat_natCast, hy]
          by_cases hpt : p = true
          · rw [if_pos hpt, W_suc (by omega)]
            exact ⟨_, rfl, rfl, by simp [ht], goal true (by rw [hpt]; rfl)⟩
          · rw [if_neg hpt, W_suc (by omega)]
            exact ⟨_, rfl, rfl, by simp [ht], goal y (by simp at hpt; rw [hpt]; rfl)⟩)
        (by
          rintro ⟨i, t, ⟨⟩⟩ ⟨hi, ht, hT⟩
          simp only at hi ht hT
          subst hi
          simp only [spec_ConeOf_loop0]
          rw [if_neg (by omega), W_suc (by omega)]
          refine ⟨_, rfl, t, rfl, ht, fun a p q hp hq => ?_⟩
          have := hT a p q hp hq
          rw [if_pos (List.getElem?_eq_some_iff.1 hq).1] at this
          exact this)
      refine ⟨_, h1, rfl, h2, fun a b hb => ?_⟩
      simp only at hb
      have ha : a < N := by have := (List.getElem?_eq_some_iff.1 hb).1; omega
      have hsp : s[a]? = some s[a] := List.getElem?_eq_getElem (by omega)
      have hrp : rr[a]? = some rr[a] := List.getElem?_eq_getElem (by omega)
      have e := h3 a _ _ hsp hrp
      rw [hb] at e
      injection e with e
      rw [e, Bool.or_eq_true, hS a _ hsp, hr3 a _ hrp, take_snoc hx]
      constructor
      · rintro (h | h)
        · exact h.mono (fun c hc => by simp [hc])
        · exact h.mono (fun c hc => by simp [hc])
      · intro h
        refine h.sub (T := fun c => Rch L lv (fun a => a ∈ nodes.take k) c ∨ Rch L lv (fun a => a = x) c) (fun c hc => ?_) (fun c c' hc hl => ?_)
        · simp only [List.mem_append, List.mem_singleton] at hc
          rcases hc with hc | hc
          · exact .inl (.base hc)
          · exact .inr (.base hc)
        · rcases hc with hc | hc
          · exact .inl (.step hc hl)
          · exact .inr (.step hc hl))
    (by
      rintro ⟨i, s, ⟨⟩⟩ ⟨hi, hl, hS⟩
      simp only at hi hl hS
      subst hi
      rw [List.take_length] at hS
      simp only [spec_ConeOf_loop1, Int.lt_irrefl, if_false, spec_l09Listed_eq s (by omega), Option.bind_some]
      exact ⟨_, rfl, s, rfl, hl, hS⟩)
  exact ⟨s, h1, h3⟩

theorem cone_eq (b : TBlock) (br nd : List Int) (hb : sm tBlock b) (hbr : br.length ≤ 1048576) (hnd : nd.length ≤ 1048576) : ∃ r, spec_ConeOf b br nd = some r ∧ impl_ConeOf b br nd = some r ∧ r.1.length ≤ 1048576 := by
  unfold spec_ConeOf impl_ConeOf spec_l09Code impl_newGraph
  rw [spec_IsBlock_eq b hb, impl_IsBlock_eq b hb]
  simp only [Option.bind_some]
  by_cases hB : BlockOk b
  · have h : BlkSm b := ⟨hB, hb⟩
    have hf := hB.1.few
    have hpl := places_len hf
    have hLs := linksOf_len h
    obtain ⟨v, hv1, hv2, _, hv4⟩ := newView_eq h
    have hbrk : impl_view_isBroken v br = some (tr (RisOk ((linksOf b).length : Int) br)) := by
      unfold impl_view_isBroken
      rw [show impl_length_impl_Link (Tview.links v) = some ((Tview.links v).length : Int) from rfl, Option.bind_some, hv4, W_in (by omega) (by omega)]
      exact impl_rising br _ hbr
    rw [if_pos (tr_pos hB), if_pos (tr_pos hB), spec_l09Links_eq h, hv1]
    simp only [Option.bind_some, hbrk, spec_l09Rising_eq br _ hbr (show (0 : Int) ≤ ((linksOf b).length : Int) ∧ ((linksOf b).length : Int) ≤ 1048576 by omega)]
    by_cases hR : RisOk ((linksOf b).length : Int) br
    · rw [if_pos (tr_pos hR), if_pos (tr_pos hR)]
      have hg := graphOf_eq v br (by rw [hv4]; exact hLs) (by rw [hv4]; exact hR.1) hbr
      rw [hv4] at hg
      simp only [Option.bind_some, if_true, hg]
      have hcnt : spec_l09Count b = some (((2 * (places (TBlock.Design b)).length : Nat) : Int)) := by
        unfold spec_l09Count
        rw [spec_l05Places_eq _ hf, Option.bind_some, W_in (by omega) (by omega)]
        congr 1
      have hnodes : impl_view_areNodes v nd = some (tr (RisOk ((2 * (places (TBlock.Design b)).length : Nat) : Int) nd)) := by
        unfold impl_view_areNodes impl_view_nodes
        rw [show impl_length_impl_place (Tview.places v) = some ((Tview.places v).length : Int) from rfl, Option.bind_some, Option.bind_some, hv2, W_in (n := 2 * ((places (TBlock.Design b)).length : Int)) (by omega) (by omega), W_in (by omega) (by omega), show 2 * ((places (TBlock.Design b)).length : Int) - 1 = ((2 * (places (TBlock.Design b)).length : Nat) : Int) - 1 by omega]
        exact impl_rising nd _ hnd
      have hsn : spec_l32Nodes b nd = some (tr (RisOk ((2 * (places (TBlock.Design b)).length : Nat) : Int) nd)) := by
        unfold spec_l32Nodes
        rw [hcnt, Option.bind_some, spec_l09Rising_eq nd _ hnd (by omega)]
        rfl
      rw [hsn, show impl_view_areNodes (Tgraph.view (v, liveOf (linksOf b).length br, ())) nd = _ from hnodes]
      simp only [Option.bind_some]
      by_cases hN : RisOk ((2 * (places (TBlock.Design b)).length : Nat) : Int) nd
      · rw [if_pos (tr_pos hN), if_pos (tr_pos hN), spec_l09Live_eq _ _ hLs hbr, hcnt]
        simp only [Option.bind_some]
        have hInN : InN (2 * (places (TBlock.Design b)).length) (linksOf b) := fun l hl => by
          have := cat_mem_links h hl
          omega
        have hnd2 : ∀ a ∈ nd, 0 ≤ a ∧ a < ((2 * (places (TBlock.Design b)).length : Nat) : Int) := fun a ha => by
          have := hN.1 a ha
          omega
        obtain ⟨r, hr1, hr2, hr3⟩ := cone_loop (N := 2 * (places (TBlock.Design b)).length) (by omega) hInN hLs (liveOf_len _ br) hnd2 hnd
        obtain ⟨s, hs1, hs2, hs3⟩ := reach_impl (g := (v, liveOf (linksOf b).length br, ())) (nodes := nd) (N := 2 * (places (TBlock.Design b)).length) (by show _ = 2 * ((Tview.places v).length : Int); rw [hv2]; omega) (by omega) (by show InN _ (Tview.links v); rw [hv4]; exact hInN) (by show (Tview.links v).length ≤ 6000; rw [hv4]; exact hLs) (by show (liveOf (linksOf b).length br).length = (Tview.links v).length; rw [hv4, liveOf_len]) hnd2 hnd
        have hs3' : ∀ (a : Nat) (c : Bool), s[a]? = some c → (c = true ↔ Rch (linksOf b) (liveOf (linksOf b).length br) (fun a => a ∈ nd) (a : Int)) := by
          intro a c hc
          have := hs3 a c hc
          rw [show Tview.links (Tgraph.view (v, liveOf (linksOf b).length br, ())) = linksOf b from hv4] at this
          exact this
        have hrs : s = r := bools_eq (by omega) hs3' hr3
        subst hrs
        have hll := listedF_len s 0
        rw [guardO_pos (by omega), guardO_pos (by omega), guardO_pos (by omega), guardO_pos (by omega), hr1, hs1, Option.bind_some, impl_indicesOf_eq s (by omega)]
        exact ⟨_, rfl, rfl, by simp only; omega⟩
      · rw [if_neg (fun q => hN ((tr_iff _).1 q)), if_neg (fun q => hN ((tr_iff _).1 q))]
        exact ⟨_, rfl, rfl, by simp⟩
    · rw [if_neg (fun q => hR ((tr_iff _).1 q)), if_neg (fun q => hR ((tr_iff _).1 q))]
      simp only [Option.bind_some]
      rw [if_neg (by decide), if_neg (by decide)]
      exact ⟨_, rfl, rfl, by simp⟩
  · rw [if_neg (fun q => hB ((tr_iff _).1 q)), if_neg (fun q => hB ((tr_iff _).1 q))]
    simp only [Option.bind_some]
    rw [if_neg (by decide), if_neg (by decide)]
    exact ⟨_, rfl, rfl, by simp⟩

/-! ### marks are held -/

theorem held_int (l : List Int) (hl : l.length ≤ 1048576) : ∃ l', laws_markInt64S l 1 = some (1 + (l.length : Int), l') ∧ laws_heldInt64S l' 1 = some (1 + (l.length : Int)) := by
  obtain ⟨r, h1, h2, h3, h4⟩ : ∃ r, laws_markInt64S l 1 = some r ∧ r.1 = 1 + (l.length : Int) ∧ r.2.length = l.length ∧ ∀ j, j < l.length → r.2[j]? = some (1 + (j : Int)) := by
    unfold laws_markInt64S
    refine whileM_range l.length (fun k v => v.1 = 1 + (k : Int) ∧ v.2.1 = (k : Int) ∧ v.2.2.1.length = l.length ∧ ∀ j, j < k → v.2.2.1[j]? = some (1 + (j : Int))) _ ⟨rfl, rfl, rfl, fun j hj => by omega⟩ ?_ ?_
    · rintro k ⟨m, i, L, ⟨⟩⟩ hk ⟨hm, hi, hL, hS⟩
      simp only at hm hi hL hS
      subst hm
      subst hi
      have hx : L[k]? = some L[k] := List.getElem?_eq_getElem (by omega)
      left
      simp only [laws_markInt64S_loop0, show (k : Int) < (L.length : Int) from by omega, if_true, atI_nat, hx, Option.bind_some]
      refine ⟨_, rfl, by simp only; rw [W_in (by omega) (by omega)]; omega, by simp only; rw [W_suc (by omega)], by simp [hL], fun j hj => ?_⟩
      simp only [Int.toNat_natCast]
      rw [List.getElem?_set]
      split
      · rename_i e; rw [if_pos (by omega), e]
      · exact hS j (by omega)
    · rintro ⟨m, i, L, ⟨⟩⟩ ⟨hm, hi, hL, hS⟩
      simp only at hm hi hL hS
      subst hm
      subst hi
      simp only [laws_markInt64S_loop0, hL, Int.lt_irrefl, if_false]
      exact ⟨_, rfl, rfl, hL, hS⟩
  refine ⟨r.2, by rw [h1, ← h2], ?_⟩
  unfold laws_heldInt64S
  refine whileM_rangeE l.length (fun k v => v.1 = 1 + (k : Int) ∧ v.2.1 = (k : Int)) _ ⟨rfl, rfl⟩ ?_ ?_
  · rintro k ⟨m, i, ⟨⟩⟩ hk ⟨hm, hi⟩
    simp only at hm hi
    subst hm
    subst hi
    left
    simp only [laws_heldInt64S_loop0, show (k : Int) < (r.2.length : Int) from by omega, if_true, atI_nat, h4 k hk, Option.bind_some]
    exact ⟨_, rfl, by simp only; rw [W_in (by omega) (by omega)]; omega, by simp only; rw [W_suc (by omega)]⟩
  · rintro ⟨m, i, ⟨⟩⟩ ⟨hm, hi⟩
    simp only at hm hi
    subst hm
    subst hi
    simp only [laws_heldInt64S_loop0, h3, Int.lt_irrefl, if_false]

theorem smInts (l : List Int) (hl : (l.length : Int) ≤ 1048576) : sm (.sl (.int .i64)) l := ⟨hl, fun x _ => trivial⟩
theorem cnt_ints (l : List Int) : cnt (.sl (.int .i64)) l = l.length := by
  show (l.map (cnt (.int .i64))).sum = _
  induction l with
  | nil => rfl
  | cons x r ih => simp only [List.map_cons, List.sum_cons, ih, List.length_cons, cnt_int]; omega

theorem laws_FnExactConeOf_ok (a0 : TBlock) (a1 a2 : List Int) (b0 : bnd tBlock a0) (b1 : bnd (.sl (.int .i64)) a1) (b2 : bnd (.sl (.int .i64)) a2) : laws_FnExactConeOf a0 a1 a2 = some true := by
  unfold laws_FnExactConeOf
  by_cases h1 : (1048576 : Int) < (a1.length : Int)
  · rw [if_pos h1]
  by_cases h2 : (1048576 : Int) < (a2.length : Int)
  · rw [if_neg h1, if_pos h2]
  rw [if_neg h1, if_neg h2]
  obtain ⟨n, e, hle, hP⟩ := laws_szBlock_ok a0 1048576 (by omega) (by omega) b0
  rw [e, Option.bind_some]
  by_cases hn : n < 0
  · rw [if_pos hn]
  rw [if_neg hn]
  have hs := hP (by omega)
  have ht := laws_szBlock_tot a0 1048576 (by omega) (by omega) b0 n e (by omega)
  have hs1 := smInts a1 (by omega)
  have hs2 := smInts a2 (by omega)
  have hc := cnt_le tBlock a0
  have hw : wid tBlock + widest tBlock * tot tBlock a0 ≤ 100 + 20 * tot tBlock a0 := by
    have h1 : wid tBlock ≤ 100 := by decide
    have h2 : widest tBlock ≤ 20 := by decide
    have := Nat.mul_le_mul_right (tot tBlock a0) h2
    omega
  have hcb : cnt tBlock a0 ≤ 100 + 20 * 1048576 := by omega
  obtain ⟨r, c1, c2, c3⟩ := cone_eq a0 a1 a2 hs (by omega) (by omega)
  obtain ⟨m0, hm0⟩ := laws_markBlock_mk a0 1 hs (by omega) (by omega)
  have k1 := cnt_ints a1
  have k2 := cnt_ints a2
  obtain ⟨m1, hm1⟩ := laws_markInt64S_mk a1 (1 + ((cnt tBlock a0 : Nat) : Int)) hs1 (by omega) (by omega)
  obtain ⟨m2, hm2⟩ := laws_markInt64S_mk a2 (1 + ((cnt tBlock a0 : Nat) : Int) + ((cnt (.sl (.int .i64)) a1 : Nat) : Int)) hs2 (by omega) (by omega)
  obtain ⟨m3, hm3, hm4⟩ := held_int r.1 c3
  have hr := smInts r.1 (by omega)
  have hneg : ¬ (1 + ((cnt tBlock a0 : Nat) : Int) + ((cnt (.sl (.int .i64)) a1 : Nat) : Int) + ((cnt (.sl (.int .i64)) a2 : Nat) : Int)) < 0 := by omega
  have hneg2 : ¬ (1 + (r.1.length : Int)) < 0 := by omega
  simp only [laws_toBlock_ok _ hs, laws_toInt64S_ok _ hs1, laws_toInt64S_ok _ hs2, Option.bind_some, c1, c2, laws_eqInt64S_ok _ hr, laws_eqInt64S_ok _ hs1, laws_eqInt64S_ok _ hs2, laws_eqBlock_ok _ hs, if_true, hm0, hm1, hm2, hm3, hm4, hneg, hneg2, if_false]

end Go.Proofs.YtenpdmpfepgkjaaGreatDoor
