/-
  Plain laws: what a list's numbers are, sorted and each once.
-/
import Derived.Test.YtjfbeebdhmebpaaGreatDoorSxSort
import Derived.Test.YtjfbeebdhmebpaaGreatDoorLA
import Derived.Test.YtjfbeebdhmebpaaGreatDoorLC
namespace Go.Proofs.YtjfbeebdhmebpaaGreatDoor
set_option linter.unusedVariables false
set_option linter.unusedSimpArgs false
open Go Go.Sx
theorem ZqR {l : List Int} {x : Int} : x ∈ srt l ↔ x ∈ l := List.mem_mergeSort
theorem Zq0 (l : List Int) : (srt l).length = l.length := List.length_mergeSort _
theorem ZoO {l : List Int} {x : Int} : x ∈ Zfn l ↔ x ∈ l := by
  unfold Zfn Lib.compactUpTo
  rw [List.mem_map]
  constructor
  · rintro ⟨j, hj, rfl⟩
    have hj := List.mem_range.1 (List.mem_filter.1 hj).1
    rw [getElem!_pos _ j hj]
    exact List.getElem_mem (by simpa using hj)
  · intro h
    obtain ⟨j, hj, e⟩ := List.getElem_of_mem h
    have key : ∀ (n j : Nat), j ≤ n → (hj : j < l.length) → l[j] = x → ∃ a, a ∈ (List.range l.toArray.size).filter (Lib.keeps l.toArray) ∧ l.toArray[a]! = x := by
      intro n
      induction n with
      | zero =>
        intro j hn hj e
        have : j = 0 := by omega
        subst this
        refine ⟨0, List.mem_filter.2 ⟨List.mem_range.2 (by simpa using hj), by unfold Lib.keeps; simp⟩, ?_⟩
        rw [getElem!_pos _ 0 (by simpa using hj)]
        exact e
      | succ n ih =>
        intro j hn hj e
        have e2 : l.toArray[j]! = x := by rw [getElem!_pos _ j (by simpa using hj)]; exact e
        by_cases hk : Lib.keeps l.toArray j = true
        · exact ⟨j, List.mem_filter.2 ⟨List.mem_range.2 (by simpa using hj), hk⟩, e2⟩
        · unfold Lib.keeps at hk
          have hk2 : ¬ (j = 0 ∨ l.toArray[j]! ≠ l.toArray[j - 1]!) := fun q => hk (decide_eq_true q)
          have hj0 : j ≠ 0 := fun q => hk2 (.inl q)
          have he : l.toArray[j]! = l.toArray[j - 1]! := Decidable.byContradiction fun q => hk2 (.inr q)
          refine ih (j - 1) (by omega) (by omega) ?_
          rw [e2, getElem!_pos _ (j - 1) (by simp only [List.size_toArray]; omega)] at he
          exact he.symm
    exact key j j (Nat.le_refl _) hj e
/-
  Plain ground: gates in order (no program in sight).
-/
def Rkd (n : Nat) (ins : Nat → Option (List Nat)) (r : Nat → Nat) : Prop := ∀ v l u, v < n → ins v = some l → u ∈ l → r u < r v
def Logical (n : Nat) (ins : Nat → Option (List Nat)) : Prop := ∃ r, Rkd n ins r
def InB (n : Nat) (ins : Nat → Option (List Nat)) : Prop := ∀ v l u, v < n → ins v = some l → u ∈ l → u < n
def isK (kn : List Bool) (u : Nat) : Bool := kn[u]? == some true
def rdy (ins : Nat → Option (List Nat)) (kn : List Bool) (v : Nat) : Bool := match ins v with
  | none => true
  | some l => l.all (isK kn)
def stp (ins : Nat → Option (List Nat)) (s : List Bool × List Int) (v : Nat) : List Bool × List Int :=
  if isK s.1 v = false ∧ rdy ins s.1 v = true then (s.1.set v true, s.2 ++ [(v : Int)]) else s
def VE (ins : Nat → Option (List Nat)) (s : List Bool × List Int) (k : Nat) : List Bool × List Int := (List.range k).foldl (stp ins) s
theorem ZiH (ins : Nat → Option (List Nat)) (s : List Bool × List Int) : VE ins s 0 = s := rfl
theorem Zat (ins : Nat → Option (List Nat)) (s : List Bool × List Int) (k : Nat) : VE ins s (k + 1) = stp ins (VE ins s k) k := by
  unfold VE
  rw [List.range_succ, List.foldl_append]
  rfl
structure Ord (n : Nat) (ins : Nat → Option (List Nat)) (s : List Bool × List Int) : Prop where
  len : s.1.length = n
  few : s.2.length ≤ n
  cnt : s.2.length = s.1.countP (fun b => b)
  mem : ∀ v : Nat, isK s.1 v = true ↔ (v : Int) ∈ s.2
  bel : ∀ (i : Nat) (x : Int), s.2[i]? = some x → ∃ v : Nat, x = (v : Int) ∧ v < n ∧ (v : Int) ∉ s.2.take i ∧ ∀ l, ins v = some l → ∀ u ∈ l, (u : Int) ∈ s.2.take i
theorem Zds {kn : List Bool} {v : Nat} (hv : v < kn.length) (u : Nat) : isK (kn.set v true) u = true ↔ u = v ∨ isK kn u = true := by
  unfold isK
  rw [List.getElem?_set]
  by_cases h : v = u
  · subst h; simp [hv]
  · rw [if_neg h]
    constructor
    · exact .inr
    · rintro (rfl | h2)
      · exact absurd rfl h
      · exact h2
theorem countP_set {kn : List Bool} : ∀ {v : Nat}, v < kn.length → isK kn v = false → (kn.set v true).countP (fun b => b) = kn.countP (fun b => b) + 1 := by
  induction kn with
  | nil => intro v hv; simp at hv
  | cons b r ih =>
    intro v hv hk
    cases v with
    | zero =>
      cases b
      · simp
      · simp [isK] at hk
    | succ v =>
      have hv' : v < r.length := by simpa using hv
      have hk' : isK r v = false := by simpa [isK] using hk
      rw [List.set_cons_succ, List.countP_cons, List.countP_cons, ih hv' hk']
      omega
theorem Ord.step {n : Nat} {ins : Nat → Option (List Nat)} {s : List Bool × List Int} (h : Ord n ins s) {v : Nat} (hv : v < n) : Ord n ins (stp ins s v) := by
  unfold stp
  split
  · rename_i hc
    have hl : v < s.1.length := by rw [h.len]; exact hv
    have hcnt := countP_set hl hc.1
    have hnew : (v : Int) ∉ s.2 := fun q => by
      have := (h.mem v).2 q
      rw [hc.1] at this
      cases this
    refine ⟨by simp [h.len], ?_, ?_, fun u => ?_, fun i x hx => ?_⟩
    · have := List.countP_le_length (p := fun b => b) (l := s.1.set v true)
      rw [hcnt, List.length_set, h.len] at this
      rw [List.length_append, List.length_singleton, h.cnt]
      omega
    · show (s.2 ++ [(v : Int)]).length = (s.1.set v true).countP (fun b => b)
      rw [hcnt, List.length_append, List.length_singleton, h.cnt]
    · show isK (s.1.set v true) u = true ↔ (u : Int) ∈ s.2 ++ [(v : Int)]
      rw [Zds hl, h.mem u, List.mem_append, List.mem_singleton]
      constructor
      · rintro (rfl | q)
        · exact .inr rfl
        · exact .inl q
      · rintro (q | q)
        · exact .inr q
        · exact .inl (by omega)
    · have hx : (s.2 ++ [(v : Int)])[i]? = some x := hx
      show ∃ w : Nat, x = (w : Int) ∧ w < n ∧ (w : Int) ∉ (s.2 ++ [(v : Int)]).take i ∧ ∀ l, ins w = some l → ∀ u ∈ l, (u : Int) ∈ (s.2 ++ [(v : Int)]).take i
      by_cases hi : i < s.2.length
      · rw [List.getElem?_append_left hi] at hx
        obtain ⟨w, e, hw, h1, h2⟩ := h.bel i x hx
        rw [List.take_append_of_le_length (by omega)]
        exact ⟨w, e, hw, h1, h2⟩
      · rw [List.getElem?_append_right (by omega)] at hx
        have hi2 : i = s.2.length := by
          by_cases q : i - s.2.length = 0
          · omega
          · rw [List.getElem?_eq_none (by rw [List.length_singleton]; omega)] at hx
            cases hx
        subst hi2
        rw [Nat.sub_self] at hx
        injection hx with hx
        rw [List.take_append_of_le_length (Nat.le_refl _), List.take_length]
        refine ⟨v, hx.symm, hv, hnew, fun l hl u hu => ?_⟩
        have hr := hc.2
        unfold rdy at hr
        rw [hl] at hr
        have := List.all_eq_true.1 hr u hu
        exact (h.mem u).1 this
  · exact h
theorem Ord.pass {n : Nat} {ins : Nat → Option (List Nat)} {s : List Bool × List Int} (h : Ord n ins s) : ∀ {k : Nat}, k ≤ n → Ord n ins (VE ins s k)
  | 0, _ => h
  | k + 1, hk => by rw [Zat]; exact (h.pass (by omega)).step (by omega)
theorem ZpL (ins : Nat → Option (List Nat)) (s : List Bool × List Int) (v u : Nat) (h : isK s.1 u = true) : isK (stp ins s v).1 u = true := by
  unfold stp
  split
  · rename_i hc
    by_cases hv : v < s.1.length
    · exact (Zds hv u).2 (.inr h)
    · show isK (s.1.set v true) u = true
      rw [List.set_eq_of_length_le (by omega)]
      exact h
  · exact h
theorem ZmH (ins : Nat → Option (List Nat)) (s : List Bool × List Int) (u : Nat) (h : isK s.1 u = true) : ∀ k, isK (VE ins s k).1 u = true
  | 0 => h
  | k + 1 => by rw [Zat]; exact ZpL ins _ k u (ZmH ins s u h k)
theorem ZpT (ins : Nat → Option (List Nat)) (s : List Bool × List Int) (v : Nat) : s.2.length ≤ (stp ins s v).2.length := by
  unfold stp
  split
  · simp
  · exact Nat.le_refl _
theorem ZhI (ins : Nat → Option (List Nat)) (s : List Bool × List Int) : ∀ k j, j ≤ k → (VE ins s j).2.length ≤ (VE ins s k).2.length
  | 0, j, h => by have : j = 0 := by omega
                  subst this; exact Nat.le_refl _
  | k + 1, j, h => by
    by_cases q : j = k + 1
    · subst q; exact Nat.le_refl _
    · have := ZhI ins s k j (by omega)
      have h2 := ZpT ins (VE ins s k) k
      rw [Zat]
      omega
theorem Zlb (ins : Nat → Option (List Nat)) (s : List Bool × List Int) (u : Nat) : ∀ k, k ≤ u → isK (VE ins s k).1 u = isK s.1 u
  | 0, _ => rfl
  | k + 1, h => by
    rw [Zat, ← Zlb ins s u k (by omega)]
    unfold stp
    split
    · show isK ((VE ins s k).1.set k true) u = _
      unfold isK
      rw [List.getElem?_set, if_neg (by omega)]
    · rfl
theorem lowest (n : Nat) (r : Nat → Nat) (P : Nat → Prop) : (∃ v, v < n ∧ P v) → ∃ v, v < n ∧ P v ∧ ∀ u, u < n → P u → r v ≤ r u := by
  intro ⟨v, hv, hp⟩
  generalize hm : r v = m
  induction m using Nat.strongRecOn generalizing v with
  | _ m ih =>
    by_cases q : ∃ u, u < n ∧ P u ∧ r u < m
    · obtain ⟨u, hu, hpu, hru⟩ := q
      exact ih (r u) hru u hu hpu rfl
    · refine ⟨v, hv, hp, fun u hu hpu => ?_⟩
      by_cases q2 : r u < m
      · exact absurd ⟨u, hu, hpu, q2⟩ q
      · omega
theorem progress {n : Nat} {ins : Nat → Option (List Nat)} (hb : InB n ins) {r : Nat → Nat} (hr : Rkd n ins r) {s : List Bool × List Int} (h : Ord n ins s) (hlt : s.2.length < n) : s.2.length < (VE ins s n).2.length := by
  have hex : ∃ v, v < n ∧ isK s.1 v = false := by
    by_cases q : ∃ v, v < n ∧ isK s.1 v = false
    · exact q
    · exfalso
      have hall : ∀ b ∈ s.1, b = true := fun b hb => by
        obtain ⟨i, hi, e⟩ := List.getElem_of_mem hb
        by_cases q2 : isK s.1 i = false
        · exact absurd ⟨i, by rw [← h.len]; exact hi, q2⟩ q
        · have q3 : isK s.1 i = true := by simpa using q2
          unfold isK at q3
          rw [List.getElem?_eq_getElem hi, e] at q3
          simpa using q3
      have : s.1.countP (fun b => b) = s.1.length := List.countP_eq_length.2 hall
      rw [← h.cnt, h.len] at this
      omega
  obtain ⟨v, hv, hk, hmin⟩ := lowest n r (fun v => isK s.1 v = false) hex
  have hs1 := ZhI ins s v 0 (Nat.zero_le _)
  have hs2 := ZhI ins s n (v + 1) (by omega)
  rw [ZiH] at hs1
  have hst : (VE ins s (v + 1)).2.length = (VE ins s v).2.length + 1 := by
    rw [Zat]
    unfold stp
    rw [if_pos]
    · rw [List.length_append, List.length_singleton]
    · refine ⟨by rw [Zlb ins s v v (Nat.le_refl _)]; exact hk, ?_⟩
      unfold rdy
      cases hi : ins v with
      | none => rfl
      | some l =>
        refine List.all_eq_true.2 fun u hu => ?_
        have h1 := hr v l u hv hi hu
        have h2 := hb v l u hv hi hu
        refine ZmH ins s u ?_ v
        by_cases q : isK s.1 u = false
        · have := hmin u h2 q
          omega
        · simpa using q
  omega
theorem Ord.rank {n : Nat} {ins : Nat → Option (List Nat)} {s : List Bool × List Int} (h : Ord n ins s) (hn : s.2.length = n) : (∀ v, v < n → (v : Int) ∈ s.2) ∧ ∃ r, Rkd n ins r ∧ ∀ v, v < n → r v < n ∧ s.2[r v]? = some (v : Int) := by
  have hall : ∀ v, v < n → (v : Int) ∈ s.2 := fun v hv => by
    have he : s.1.countP (fun b => b) = s.1.length := by rw [← h.cnt, h.len, hn]
    have := List.countP_eq_length.1 he
    refine (h.mem v).1 ?_
    unfold isK
    rw [List.getElem?_eq_getElem (by rw [h.len]; exact hv), this _ (List.getElem_mem _)]
    rfl
  refine ⟨hall, ?_⟩
  have hix : ∀ v, v < n → ∃ i, i < n ∧ s.2[i]? = some (v : Int) := fun v hv => by
    obtain ⟨i, hi, e⟩ := List.getElem_of_mem (hall v hv)
    exact ⟨i, by rw [← hn]; exact hi, by rw [List.getElem?_eq_getElem hi, e]⟩
  let r : Nat → Nat := fun v => if hv : v < n then Classical.choose (hix v hv) else 0
  have hrs : ∀ v (hv : v < n), r v < n ∧ s.2[r v]? = some (v : Int) := fun v hv => by
    show (if hv : v < n then Classical.choose (hix v hv) else 0) < n ∧ _
    have : r v = Classical.choose (hix v hv) := by simp only [r, dif_pos hv]
    rw [this, dif_pos hv]
    exact Classical.choose_spec (hix v hv)
  refine ⟨r, fun v l u hv hi hu => ?_, hrs⟩
  obtain ⟨hv1, hv2⟩ := hrs v hv
  obtain ⟨w, e, hw, h1, h2⟩ := h.bel (r v) v hv2
  have e : v = w := by omega
  subst e
  have hu2 := h2 l hi u hu
  obtain ⟨j, hj, e2⟩ := List.getElem_of_mem hu2
  rw [List.length_take] at hj
  rw [List.getElem_take] at e2
  have hj2 : s.2[j]? = some (u : Int) := by rw [List.getElem?_eq_getElem (by omega), e2]
  obtain ⟨w, e3, hw3, h3, _⟩ := h.bel j u hj2
  have e3 : u = w := by omega
  subst e3
  obtain ⟨hu3, hu4⟩ := hrs u hw3
  have : r u = j := by
    by_cases q : r u < j
    · exfalso
      refine h3 (List.mem_of_getElem? (i := r u) ?_)
      rw [List.getElem?_take_of_lt q]
      exact hu4
    · by_cases q2 : j < r u
      · exfalso
        obtain ⟨w, e4, _, h4, _⟩ := h.bel (r u) u hu4
        have e4 : u = w := by omega
        subst e4
        refine h4 (List.mem_of_getElem? (i := j) ?_)
        rw [List.getElem?_take_of_lt q2]
        exact hj2
      · omega
  omega
theorem Ord.start (n : Nat) (ins : Nat → Option (List Nat)) : Ord n ins (List.replicate n false, []) := by
  refine ⟨by simp, by simp, ?_, fun v => ?_, fun i x hx => by simp at hx⟩
  · simp [List.countP_replicate]
  · unfold isK
    simp [List.getElem?_replicate]
def V5 (L : List Int) (l : List Nat) : Int := l.foldl (fun m u => max m ((L[u]?).getD 0)) 0
def ZmR (ins : Nat → Option (List Nat)) (s : List Int × Bool) (v : Nat) : List Int × Bool := match ins v with
  | none => s
  | some l => if (s.1[v]?).getD 0 ≠ V5 s.1 l + 1 then (s.1.set v (V5 s.1 l + 1), true) else s
def Jt (ins : Nat → Option (List Nat)) (L : List Int) (k : Nat) : List Int × Bool := (List.range k).foldl (ZmR ins) (L, false)
theorem Zas (ins : Nat → Option (List Nat)) (L : List Int) (k : Nat) : Jt ins L (k + 1) = ZmR ins (Jt ins L k) k := by
  unfold Jt
  rw [List.range_succ, List.foldl_append]
  rfl
theorem ZiB (L : List Int) (l : List Nat) : 0 ≤ V5 L l ∧ ∀ u ∈ l, (L[u]?).getD 0 ≤ V5 L l := by
  unfold V5
  have : ∀ (l : List Nat) (m : Int), m ≤ l.foldl (fun m u => max m ((L[u]?).getD 0)) m ∧ ∀ u ∈ l, (L[u]?).getD 0 ≤ l.foldl (fun m u => max m ((L[u]?).getD 0)) m := by
    intro l
    induction l with
    | nil => intro m; exact ⟨Int.le_refl _, fun u hu => by cases hu⟩
    | cons a r ih =>
      intro m
      obtain ⟨h1, h2⟩ := ih (max m ((L[a]?).getD 0))
      rw [List.foldl_cons]
      refine ⟨by omega, fun u hu => ?_⟩
      rcases List.mem_cons.1 hu with rfl | hu
      · omega
      · exact h2 u hu
  exact this l 0
theorem Zlk (L : List Int) (l : List Nat) (c : Int) (h0 : 0 ≤ c) (h : ∀ u ∈ l, (L[u]?).getD 0 ≤ c) : V5 L l ≤ c := by
  unfold V5
  have : ∀ (l : List Nat) (m : Int), m ≤ c → (∀ u ∈ l, (L[u]?).getD 0 ≤ c) → l.foldl (fun m u => max m ((L[u]?).getD 0)) m ≤ c := by
    intro l
    induction l with
    | nil => intro m hm _; exact hm
    | cons a r ih =>
      intro m hm hl
      rw [List.foldl_cons]
      refine ih _ ?_ fun u hu => hl u (List.mem_cons_of_mem _ hu)
      have := hl a List.mem_cons_self
      omega
  exact this l 0 h0 h
def ZnS (n : Nat) (c : Int) (L : List Int) : Prop := L.length = n ∧ ∀ u : Nat, 0 ≤ (L[u]?).getD 0 ∧ (L[u]?).getD 0 ≤ c
theorem ZmB {L : List Int} {v : Nat} {x : Int} (hv : v < L.length) (u : Nat) : ((L.set v x)[u]?).getD 0 = if u = v then x else (L[u]?).getD 0 := by
  rw [List.getElem?_set]
  by_cases h : v = u
  · subst h; simp [hv]
  · rw [if_neg h, if_neg (fun q => h q.symm)]
theorem ZnS.step {n : Nat} {ins : Nat → Option (List Nat)} {c : Int} {s : List Int × Bool} (h : ZnS n c s.1) {v : Nat} (hv : v < n) : ZnS n (c + 1) (ZmR ins s v).1 := by
  have h0 : 0 ≤ c := by have := h.2 0; omega
  have keep : ZnS n (c + 1) s.1 := ⟨h.1, fun u => by have := h.2 u; omega⟩
  unfold ZmR
  split
  · exact keep
  · rename_i l hl
    split
    · have h1 := ZiB s.1 l
      have h2 := Zlk s.1 l c h0 fun u _ => (h.2 u).2
      refine ⟨by simp [h.1], fun u => ?_⟩
      show 0 ≤ ((s.1.set v (V5 s.1 l + 1))[u]?).getD 0 ∧ _ ≤ c + 1
      rw [ZmB (by rw [h.1]; exact hv)]
      have := h.2 u
      split <;> omega
    · exact keep
theorem ZnS.pass {n : Nat} {ins : Nat → Option (List Nat)} {c : Int} {L : List Int} (h : ZnS n c L) : ∀ {k : Nat}, k ≤ n → ZnS n (c + (k : Int)) (Jt ins L k).1
  | 0, _ => by
    show ZnS n (c + ((0 : Nat) : Int)) L
    rw [show c + ((0 : Nat) : Int) = c by omega]; exact h
  | k + 1, hk => by
    rw [Zas]
    have := (h.pass (ins := ins) (k := k) (by omega)).step (ins := ins) (v := k) (by omega)
    rw [show c + ((k + 1 : Nat) : Int) = c + (k : Int) + 1 by omega]
    exact this
theorem ZjO {ins : Nat → Option (List Nat)} {L : List Int} : ∀ {k j : Nat}, j ≤ k → (Jt ins L j).2 = true → (Jt ins L k).2 = true
  | 0, j, h, e => by have : j = 0 := by omega
                     subst this; exact e
  | k + 1, j, h, e => by
    by_cases q : j = k + 1
    · subst q; exact e
    · have := ZjO (k := k) (j := j) (by omega) e
      rw [Zas]
      unfold ZmR
      split
      · exact this
      · split
        · rfl
        · exact this
theorem Ziz {ins : Nat → Option (List Nat)} {L : List Int} : ∀ {k : Nat}, (Jt ins L k).2 = false → (Jt ins L k).1 = L ∧ ∀ v, v < k → ∀ l, ins v = some l → (L[v]?).getD 0 = V5 L l + 1
  | 0, _ => ⟨rfl, fun v hv => by omega⟩
  | k + 1, h => by
    rw [Zas] at h ⊢
    have hk : (Jt ins L k).2 = false := by
      cases q : (Jt ins L k).2 with
      | false => rfl
      | true =>
        have : (Jt ins L (k + 1)).2 = true := ZjO (j := k) (by omega) q
        rw [Zas, h] at this
        cases this
    obtain ⟨e, ih⟩ := Ziz hk
    unfold ZmR at h ⊢
    cases hi : ins k with
    | none =>
      simp only [hi] at h ⊢
      refine ⟨e, fun v hv l hl => ?_⟩
      by_cases q : v = k
      · subst q; rw [hi] at hl; cases hl
      · exact ih v (by omega) l hl
    | some l =>
      simp only [hi] at h ⊢
      by_cases q : ((Jt ins L k).1[k]?).getD 0 ≠ V5 (Jt ins L k).1 l + 1
      · rw [if_pos q] at h; cases h
      · rw [if_neg q]
        refine ⟨e, fun v hv l' hl' => ?_⟩
        by_cases q2 : v = k
        · subst q2
          rw [hi] at hl'
          injection hl' with hl'
          subst hl'
          rw [e] at q
          exact Decidable.of_not_not q
        · exact ih v (by omega) l' hl'
theorem Zpa {n : Nat} {ins : Nat → Option (List Nat)} {L : List Int} (h : (Jt ins L n).2 = false) (h0 : ∀ u : Nat, 0 ≤ (L[u]?).getD 0) : Rkd n ins (fun v => ((L[v]?).getD 0).toNat) := by
  intro v l u hv hi hu
  have h1 := (Ziz h).2 v hv l hi
  have h2 := (ZiB L l).2 u hu
  have h3 := h0 u
  show ((L[u]?).getD 0).toNat < ((L[v]?).getD 0).toNat
  omega
def VL (ins : Nat → Option (List Nat)) (n : Nat) : Nat → List Int
  | 0 => List.replicate n 0
  | k + 1 => (Jt ins (VL ins n k) n).1
theorem ZjP (ins : Nat → Option (List Nat)) (n : Nat) : ∀ k, ZnS n ((k * n : Nat) : Int) (VL ins n k)
  | 0 => ⟨by simp [VL], fun u => by
    have : ((List.replicate n (0 : Int))[u]?).getD 0 = 0 := by
      rw [List.getElem?_replicate]; split <;> rfl
    show 0 ≤ ((List.replicate n (0 : Int))[u]?).getD 0 ∧ ((List.replicate n (0 : Int))[u]?).getD 0 ≤ _
    rw [this]; omega⟩
  | k + 1 => by
    have := (ZjP ins n k).pass (ins := ins) (k := n) (Nat.le_refl _)
    rw [show (((k + 1) * n : Nat) : Int) = ((k * n : Nat) : Int) + (n : Int) by rw [Nat.succ_mul]; omega]
    exact this
def Right (n : Nat) (ins : Nat → Option (List Nat)) (r : Nat → Nat) (F : Nat → Int) (j : Nat) (L : List Int) : Prop := ∀ v, v < n → r v < j → (L[v]?).getD 0 = F v
theorem ZpB {n : Nat} {ins : Nat → Option (List Nat)} {r : Nat → Nat} (hr : Rkd n ins r) (hb : InB n ins) (hrn : ∀ v, v < n → r v < n) : ∀ j, j ≤ n → ∃ F : Nat → Int, ∀ v, v < n → r v < j → match ins v with
    | none => F v = 0
    | some l => F v = l.foldl (fun m u => max m (F u)) 0 + 1 := by
  intro j
  induction j with
  | zero => intro _; exact ⟨fun _ => 0, fun v _ h => by omega⟩
  | succ j ih =>
    intro hj
    obtain ⟨F, hF⟩ := ih (by omega)
    have hfold : ∀ (G : Nat → Int) (l : List Nat) (m : Int), (∀ u ∈ l, G u = F u) → l.foldl (fun m u => max m (G u)) m = l.foldl (fun m u => max m (F u)) m := by
      intro G l
      induction l with
      | nil => intro m _; rfl
      | cons a t iht =>
        intro m h
        rw [List.foldl_cons, List.foldl_cons, h a List.mem_cons_self, iht _ fun u hu => h u (List.mem_cons_of_mem _ hu)]
    refine ⟨fun v => if r v < j then F v else match ins v with
      | none => 0
      | some l => l.foldl (fun m u => max m (F u)) 0 + 1, fun v hv hrv => ?_⟩
    have hF2 := hF v hv
    cases hi : ins v with
    | none =>
      simp only [hi] at hF2 ⊢
      split
      · exact hF2 (by assumption)
      · rfl
    | some l =>
      simp only [hi] at hF2 ⊢
      have hl : ∀ u ∈ l, (if r u < j then F u else match ins u with | none => 0 | some l => l.foldl (fun m u => max m (F u)) 0 + 1) = F u := fun u hu => by
        have := hr v l u hv hi hu
        rw [if_pos (by omega)]
      rw [hfold _ l 0 hl]
      split
      · exact hF2 (by assumption)
      · rfl
theorem Zh1 {L : List Int} {F : Nat → Int} : ∀ {l : List Nat} {m : Int}, (∀ u ∈ l, (L[u]?).getD 0 = F u) → l.foldl (fun m u => max m ((L[u]?).getD 0)) m = l.foldl (fun m u => max m (F u)) m
  | [], m, _ => rfl
  | a :: t, m, h => by
    rw [List.foldl_cons, List.foldl_cons, h a List.mem_cons_self, Zh1 fun u hu => h u (List.mem_cons_of_mem _ hu)]
theorem ZnD {n : Nat} {ins : Nat → Option (List Nat)} {r : Nat → Nat} (hr : Rkd n ins r) (hb : InB n ins) {F : Nat → Int}
    (hF : ∀ v, v < n → match ins v with
      | none => F v = 0
      | some l => F v = l.foldl (fun m u => max m (F u)) 0 + 1) {L : List Int} (hL : L.length = n) {j : Nat} (h : Right n ins r F j L) (hs : ∀ v, v < n → ins v = none → (L[v]?).getD 0 = 0) :
    ∀ k, k ≤ n → (Jt ins L k).1.length = n ∧ Right n ins r F j (Jt ins L k).1 ∧ (∀ v, v < n → ins v = none → ((Jt ins L k).1[v]?).getD 0 = 0) ∧ (∀ v, v < k → r v < j + 1 → ((Jt ins L k).1[v]?).getD 0 = F v) := by
  intro k
  induction k with
  | zero => intro _; exact ⟨hL, h, hs, fun v hv => by omega⟩
  | succ k ih =>
    intro hk
    obtain ⟨h1, h2, h3, h4⟩ := ih (by omega)
    rw [Zas]
    generalize hS : Jt ins L k = S at h1 h2 h3 h4 ⊢
    have hFk := hF k (by omega)
    unfold ZmR
    cases hi : ins k with
    | none =>
      simp only [hi] at hFk ⊢
      refine ⟨h1, h2, h3, fun v hv hrv => ?_⟩
      by_cases q : v = k
      · subst q; rw [h3 v (by omega) hi, hFk]
      · exact h4 v (by omega) hrv
    | some l =>
      simp only [hi] at hFk ⊢
      have hm : r k < j + 1 → V5 S.1 l + 1 = F k := fun hrk => by
        rw [hFk]
        unfold V5
        rw [Zh1 fun u hu => h2 u (hb k l u (by omega) hi hu) (by have := hr k l u (by omega) hi hu; omega)]
      have hset : ∀ u, ((if (S.1[k]?).getD 0 ≠ V5 S.1 l + 1 then (S.1.set k (V5 S.1 l + 1), true) else S).1[u]?).getD 0 = if u = k then V5 S.1 l + 1 else (S.1[u]?).getD 0 := fun u => by
        by_cases q : (S.1[k]?).getD 0 ≠ V5 S.1 l + 1
        · rw [if_pos q]
          exact ZmB (by rw [h1]; omega) u
        · rw [if_neg q]
          split
          · rename_i e; rw [e]; exact Decidable.of_not_not q
          · rfl
      refine ⟨?_, fun v hv hrv => ?_, fun v hv hvi => ?_, fun v hv hrv => ?_⟩
      · split
        · simp [h1]
        · exact h1
      · rw [hset]
        split
        · rename_i e; rw [hm (by rw [← e]; omega), e]
        · exact h2 v hv hrv
      · rw [hset, if_neg (fun e => by rw [e, hi] at hvi; cases hvi)]
        exact h3 v hv hvi
      · rw [hset]
        split
        · rename_i e; rw [hm (by rw [← e]; exact hrv), e]
        · exact h4 v (by omega) hrv
theorem ZnE {n : Nat} {ins : Nat → Option (List Nat)} {r : Nat → Nat} (hr : Rkd n ins r) (hb : InB n ins) (hrn : ∀ v, v < n → r v < n) : (Jt ins (VL ins n n) n).2 = false := by
  obtain ⟨F, hF⟩ := ZpB hr hb hrn n (Nat.le_refl _)
  have hF' : ∀ v, v < n → match ins v with
      | none => F v = 0
      | some l => F v = l.foldl (fun m u => max m (F u)) 0 + 1 := fun v hv => hF v hv (hrn v hv)
  have key : ∀ j, (VL ins n j).length = n ∧ Right n ins r F j (VL ins n j) ∧ ∀ v, v < n → ins v = none → ((VL ins n j)[v]?).getD 0 = 0 := by
    intro j
    induction j with
    | zero => exact ⟨by simp [VL], fun v _ h => by omega, fun v hv _ => by
        show ((List.replicate n (0 : Int))[v]?).getD 0 = 0
        rw [List.getElem?_replicate]; split <;> rfl⟩
    | succ j ih =>
      obtain ⟨a, b, c⟩ := ih
      obtain ⟨p, q, s, t⟩ := ZnD hr hb hF' a b c n (Nat.le_refl _)
      exact ⟨p, fun v hv hrv => t v hv hrv, s⟩
  obtain ⟨a, b, c⟩ := key n
  cases hq : (Jt ins (VL ins n n) n).2 with
  | false => rfl
  | true =>
    exfalso
    have : ∀ k, k ≤ n → Jt ins (VL ins n n) k = (VL ins n n, false) := by
      intro k
      induction k with
      | zero => intro _; rfl
      | succ k ih =>
        intro hk
        rw [Zas, ih (by omega)]
        unfold ZmR
        cases hi : ins k with
        | none => rfl
        | some l =>
          have hFk := hF' k (by omega)
          simp only [hi] at hFk
          show (if ((VL ins n n)[k]?).getD 0 ≠ V5 (VL ins n n) l + 1 then _ else _) = _
          rw [if_neg]
          refine fun q => q ?_
          rw [b k (by omega) (hrn k (by omega)), hFk]
          unfold V5
          rw [Zh1 fun u hu => b u (hb k l u (by omega) hi hu) (hrn u (hb k l u (by omega) hi hu))]
    rw [this n (Nat.le_refl _)] at hq
    cases hq
/-
  Plain ground: the sources that a net depends on; values; sorted lists (no program in sight).
-/
inductive Src (ins : Nat → Option (List Nat)) : Nat → Nat → Prop
  | base {v : Nat} : ins v = none → Src ins v v
  | step {v u s : Nat} {l : List Nat} : ins v = some l → u ∈ l → Src ins u s → Src ins v s
theorem ZkI {ins : Nat → Option (List Nat)} {v s : Nat} (h : ins v = none) : Src ins v s ↔ s = v := by
  constructor
  · intro q
    cases q with
    | base _ => rfl
    | step h2 _ _ => rw [h] at h2; cases h2
  · rintro rfl
    exact .base h
theorem ZhN {ins : Nat → Option (List Nat)} {v s : Nat} {l : List Nat} (h : ins v = some l) : Src ins v s ↔ ∃ u, u ∈ l ∧ Src ins u s := by
  constructor
  · intro q
    cases q with
    | base h2 => rw [h] at h2; cases h2
    | step h2 hu hs =>
      rw [h] at h2
      injection h2 with h2
      subst h2
      exact ⟨_, hu, hs⟩
  · rintro ⟨u, hu, hs⟩
    exact .step h hu hs
theorem Zsb {ins : Nat → Option (List Nat)} {v s : Nat} (h : Src ins v s) : ins s = none := by
  induction h with
  | base h => exact h
  | step _ _ _ ih => exact ih
theorem Zqs {n : Nat} {ins : Nat → Option (List Nat)} (hb : InB n ins) {v s : Nat} (h : Src ins v s) : v < n → s < n := by
  induction h with
  | base h => exact id
  | step hi hu _ ih => exact fun hv => ih (hb _ _ _ hv hi hu)
theorem Zsa {n : Nat} {ins : Nat → Option (List Nat)} (hb : InB n ins) {r : Nat → Nat} (hr : Rkd n ins r) (hne : ∀ v l, v < n → ins v = some l → l ≠ []) {v : Nat} (hv : v < n) : ∃ s, Src ins v s := by
  generalize hm : r v = m
  induction m using Nat.strongRecOn generalizing v with
  | _ m ih =>
    cases hi : ins v with
    | none => exact ⟨v, .base hi⟩
    | some l =>
      cases l with
      | nil => exact absurd rfl (hne v [] hv hi)
      | cons u t =>
        have hu : u ∈ u :: t := List.mem_cons_self
        obtain ⟨s, hs⟩ := ih (r u) (by rw [← hm]; exact hr v _ u hv hi hu) (hb v _ u hv hi hu) rfl
        exact ⟨s, .step hi hu hs⟩
def ZjQ (k : Nat) (b : Bool) : List Int := if b = true then [(k : Int)] else []
theorem ZhJ (l : List Bool) (m : Nat) : (cat ZjQ m l).length ≤ l.length := by
  have := ZcU (f := ZjQ) (c := 1) (l := l) (m := m) (fun i x _ => by unfold ZjQ; split <;> simp)
  omega
noncomputable def Zp9 (n : Nat) (ins : Nat → Option (List Nat)) (v : Nat) : List Bool := (List.range n).map fun s => tr (Src ins v s)
noncomputable def ZhP (n : Nat) (ins : Nat → Option (List Nat)) (v : Nat) : List Int := cat ZjQ 0 (Zp9 n ins v)
theorem mem_listed {l : List Bool} {m : Nat} {x : Int} : x ∈ cat ZjQ m l ↔ ∃ k : Nat, l[k]? = some true ∧ x = ((m + k : Nat) : Int) := by
  rw [ZdB]
  constructor
  · rintro ⟨k, b, hb, hx⟩
    unfold ZjQ at hx
    cases b with
    | false => cases hx
    | true => exact ⟨k, hb, by simpa using hx⟩
  · rintro ⟨k, hk, rfl⟩
    exact ⟨k, true, hk, by simp [ZjQ]⟩
theorem Zna {n : Nat} {ins : Nat → Option (List Nat)} {v k : Nat} : (Zp9 n ins v)[k]? = some true ↔ k < n ∧ Src ins v k := by
  unfold Zp9
  rw [List.getElem?_map]
  by_cases h : k < n
  · rw [List.getElem?_range h]
    simp [YK, h]
  · rw [List.getElem?_eq_none (by simpa using h)]
    simp [h]
theorem ZeK {n : Nat} {ins : Nat → Option (List Nat)} (hb : InB n ins) {v : Nat} (hv : v < n) {x : Int} : x ∈ ZhP n ins v ↔ ∃ s : Nat, x = (s : Int) ∧ Src ins v s := by
  unfold ZhP
  rw [mem_listed]
  constructor
  · rintro ⟨k, hk, e⟩
    exact ⟨k, by rw [e]; congr 1; omega, (Zna.1 hk).2⟩
  · rintro ⟨s, e, hs⟩
    exact ⟨s, Zna.2 ⟨Zqs hb hs hv, hs⟩, by rw [e]; congr 1; omega⟩
theorem ZhQ (n : Nat) (ins : Nat → Option (List Nat)) (v : Nat) : (ZhP n ins v).length ≤ n := by
  have := ZhJ (Zp9 n ins v) 0
  unfold ZhP
  unfold Zp9 at this ⊢
  simpa using this
theorem ZjN : ∀ (l : List Bool) (m : Nat), (cat ZjQ m l).Pairwise (· < ·) ∧ ∀ x ∈ cat ZjQ m l, (m : Int) ≤ x := by
  intro l
  induction l with
  | nil => intro m; exact ⟨List.Pairwise.nil, fun x hx => by cases hx⟩
  | cons b r ih =>
    intro m
    obtain ⟨h1, h2⟩ := ih (m + 1)
    show (ZjQ m b ++ cat ZjQ (m + 1) r).Pairwise (· < ·) ∧ ∀ x ∈ ZjQ m b ++ cat ZjQ (m + 1) r, (m : Int) ≤ x
    cases b with
    | false =>
      refine ⟨h1, fun x hx => ?_⟩
      have := h2 x hx
      omega
    | true =>
      refine ⟨List.Pairwise.cons (fun x hx => ?_) h1, fun x hx => ?_⟩
      · have := h2 x hx
        omega
      · rcases List.mem_cons.1 hx with rfl | hx
        · exact Int.le_refl _
        · have := h2 x hx
          omega
theorem Zm9 (n : Nat) (ins : Nat → Option (List Nat)) (v : Nat) : (ZhP n ins v).Pairwise (· < ·) := (ZjN _ 0).1
theorem ZlZ : ∀ {a b : List Int}, a.Pairwise (· < ·) → b.Pairwise (· < ·) → (∀ x, x ∈ a ↔ x ∈ b) → a = b
  | [], [], _, _, _ => rfl
  | [], y :: b, _, _, h => by have := (h y).2 List.mem_cons_self; cases this
  | x :: a, [], _, _, h => by have := (h x).1 List.mem_cons_self; cases this
  | x :: a, y :: b, ha, hb, h => by
    obtain ⟨a1, a2⟩ := List.pairwise_cons.1 ha
    obtain ⟨b1, b2⟩ := List.pairwise_cons.1 hb
    have exy : x = y := by
      rcases List.mem_cons.1 ((h x).1 List.mem_cons_self) with e | q
      · exact e
      · rcases List.mem_cons.1 ((h y).2 List.mem_cons_self) with e | q2
        · exact e.symm
        · have := a1 y q2
          have := b1 x q
          omega
    subst exy
    rw [ZlZ a2 b2 fun z => ?_]
    constructor
    · intro hz
      rcases List.mem_cons.1 ((h z).1 (List.mem_cons_of_mem _ hz)) with e | q
      · have := a1 z hz; omega
      · exact q
    · intro hz
      rcases List.mem_cons.1 ((h z).2 (List.mem_cons_of_mem _ hz)) with e | q
      · have := b1 z hz; omega
      · exact q
theorem ZnM (l : List Int) : (srt l).Pairwise (· ≤ ·) := by
  have := List.pairwise_mergeSort (le := fun x y : Int => decide (x ≤ y)) (fun a b c h1 h2 => by simp only [decide_eq_true_eq] at *; omega) (fun a b => by simp only [Bool.or_eq_true, decide_eq_true_eq]; omega) l
  unfold srt
  exact this.imp fun h => by simpa using h
theorem Zod {l : List Int} (h : l.Pairwise (· ≤ ·)) : (Zfn l).Pairwise (· < ·) := by
  unfold Zfn Lib.compactUpTo
  rw [List.pairwise_map]
  have h1 : ((List.range l.toArray.size).filter (Lib.keeps l.toArray)).Pairwise (· < ·) := List.Pairwise.filter _ List.pairwise_lt_range
  refine List.Pairwise.imp_of_mem ?_ h1
  intro i j hi hj hij
  have hi2 := List.mem_range.1 (List.mem_filter.1 hi).1
  have hj2 := List.mem_range.1 (List.mem_filter.1 hj).1
  have hk := (List.mem_filter.1 hj).2
  rw [List.size_toArray] at hi2 hj2
  unfold Lib.keeps at hk
  have hk := of_decide_eq_true hk
  have mono : ∀ a b : Nat, (hab : a ≤ b) → (hb : b < l.length) → l[a]'(by omega) ≤ l[b] := fun a b hab hb => by
    by_cases q : a = b
    · subst q; exact Int.le_refl _
    · exact List.pairwise_iff_getElem.1 h a b (by omega) hb (by omega)
  have e1 : l.toArray[i]! = l[i] := by rw [getElem!_pos _ i (by simpa using hi2)]; simp
  have e2 : l.toArray[j]! = l[j] := by rw [getElem!_pos _ j (by simpa using hj2)]; simp
  have e3 : l.toArray[j - 1]! = l[j - 1] := by rw [getElem!_pos _ (j - 1) (by simp only [List.size_toArray]; omega)]; simp
  rw [e1, e2]
  rw [e2, e3] at hk
  have m1 := mono i (j - 1) (by omega) (by omega)
  have m2 := mono (j - 1) j (by omega) hj2
  rcases hk with q | q
  · omega
  · omega
theorem Ztv {l r : List Int} (hr : r.Pairwise (· < ·)) (h : ∀ x, x ∈ l ↔ x ∈ r) : Zfn (srt l) = r := ZlZ (Zod (ZnM l)) hr fun x => by rw [ZoO, ZqR, h]
def ZCM (n : Nat) (ins : Nat → Option (List Nat)) (tt : Nat → List Int → Int) (a W : Nat → Int) : Prop := ∀ v, v < n → match ins v with
  | none => W v = a v
  | some l => W v = tt v (l.map W)
theorem ZB1 {n : Nat} {ins : Nat → Option (List Nat)} {r : Nat → Nat} (hr : Rkd n ins r) (hb : InB n ins) (hrn : ∀ v, v < n → r v < n) (tt : Nat → List Int → Int) (a : Nat → Int) : ∃ W, ZCM n ins tt a W := by
  have key : ∀ j, ∃ W : Nat → Int, ∀ v, v < n → r v < j → match ins v with
      | none => W v = a v
      | some l => W v = tt v (l.map W) := by
    intro j
    induction j with
    | zero => exact ⟨fun _ => 0, fun v _ h => by omega⟩
    | succ j ih =>
      obtain ⟨W, hW⟩ := ih
      refine ⟨fun v => if r v < j then W v else match ins v with
        | none => a v
        | some l => tt v (l.map W), fun v hv hrv => ?_⟩
      have hW2 := hW v hv
      cases hi : ins v with
      | none =>
        simp only [hi] at hW2 ⊢
        split
        · exact hW2 (by assumption)
        · rfl
      | some l =>
        simp only [hi] at hW2 ⊢
        have e : l.map (fun v => if r v < j then W v else match ins v with
          | none => a v
          | some l => tt v (l.map W)) = l.map W := List.map_congr_left fun u hu => by
            have := hr v l u hv hi hu
            rw [if_pos (by omega)]
        rw [e]
        split
        · exact hW2 (by assumption)
        · rfl
  obtain ⟨W, hW⟩ := key n
  exact ⟨W, fun v hv => hW v hv (hrn v hv)⟩
/-
  Plain ground: sums over the rows of a function, by pairs (no program in sight).
-/
def sumTo (g : Nat → Int) : Nat → Int
  | 0 => 0
  | k + 1 => sumTo g k + g k
theorem sumTo_congr {g h : Nat → Int} : ∀ {k : Nat}, (∀ i, i < k → g i = h i) → sumTo g k = sumTo h k
  | 0, _ => rfl
  | k + 1, e => by
    show sumTo g k + g k = sumTo h k + h k
    rw [sumTo_congr fun i hi => e i (by omega), e k (by omega)]
theorem ZAs (g : Nat → Int) (a : Nat) : ∀ b, sumTo g (a + b) = sumTo g a + sumTo (fun i => g (a + i)) b
  | 0 => by show sumTo g a = sumTo g a + 0; omega
  | b + 1 => by
    show sumTo g (a + b) + g (a + b) = sumTo g a + (sumTo (fun i => g (a + i)) b + g (a + b))
    rw [ZAs g a b]
    omega
theorem ZAA (g h : Nat → Int) : ∀ k, sumTo (fun i => g i + h i) k = sumTo g k + sumTo h k
  | 0 => rfl
  | k + 1 => by
    show sumTo (fun i => g i + h i) k + (g k + h k) = (sumTo g k + g k) + (sumTo h k + h k)
    rw [ZAA g h k]
    omega
theorem ZAt (g : Nat → Int) (c : Int) : ∀ k, sumTo (fun i => g i * c) k = sumTo g k * c
  | 0 => by show (0 : Int) = 0 * c; rw [Int.zero_mul]
  | k + 1 => by
    show sumTo (fun i => g i * c) k + g k * c = (sumTo g k + g k) * c
    rw [ZAt g c k, Int.add_mul]
theorem ZAh {g : Nat → Int} {c : Int} : ∀ {k : Nat}, (∀ i, i < k → 0 ≤ g i ∧ g i ≤ c) → 0 ≤ sumTo g k ∧ sumTo g k ≤ (k : Int) * c
  | 0, _ => by show (0 : Int) ≤ 0 ∧ (0 : Int) ≤ ((0 : Nat) : Int) * c; simp
  | k + 1, h => by
    obtain ⟨h1, h2⟩ := ZAh (g := g) (c := c) (k := k) fun i hi => h i (by omega)
    have h3 := h k (by omega)
    show 0 ≤ sumTo g k + g k ∧ sumTo g k + g k ≤ ((k + 1 : Nat) : Int) * c
    have e : ((k + 1 : Nat) : Int) * c = (k : Int) * c + c := by
      rw [show ((k + 1 : Nat) : Int) = (k : Int) + 1 by omega, Int.add_mul, Int.one_mul]
    rw [e]
    omega
def Zv2 (i p : Nat) : Nat := i / 2 ^ p % 2
theorem ZBb (i : Nat) : Zv2 i 0 = i % 2 := by unfold Zv2; rw [Nat.pow_zero, Nat.div_one]
theorem ZBa (i p : Nat) : Zv2 i (p + 1) = Zv2 (i / 2) p := by
  unfold Zv2
  rw [Nat.pow_succ, Nat.mul_comm, Nat.div_div_eq_div_mul]
theorem ZAi {i k : Nat} (h : i < 2 ^ k) : Zv2 i k = 0 ∧ Zv2 (2 ^ k + i) k = 1 := by
  have hp : 0 < 2 ^ k := Nat.two_pow_pos k
  unfold Zv2
  constructor
  · rw [Nat.div_eq_of_lt h]
  · rw [Nat.add_div_left _ hp, Nat.div_eq_of_lt h]
theorem ZAK {i q k : Nat} (h : q < k) : Zv2 (2 ^ k + i) q = Zv2 i q := by
  have hp : 0 < 2 ^ q := Nat.two_pow_pos q
  have e : 2 ^ k = 2 ^ q * (2 * 2 ^ (k - q - 1)) := by
    rw [show 2 * 2 ^ (k - q - 1) = 2 ^ (k - q) by rw [← Nat.pow_succ']; congr 1; omega, ← Nat.pow_add]
    congr 1
    omega
  unfold Zv2
  rw [e, Nat.mul_add_div hp]
  omega
theorem ZA9 {i q : Nat} (h : Zv2 i q = 0) : Zv2 (i + 2 ^ q) q = 1 := by
  have hp : 0 < 2 ^ q := Nat.two_pow_pos q
  unfold Zv2 at *
  rw [Nat.add_div_right _ hp]
  omega
theorem ZBN {i q k : Nat} (hq : q < k) (hi : i < 2 ^ k) (h : Zv2 i q = 0) : i + 2 ^ q < 2 ^ k := by
  induction k generalizing i with
  | zero => omega
  | succ k ih =>
    have hs : 2 ^ (k + 1) = 2 ^ k + 2 ^ k := by rw [Nat.pow_succ]; omega
    by_cases e : q = k
    · subst e
      by_cases q2 : i < 2 ^ q
      · omega
      · exfalso
        obtain ⟨j, rfl⟩ : ∃ j, i = 2 ^ q + j := ⟨i - 2 ^ q, by omega⟩
        rw [(ZAi (i := j) (by omega)).2] at h
        omega
    · by_cases q2 : i < 2 ^ k
      · have := ih (by omega) q2 h
        omega
      · obtain ⟨j, rfl⟩ : ∃ j, i = 2 ^ k + j := ⟨i - 2 ^ k, by omega⟩
        rw [ZAK (by omega)] at h
        have := ih (by omega) (by omega) h
        omega
theorem ZBu (g : Nat → Int) {q k : Nat} (h : q < k) : sumTo g (2 ^ k) = sumTo (fun i => if Zv2 i q = 0 then g i + g (i + 2 ^ q) else 0) (2 ^ k) := by
  induction k generalizing g with
  | zero => omega
  | succ k ih =>
    have hs : 2 ^ (k + 1) = 2 ^ k + 2 ^ k := by rw [Nat.pow_succ]; omega
    rw [hs, ZAs, ZAs]
    by_cases e : q = k
    · subst e
      have e1 : sumTo (fun i => if Zv2 i q = 0 then g i + g (i + 2 ^ q) else 0) (2 ^ q) = sumTo g (2 ^ q) + sumTo (fun i => g (2 ^ q + i)) (2 ^ q) := by
        rw [← ZAA]
        refine sumTo_congr fun i hi => ?_
        rw [if_pos (ZAi hi).1, Nat.add_comm i]
      have e2 : sumTo (fun i => if Zv2 (2 ^ q + i) q = 0 then g (2 ^ q + i) + g (2 ^ q + i + 2 ^ q) else 0) (2 ^ q) = 0 := by
        have : sumTo (fun i => if Zv2 (2 ^ q + i) q = 0 then g (2 ^ q + i) + g (2 ^ q + i + 2 ^ q) else 0) (2 ^ q) = sumTo (fun _ => 0 * 0) (2 ^ q) := by
          refine sumTo_congr fun i hi => ?_
          rw [if_neg (by rw [(ZAi hi).2]; omega)]
          rfl
        rw [this, ZAt, Int.mul_zero]
      rw [e1, e2]
      omega
    · have hq : q < k := by omega
      have e1 := ih g hq
      have e2 := ih (fun i => g (2 ^ k + i)) hq
      rw [e1, e2]
      congr 1
      refine sumTo_congr fun i hi => ?_
      rw [ZAK hq]
      split
      · show g (2 ^ k + i) + g (2 ^ k + (i + 2 ^ q)) = g (2 ^ k + i) + g (2 ^ k + i + 2 ^ q)
        rw [Nat.add_assoc]
      · rfl
def fac (x : Int × Int) (i : Nat) : Int := if i % 2 = 1 then x.1 else x.2 - x.1
def wOf : List (Int × Int) → Nat → Int
  | [], _ => 1
  | x :: t, i => fac x i * wOf t (i / 2)
def wWo : List (Int × Int) → Nat → Nat → Int
  | [], _, _ => 1
  | _ :: t, i, 0 => wOf t (i / 2)
  | x :: t, i, q + 1 => fac x i * wWo t (i / 2) q
def ZL : List (Int × Int) → Int
  | [] => 1
  | x :: t => x.2 * ZL t
theorem ZBQ : ∀ {fs : List (Int × Int)} {q i : Nat} {x : Int × Int}, fs[q]? = some x → Zv2 i q = 0 → wOf fs i + wOf fs (i + 2 ^ q) = wWo fs i q * x.2
  | [], q, i, x, h, _ => by cases q <;> cases h
  | y :: t, 0, i, x, h, hb => by
    have e : y = x := by simpa using h
    subst e
    rw [ZBb] at hb
    show fac y i * wOf t (i / 2) + fac y (i + 2 ^ 0) * wOf t ((i + 2 ^ 0) / 2) = wOf t (i / 2) * y.2
    rw [show (i + 2 ^ 0) / 2 = i / 2 by rw [Nat.pow_zero]; omega]
    unfold fac
    rw [if_neg (by omega), if_pos (by rw [Nat.pow_zero]; omega), ← Int.add_mul, Int.mul_comm]
    congr 1
    omega
  | y :: t, q + 1, i, x, h, hb => by
    rw [ZBa] at hb
    have ih := ZBQ (fs := t) (q := q) (i := i / 2) (x := x) (by simpa using h) hb
    have e1 : (i + 2 ^ (q + 1)) / 2 = i / 2 + 2 ^ q := by rw [Nat.pow_succ]; omega
    have e2 : fac y (i + 2 ^ (q + 1)) = fac y i := by
      unfold fac
      rw [show (i + 2 ^ (q + 1)) % 2 = i % 2 by rw [Nat.pow_succ]; omega]
    show fac y i * wOf t (i / 2) + fac y (i + 2 ^ (q + 1)) * wOf t ((i + 2 ^ (q + 1)) / 2) = fac y i * wWo t (i / 2) q * x.2
    rw [e1, e2, ← Int.mul_add, ih, Int.mul_assoc]
theorem ZBV {fs : List (Int × Int)} {q : Nat} {x : Int × Int} (hx : fs[q]? = some x) (f : Nat → Int) (ch : Nat → Prop) [DecidablePred ch]
    (h0 : ∀ i, i < 2 ^ fs.length → Zv2 i q = 0 → (ch i ↔ f i ≠ f (i + 2 ^ q)) ∧ (ch (i + 2 ^ q) ↔ f i ≠ f (i + 2 ^ q))) :
    sumTo (fun i => if ch i then wOf fs i else 0) (2 ^ fs.length) = sumTo (fun i => if Zv2 i q = 0 ∧ f i ≠ f (i + 2 ^ q) then wWo fs i q else 0) (2 ^ fs.length) * x.2 := by
  have hq : q < fs.length := (List.getElem?_eq_some_iff.1 hx).1
  rw [ZBu _ hq, ← ZAt]
  refine sumTo_congr fun i hi => ?_
  by_cases hb : Zv2 i q = 0
  · obtain ⟨c1, c2⟩ := h0 i hi hb
    rw [if_pos hb]
    by_cases hc : f i ≠ f (i + 2 ^ q)
    · rw [if_pos (c1.2 hc), if_pos (c2.2 hc), if_pos ⟨hb, hc⟩]
      exact ZBQ hx hb
    · rw [if_neg (fun q => hc (c1.1 q)), if_neg (fun q => hc (c2.1 q)), if_neg (fun q => hc q.2), Int.zero_mul]
      rfl
  · rw [if_neg hb, if_neg (fun q => hb q.1), Int.zero_mul]
def ZB2 (fs : List (Int × Int)) : Prop := ∀ x ∈ fs, 0 ≤ x.1 ∧ x.1 ≤ x.2 ∧ 1 ≤ x.2 ∧ x.2 ≤ 10
theorem ZA2 {x : Int × Int} (h : 0 ≤ x.1 ∧ x.1 ≤ x.2 ∧ 1 ≤ x.2 ∧ x.2 ≤ 10) (i : Nat) : 0 ≤ fac x i ∧ fac x i ≤ 10 := by unfold fac; split <;> omega
theorem ZA5 {a b c : Int} (ha : 0 ≤ a ∧ a ≤ 10) (hb : 0 ≤ b ∧ b ≤ c) : 0 ≤ a * b ∧ a * b ≤ 10 * c := ⟨Int.mul_nonneg ha.1 hb.1, Int.mul_le_mul ha.2 hb.2 hb.1 (by omega)⟩
theorem ZBw : ∀ {fs : List (Int × Int)} (h : ZB2 fs) (i : Nat), 0 ≤ wOf fs i ∧ wOf fs i ≤ 10 ^ fs.length
  | [], _, _ => by show (0 : Int) ≤ 1 ∧ (1 : Int) ≤ 10 ^ 0; decide
  | x :: t, h, i => by
    have := ZA5 (ZA2 (h x List.mem_cons_self) i) (ZBw (fs := t) (fun y hy => h y (List.mem_cons_of_mem _ hy)) (i / 2))
    rw [List.length_cons, Int.pow_succ, Int.mul_comm (10 ^ t.length)]
    exact this
theorem ZBO : ∀ {fs : List (Int × Int)} (h : ZB2 fs) (i q : Nat), 0 ≤ wWo fs i q ∧ wWo fs i q ≤ 10 ^ fs.length
  | [], _, _, _ => by show (0 : Int) ≤ 1 ∧ (1 : Int) ≤ 10 ^ 0; decide
  | x :: t, h, i, 0 => by
    have := ZBw (fs := t) (fun y hy => h y (List.mem_cons_of_mem _ hy)) (i / 2)
    rw [List.length_cons, Int.pow_succ]
    show 0 ≤ wOf t (i / 2) ∧ wOf t (i / 2) ≤ _
    omega
  | x :: t, h, i, q + 1 => by
    have := ZA5 (ZA2 (h x List.mem_cons_self) i) (ZBO (fs := t) (fun y hy => h y (List.mem_cons_of_mem _ hy)) (i / 2) q)
    rw [List.length_cons, Int.pow_succ, Int.mul_comm (10 ^ t.length)]
    exact this
theorem ZBj : ∀ {fs : List (Int × Int)} (h : ZB2 fs), 1 ≤ ZL fs ∧ ZL fs ≤ 10 ^ fs.length
  | [], _ => by show (1 : Int) ≤ 1 ∧ (1 : Int) ≤ 10 ^ 0; decide
  | x :: t, h => by
    have hx := h x List.mem_cons_self
    have ht := ZBj (fs := t) fun y hy => h y (List.mem_cons_of_mem _ hy)
    have := ZA5 (a := x.2) (by omega) (b := ZL t) (c := 10 ^ t.length) (by omega)
    rw [List.length_cons, Int.pow_succ, Int.mul_comm (10 ^ t.length)]
    refine ⟨?_, this.2⟩
    show 1 ≤ x.2 * ZL t
    have := Int.mul_le_mul (a := 1) (b := 1) (c := x.2) (d := ZL t) (by omega) (by omega) (by omega) (by omega)
    omega
/-
  Plain ground: marking the sources of a net by depth (no program in sight).
-/
abbrev MS := List Bool × List Bool
def dfs (ins : Nat → Option (List Nat)) : Nat → Nat → MS → MS
  | 0, _, s => s
  | k + 1, v, s => if isK s.2 v = true then s else match ins v with
    | none => (s.1.set v true, s.2.set v true)
    | some l => l.foldl (fun s u => dfs ins k u s) (s.1, s.2.set v true)
def Zmo (n : Nat) (ins : Nat → Option (List Nat)) (r : Nat → Nat) (c : Nat) (s : MS) : Prop := ∀ u, u < n → isK s.2 u = true → r u < c → ∀ x, Src ins u x → isK s.1 x = true
structure Did (n : Nat) (ins : Nat → Option (List Nat)) (S : Nat → Prop) (s s' : MS) : Prop where
  l1 : s'.1.length = n
  l2 : s'.2.length = n
  mks : ∀ x, isK s'.1 x = true ↔ isK s.1 x = true ∨ S x
  up : ∀ u, isK s.2 u = true → isK s'.2 u = true
  new : ∀ u, u < n → isK s'.2 u = true → isK s.2 u = true ∨ ∀ x, Src ins u x → isK s'.1 x = true
theorem Did.seen {n : Nat} {ins : Nat → Option (List Nat)} {S : Nat → Prop} {s s' : MS} (h : Did n ins S s s') {r : Nat → Nat} {c : Nat} (q : Zmo n ins r c s) : Zmo n ins r c s' := by
  intro u hu hk hr x hx
  rcases h.new u hu hk with q1 | q1
  · exact (h.mks x).2 (.inl (q u hu q1 hr x hx))
  · exact q1 x hx
theorem Zqp {n : Nat} {ins : Nat → Option (List Nat)} {r : Nat → Nat} (hr : Rkd n ins r) (hb : InB n ins) : ∀ (k v : Nat) (s : MS), v < n → r v < k → s.1.length = n → s.2.length = n → Zmo n ins r (r v + 1) s → Did n ins (Src ins v) s (dfs ins k v s)
  | 0, v, s, hv, hk, h1, h2, hs => by omega
  | k + 1, v, s, hv, hk, h1, h2, hs => by
    unfold dfs
    by_cases q : isK s.2 v = true
    · rw [if_pos q]
      exact ⟨h1, h2, fun x => ⟨.inl, fun w => w.elim id fun w => hs v hv q (by omega) x w⟩, fun u w => w, fun u hu w => .inl w⟩
    · rw [if_neg q]
      cases hi : ins v with
      | none =>
        simp only
        refine ⟨by simp [h1], by simp [h2], fun x => ?_, fun u w => ?_, fun u hu w => ?_⟩
        · show isK (s.1.set v true) x = true ↔ _
          rw [Zds (by omega), ZkI hi]
          exact Or.comm
        · exact (Zds (by omega) u).2 (.inr w)
        · rcases (Zds (by omega) u).1 w with rfl | w
          · refine .inr fun x hx => ?_
            have := (ZkI hi).1 hx
            subst this
            exact (Zds (by omega) x).2 (.inl rfl)
          · exact .inl w
      | some l =>
        simp only
        have key : ∀ (t : List Nat) (s0 : MS) (S : Nat → Prop), (∀ u ∈ t, u ∈ l) → Did n ins S (s.1, s.2.set v true) s0 → Did n ins (fun x => S x ∨ ∃ u, u ∈ t ∧ Src ins u x) (s.1, s.2.set v true) (t.foldl (fun s u => dfs ins k u s) s0) := by
          intro t
          induction t with
          | nil =>
            intro s0 S _ hD
            rw [List.foldl_nil]
            exact ⟨hD.l1, hD.l2, fun x => by rw [hD.mks x]; constructor <;> intro w <;> rcases w with w | w <;> first | exact .inl w | exact .inr (.inl w) | (rcases w with w | ⟨u, hu, _⟩; exact .inr w; cases hu), hD.up, hD.new⟩
          | cons u t ih =>
            intro s0 S ht hD
            have hu := ht u List.mem_cons_self
            have hru := hr v l u hv hi hu
            have hbu := hb v l u hv hi hu
            have hsv : Zmo n ins r (r v) (s.1, s.2.set v true) := fun w hw hk hrw x hx => by
              rcases (Zds (kn := s.2) (by omega) w).1 hk with rfl | q1
              · omega
              · exact hs w hw q1 (by omega) x hx
            have hs0 := hD.seen hsv
            have hd := Zqp hr hb k u s0 hbu (by omega) hD.l1 hD.l2 (fun w hw hk hrw => hs0 w hw hk (by omega))
            rw [List.foldl_cons]
            have := ih (dfs ins k u s0) (fun x => S x ∨ Src ins u x) (fun w hw => ht w (List.mem_cons_of_mem _ hw)) ⟨hd.l1, hd.l2, fun x => by rw [hd.mks x, hD.mks x, or_assoc], fun w hw => hd.up w (hD.up w hw), fun w hw hk => by
              rcases hd.new w hw hk with q1 | q1
              · rcases hD.new w hw q1 with q2 | q2
                · exact .inl q2
                · exact .inr fun x hx => (hd.mks x).2 (.inl (q2 x hx))
              · exact .inr q1⟩
            refine ⟨this.l1, this.l2, fun x => ?_, this.up, this.new⟩
            rw [this.mks x]
            constructor
            · rintro (w | (w | w) | ⟨y, hy, w⟩)
              · exact .inl w
              · exact .inr (.inl w)
              · exact .inr (.inr ⟨u, List.mem_cons_self, w⟩)
              · exact .inr (.inr ⟨y, List.mem_cons_of_mem _ hy, w⟩)
            · rintro (w | w | ⟨y, hy, w⟩)
              · exact .inl w
              · exact .inr (.inl (.inl w))
              · rcases List.mem_cons.1 hy with rfl | hy
                · exact .inr (.inl (.inr w))
                · exact .inr (.inr ⟨y, hy, w⟩)
        have := key l (s.1, s.2.set v true) (fun _ => False) (fun u hu => hu) ⟨h1, by simp [h2], fun x => by simp, fun u w => w, fun u hu w => .inl w⟩
        refine ⟨this.l1, this.l2, fun x => ?_, fun u w => this.up u ((Zds (kn := s.2) (by omega) u).2 (.inr w)), fun u hu w => ?_⟩
        · rw [this.mks x, ZhN hi]
          simp
        · rcases this.new u hu w with q1 | q1
          · rcases (Zds (kn := s.2) (by omega) u).1 q1 with rfl | q1
            · refine .inr fun x hx => (this.mks x).2 (.inr (.inr ((ZhN hi).1 hx)))
            · exact .inl q1
          · exact .inr q1
theorem Zop {n : Nat} {ins : Nat → Option (List Nat)} {r : Nat → Nat} (hr : Rkd n ins r) (hb : InB n ins) {k v : Nat} (hv : v < n) (hk : r v < k) : (dfs ins k v (List.replicate n false, List.replicate n false)).1 = Zp9 n ins v := by
  have h0 : ∀ u, isK (List.replicate n false) u = false := fun u => by
    unfold isK
    rw [List.getElem?_replicate]
    split <;> rfl
  have h := Zqp hr hb k v (List.replicate n false, List.replicate n false) hv hk (by simp) (by simp) (fun u hu w => by rw [h0 u] at w; cases w)
  apply List.ext_getElem?
  intro i
  by_cases hi : i < n
  · have h1 := h.mks i
    rw [h0 i] at h1
    have hil : i < (dfs ins k v (List.replicate n false, List.replicate n false)).1.length := by rw [h.l1]; exact hi
    have hx := List.getElem?_eq_getElem hil
    unfold Zp9
    rw [List.getElem?_map, List.getElem?_range hi, hx]
    show some _ = some (tr (Src ins v i))
    congr 1
    unfold isK at h1
    rw [hx] at h1
    symm
    apply ZjA
    simpa using h1
  · rw [List.getElem?_eq_none (by rw [h.l1]; omega), List.getElem?_eq_none (by simp [Zp9]; omega)]
/-
  Plain ground: values of nets by depth, kept as they are found (no program in sight).
-/
abbrev knA (kn : List Int) (v : Nat) : Int := (kn[v]?).getD (-1)
structure ZB3 (n : Nat) (W : Nat → Int) (kn : List Int) : Prop where
  len : kn.length = n
  val : ∀ u, u < n → 0 ≤ knA kn u → knA kn u = W u
theorem ZBo {kn : List Int} {v : Nat} {x : Int} (hv : v < kn.length) (u : Nat) : knA (kn.set v x) u = if u = v then x else knA kn u := by
  unfold knA
  rw [List.getElem?_set]
  by_cases h : v = u
  · subst h; simp [hv]
  · rw [if_neg h, if_neg (fun q => h q.symm)]
theorem along {n : Nat} {ins : Nat → Option (List Nat)} {s : List Bool × List Int} (h : Ord n ins s) {α τ ρ : Type} (pk : List α → Int → τ) (F : Nat → α) {step : τ → Option (τ ⊕ ρ)} {good : List α → ρ} {z : List α} (hz : z.length = n) (hn : n ≤ 1048576)
    (hstep : ∀ (k v : Nat) (out : List α), s.2[k]? = some (v : Int) → k < s.2.length → k ≤ 1048576 → v < n → out.length = n → (∀ l, ins v = some l → ∀ u ∈ l, out[u]? = some (F u)) → step (pk out (k : Int)) = some (.inl (pk (out.set v (F v)) ((k + 1 : Nat) : Int))))
    (hend : ∀ out : List α, out.length = n → step (pk out (s.2.length : Int)) = some (.inr (good out))) :
    ∃ out, Zl step (pk z 0) = some (good out) ∧ out.length = n ∧ ∀ v : Nat, (v : Int) ∈ s.2 → out[v]? = some (F v) := by
  have hlen : s.2.length ≤ n := h.few
  obtain ⟨r, e, out, rfl, h1, h2⟩ : ∃ r, Zl step (pk z 0) = some r ∧ ∃ out, r = good out ∧ out.length = n ∧ ∀ v : Nat, (v : Int) ∈ s.2 → out[v]? = some (F v) := by
    refine Qa s.2.length (fun k v => ∃ out, v = pk out (k : Int) ∧ out.length = n ∧ ∀ w : Nat, (w : Int) ∈ s.2.take k → out[w]? = some (F w)) _ ⟨z, rfl, hz, fun w hw => by simp at hw⟩ ?_ ?_
    · rintro k _ hk ⟨out, rfl, hl, hF⟩
      have hx : s.2[k]? = some s.2[k] := List.getElem?_eq_getElem hk
      obtain ⟨v, ev, hv, hnew, hin⟩ := h.bel k _ hx
      rw [ev] at hx
      left
      refine ⟨_, hstep k v out hx hk (by omega) hv hl (fun l hl2 u hu => hF u (hin l hl2 u hu)), _, rfl, by simp [hl], fun w hw => ?_⟩
      rw [List.take_add_one, hx] at hw
      rw [List.getElem?_set]
      by_cases q : v = w
      · subst q
        rw [if_pos rfl, if_pos (by omega)]
      · rw [if_neg q]
        refine hF w ?_
        rcases List.mem_append.1 hw with w1 | w1
        · exact w1
        · have : (w : Int) = (v : Int) := by simpa using w1
          omega
    · rintro _ ⟨out, rfl, hl, hF⟩
      rw [hend out hl]
      exact ⟨_, rfl, out, rfl, hl, fun w hw => hF w (by rw [List.take_length]; exact hw)⟩
  exact ⟨out, e, h1, h2⟩
/-
  Plain ground: bits of rows (no program in sight).
-/
theorem ZA1 {x : Nat} (hx : x < 4611686018427387904) : (BitVec.ofInt 64 (x : Int)).toNat = x := by
  rw [BitVec.toNat_ofInt]
  omega
theorem ZAL {x y : Nat} (hx : x < 4611686018427387904) (hy : y < 4611686018427387904) : Go.bits .and .i64 (x : Int) (y : Int) = ((x &&& y : Nat) : Int) := by
  show Wq (((BitVec.ofInt 64 (x : Int) &&& BitVec.ofInt 64 (y : Int)).toNat : Nat) : Int) = _
  have := Nat.and_le_left (n := x) (m := y)
  rw [BitVec.toNat_and, ZA1 hx, ZA1 hy, ZdP (by omega) (by omega)]
theorem ZAj {x y : Nat} (hx : x < 4611686018427387904) (hy : y < 4611686018427387904) : Go.bits .or .i64 (x : Int) (y : Int) = ((x ||| y : Nat) : Int) := by
  show Wq (((BitVec.ofInt 64 (x : Int) ||| BitVec.ofInt 64 (y : Int)).toNat : Nat) : Int) = _
  have : x ||| y < 2 ^ 62 := Nat.or_lt_two_pow (by omega) (by omega)
  rw [BitVec.toNat_or, ZA1 hx, ZA1 hy, ZdP (by omega) (by omega)]
theorem ZBX (x p : Nat) (hp : p ≤ 64) : Int.fdiv (x : Int) (2 ^ (min p 64)) = ((x / 2 ^ p : Nat) : Int) := by
  rw [Nat.min_eq_left hp, Int.fdiv_eq_ediv_of_nonneg _ (Int.pow_nonneg (by decide)), Int.natCast_ediv, Int.natCast_pow]
  rfl
theorem ZB4 {x p : Nat} (hx : x < 4611686018427387904) (hp : p ≤ 64) : Go.bits .and .i64 (Int.fdiv (x : Int) (2 ^ (min p 64))) 1 = ((Zv2 x p : Nat) : Int) := by
  have h1 : x / 2 ^ p ≤ x := Nat.div_le_self _ _
  rw [ZBX x p hp, show (1 : Int) = ((1 : Nat) : Int) from rfl, ZAL (by omega) (by decide), Nat.and_one_is_mod]
  rfl
theorem ZBL {a b p : Nat} (h : a < 2 ^ p) : a ||| 2 ^ p * b = a + 2 ^ p * b := by
  rw [Nat.or_comm, ← Nat.two_pow_add_eq_or_of_lt h, Nat.add_comm]
theorem ZBW {x p : Nat} (h : Zv2 x p = 0) : x ||| 2 ^ p = x + 2 ^ p := by
  have hp : 0 < 2 ^ p := Nat.two_pow_pos p
  have hs : 2 ^ (p + 1) = 2 * 2 ^ p := by rw [Nat.pow_succ]; omega
  have e1 : x = 2 ^ p * (x / 2 ^ p) + x % 2 ^ p := (Nat.div_add_mod x (2 ^ p)).symm
  have hm : x % 2 ^ p < 2 ^ p := Nat.mod_lt _ hp
  unfold Zv2 at h
  obtain ⟨c, hc⟩ : ∃ c, x / 2 ^ p = 2 * c := ⟨x / 2 ^ p / 2, by omega⟩
  have e2 : x = 2 ^ (p + 1) * c + x % 2 ^ p := by
    rw [hc] at e1
    rw [hs]
    have : 2 ^ p * (2 * c) = 2 * 2 ^ p * c := by rw [← Nat.mul_assoc, Nat.mul_comm (2 ^ p) 2]
    omega
  have e3 : x % 2 ^ p ||| 2 ^ p = x % 2 ^ p + 2 ^ p := by
    have := ZBL (b := 1) hm
    rwa [Nat.mul_one] at this
  have e4 : 2 ^ (p + 1) * c ||| (x % 2 ^ p + 2 ^ p) = 2 ^ (p + 1) * c + (x % 2 ^ p + 2 ^ p) := (Nat.two_pow_add_eq_or_of_lt (by omega) c).symm
  have e5 : 2 ^ (p + 1) * c ||| x % 2 ^ p = 2 ^ (p + 1) * c + x % 2 ^ p := (Nat.two_pow_add_eq_or_of_lt (by omega) c).symm
  rw [e2, ← e5, Nat.or_assoc]
  have e6 : (2 ^ (p + 1) * c ||| x % 2 ^ p) % 2 ^ p = x % 2 ^ p := by rw [e5, ← e2]
  rw [e3, e4, e5]
  omega
def idxOf : List Nat → Nat
  | [] => 0
  | x :: t => x + 2 * idxOf t
theorem ZA3 : ∀ {l : List Nat}, (∀ x ∈ l, x < 2) → idxOf l < 2 ^ l.length
  | [], _ => by decide
  | x :: t, h => by
    have h1 := ZA3 fun y hy => h y (List.mem_cons_of_mem _ hy)
    have h2 := h x List.mem_cons_self
    rw [List.length_cons, Nat.pow_succ]
    show x + 2 * idxOf t < _
    omega
theorem ZAE : ∀ (l : List Nat) (x : Nat), idxOf (l ++ [x]) = idxOf l + 2 ^ l.length * x
  | [], x => by show x + 2 * 0 = 0 + 2 ^ 0 * x; omega
  | y :: t, x => by
    show y + 2 * idxOf (t ++ [x]) = y + 2 * idxOf t + 2 ^ (t.length + 1) * x
    have : 2 ^ (t.length + 1) * x = 2 * (2 ^ t.length * x) := by rw [Nat.pow_succ, Nat.mul_comm (2 ^ t.length) 2, Nat.mul_assoc]
    rw [ZAE t x, this]
    omega
/-
  Plain laws: the gate that drives each net; its inputs.
-/
abbrev insts (b : Zg) : List Zd := Zb.Instances (Zg.Design b)
abbrev Yi (b : Zg) : Nat := (Zb.Yb (Zg.Design b)).length
def kindOf (b : Zg) (x : Zd) : Int := match (Zn.Cells (Zg.Library b))[(Zd.Cell x).toNat]? with
  | some c => Zf.Kind c
  | none => 0
structure ZrK (b : Zg) (x : Zd) (c : Zf) : Prop where
  at_ : atI (Zn.Cells (Zg.Library b)) (Zd.Cell x) = some c
  kind : kindOf b x = Zf.Kind c
  mem : c ∈ Zn.Cells (Zg.Library b)
  ok : Ze3 c
  len : (Zd.Yb x).length = (Zf.Ye c).length
  two : 2 ≤ (Zd.Yb x).length
  few : (Zd.Yb x).length ≤ 5
theorem Zi7 {b : Zg} (h : VF b) {x : Zd} (hx : x ∈ insts b) : ∃ c, ZrK b x c := by
  obtain ⟨h0, ⟨c, hc, hn⟩, _⟩ := h.ok.1.2.2.1 x hx
  have hm := List.mem_of_getElem? hc
  have hk := h.ok.1.1.2.1 c hm
  have h5 := h.ok.1.few.nets x hx
  exact ⟨c, Zbh h0.1 hc, by unfold kindOf; rw [hc], hm, hk, hn, by have := hk.2.1.1; omega, h5⟩
theorem Zoa {b : Zg} {i : Nat} {x : Zd} {c : Zf} (hx : (insts b)[i]? = some x) (h : ZrK b x c) : Vp b (i : Int) = some c := by
  unfold Vp
  rw [Zo, hx, Bq, h.at_]
  rfl
theorem last_at {b : Zg} (h : VF b) {x : Zd} (hx : x ∈ insts b) : atI (Zd.Yb x) (Wq (((Zd.Yb x).length : Int) - 1)) = some (Yc x) ∧ 0 ≤ Yc x ∧ Yc x < (Yi b : Int) := by
  have h5 := h.ok.1.few.nets x hx
  obtain ⟨h1, h2, h3⟩ := (h.ok.1.2.2.1 x hx).last h.ok.1.1 (by omega)
  exact ⟨h1, h2, by unfold Yi; omega⟩
theorem Zid {b : Zg} (h : VF b) {i j : Nat} {x y : Zd} (hx : (insts b)[i]? = some x) (hy : (insts b)[j]? = some y) (e : Yc x = Yc y) : i = j := by
  obtain ⟨_, l0, l1⟩ := last_at h (List.mem_of_getElem? hx)
  obtain ⟨v, hv⟩ : ∃ v : Nat, Yc x = (v : Int) := ⟨(Yc x).toNat, by omega⟩
  have h1 := h.ok.1.2.2.2.2 _ (List.mem_of_getElem? (ZcV (s := ZpH (Zg.Design b)) (show v < (Zb.Yb (Zg.Design b)).length by unfold Yi at l1; omega)))
  have get : ∀ {k : Nat} {z : Zd}, (insts b)[k]? = some z → (ZpH (Zg.Design b))[k]? = some (Yc z) := fun {k z} hz => by
    have hk := (List.getElem?_eq_some_iff.1 hz).1
    unfold ZpH
    rw [List.getElem?_append_left (by rw [List.length_map]; exact hk), List.getElem?_map, hz]
    rfl
  rcases Nat.lt_trichotomy i j with hlt | q | hlt
  · have := ZeG (p := fun x => decide (x = (v : Int))) hlt (get hx) (get hy) (by simp [hv]) (by simp [← e, hv])
    omega
  · exact q
  · have := ZeG (p := fun x => decide (x = (v : Int))) hlt (get hy) (get hx) (by simp [← e, hv]) (by simp [hv])
    omega
theorem ZoY {b : Zg} (h : VF b) {i : Nat} {x : Zd} {p : ZN} (hx : (insts b)[i]? = some x) (hp : p ∈ Zb.YB (Zg.Design b)) (hd : ZN.Dir p = 1) (e : Yc x = ZN.Net p) : False := by
  obtain ⟨_, l0, l1⟩ := last_at h (List.mem_of_getElem? hx)
  obtain ⟨v, hv⟩ : ∃ v : Nat, Yc x = (v : Int) := ⟨(Yc x).toNat, by omega⟩
  have h1 := h.ok.1.2.2.2.2 _ (List.mem_of_getElem? (ZcV (s := ZpH (Zg.Design b)) (show v < (Zb.Yb (Zg.Design b)).length by unfold Yi at l1; omega)))
  unfold ZpH at h1
  rw [List.countP_append] at h1
  have c1 : 0 < (((Zb.Instances (Zg.Design b)).map Yc).countP fun x => decide (x = (v : Int))) := List.countP_pos_iff.2 ⟨Yc x, List.mem_map_of_mem (List.mem_of_getElem? hx), by simp [hv]⟩
  have c2 : 0 < ((((Zb.YB (Zg.Design b)).filter (fun p => decide (ZN.Dir p = 1))).map ZN.Net).countP fun x => decide (x = (v : Int))) :=
    List.countP_pos_iff.2 ⟨ZN.Net p, List.mem_map_of_mem (List.mem_filter.2 ⟨hp, by simp [hd]⟩), by simp [← e, hv]⟩
  omega
def gP (b : Zg) (v : Nat) (x : Zd) : Bool := decide (Yc x = (v : Int)) && decide (kindOf b x = 1)
def gF (b : Zg) (v : Nat) : Int := Xd (gP b v) (insts b)
theorem ZhY {α : Type} {p : α → Bool} {l : List α} (h : ∀ x ∈ l, p x = false) : Xd p l = -1 := by
  unfold Xd
  rw [List.findIdx?_eq_none_iff.2 h]
theorem ZlW {α : Type} {p : α → Bool} {l : List α} {k : Nat} {x : α} (hx : l[k]? = some x) : Xd p (l.take (k + 1)) = if 0 ≤ Xd p (l.take k) then Xd p (l.take k) else if p x = true then (k : Int) else -1 := by
  have hk := (List.getElem?_eq_some_iff.1 hx).1
  rw [Yo hx]
  unfold Xd
  rw [List.findIdx?_append]
  cases h : (l.take k).findIdx? p with
  | some i => simp
  | none =>
    rw [if_neg (by show ¬ (0 : Int) ≤ -1; omega), List.length_take, Nat.min_eq_left (by omega)]
    by_cases q : p x = true
    · simp [List.findIdx?_cons, q]
    · simp [List.findIdx?_cons, q]
theorem Zr0 {b : Zg} (h : VF b) {i v : Nat} {x : Zd} (hx : (insts b)[i]? = some x) (hl : Yc x = (v : Int)) (hk : kindOf b x = 1) : gF b v = (i : Int) :=
  Zep hx (by simp [gP, hl, hk]) fun j y hj hy => by
    cases hb : gP b v y with
    | false => rfl
    | true =>
      unfold gP at hb
      simp only [Bool.and_eq_true, decide_eq_true_eq] at hb
      have := Zid h hx hy (by rw [hl, hb.1])
      omega
theorem Zoz {b : Zg} {v : Nat} (h : ∀ (i : Nat) (x : Zd), (insts b)[i]? = some x → Yc x = (v : Int) → kindOf b x ≠ 1) : gF b v = -1 :=
  ZhY fun x hx => by
    obtain ⟨i, hi⟩ := List.mem_iff_getElem?.1 hx
    have := h i x hi
    unfold gP
    simp only [Bool.and_eq_false_iff, decide_eq_false_iff_not]
    by_cases q : Yc x = (v : Int)
    · exact .inr (this q)
    · exact .inl q
structure ZnZ (b : Zg) (v i : Nat) (x : Zd) : Prop where
  at_ : (insts b)[i]? = some x
  last : Yc x = (v : Int)
  kind : kindOf b x = 1
  gF : gF b v = (i : Int)
theorem Zb4 {b : Zg} (h : VF b) (v : Nat) : gF b v = -1 ∨ ∃ i x, ZnZ b v i x := by
  by_cases q : ∃ (i : Nat) (x : Zd), (insts b)[i]? = some x ∧ Yc x = (v : Int) ∧ kindOf b x = 1
  · obtain ⟨i, x, h1, h2, h3⟩ := q
    exact .inr ⟨i, x, h1, h2, h3, Zr0 h h1 h2 h3⟩
  · exact .inl (Zoz fun i x hx hl hk => q ⟨i, x, hx, hl, hk⟩)
def inL (x : Zd) : List Int := (Zd.Yb x).take ((Zd.Yb x).length - 1)
theorem ZmD {x : Zd} (h2 : 2 ≤ (Zd.Yb x).length) (h5 : (Zd.Yb x).length ≤ 5) :
    List.take (Int.toNat (Wq ((↑(List.length (Zd.Yb x)) : Int) - (1 : Int))) - Int.toNat (0 : Int)) (List.drop (Int.toNat (0 : Int)) (Zd.Yb x)) = inL x ∧ (0 : Int) ≤ Wq ((↑(List.length (Zd.Yb x)) : Int) - (1 : Int)) ∧
      Wq ((↑(List.length (Zd.Yb x)) : Int) - (1 : Int)) ≤ (↑(List.length (Zd.Yb x)) : Int) := by
  rw [ZkX (by omega) (by omega)]
  refine ⟨?_, by omega, by omega⟩
  unfold inL
  simp
theorem Zib {x : Zd} : (inL x).length = (Zd.Yb x).length - 1 := by unfold inL; rw [List.length_take]; omega
theorem Zkn {b : Zg} (h : VF b) {x : Zd} (hx : x ∈ insts b) {n : Int} (hn : n ∈ inL x) : 0 ≤ n ∧ n < (Yi b : Int) := by
  have := (h.ok.1.2.2.1 x hx).2.2 n (List.mem_of_mem_take hn)
  unfold Zj5 at this
  unfold Yi
  omega
def ins (b : Zg) (v : Nat) : Option (List Nat) := match (insts b)[(gF b v).toNat]? with
  | some x => if gF b v < 0 then none else some ((inL x).map Int.toNat)
  | none => none
theorem Zdr {b : Zg} {v : Nat} (h : gF b v = -1) : ins b v = none := by
  unfold ins
  split
  · rw [if_pos (by omega)]
  · rfl
theorem Zb9 {b : Zg} {v i : Nat} {x : Zd} (h : ZnZ b v i x) : ins b v = some ((inL x).map Int.toNat) := by
  unfold ins
  rw [h.gF, Int.toNat_natCast, h.at_]
  simp only
  rw [if_neg (by omega)]
theorem ZgL {b : Zg} (h : VF b) (n : Nat) : InB (Yi b) (ins b) := by
  intro v l u hv hi hu
  rcases Zb4 h v with q | ⟨i, x, g⟩
  · rw [Zdr q] at hi; cases hi
  · rw [Zb9 g] at hi
    injection hi with hi
    subst hi
    obtain ⟨n, hn, rfl⟩ := List.mem_map.1 hu
    have := Zkn h (List.mem_of_getElem? g.at_) hn
    omega
theorem Zlr {d : Zb} {y : Pl} (hy : y ∈ places d) : (∃ (i j : Nat) (x : Zd) (n : Int), (Zb.Instances d)[i]? = some x ∧ (Zd.Yb x)[j]? = some n ∧ y = ((i : Int), (j : Int), n, decide ((j : Int) = Wq (((Zd.Yb x).length : Int) - 1)), ())) ∨
    (∃ (j : Nat) (p : ZN), (Zb.YB d)[j]? = some p ∧ y = ((-1 : Int), (j : Int), ZN.Net p, decide (ZN.Dir p = 1), ())) := by
  unfold places at hy
  rcases List.mem_append.1 hy with hy | hy
  · obtain ⟨i, x, hi, hz⟩ := ZdB.1 hy
    unfold ZdR at hz
    obtain ⟨j, n, hj, hn⟩ := ZdB.1 hz
    simp only [List.mem_singleton, Nat.zero_add] at hn
    exact .inl ⟨i, j, x, n, hi, hj, hn⟩
  · obtain ⟨j, p, hj, hp⟩ := ZdB.1 hy
    simp only [Zex, List.mem_singleton, Nat.zero_add] at hp
    exact .inr ⟨j, p, hj, hp⟩
theorem ZpO {b : Zg} (h : VF b) {q : Nat} {y : Pl} (hy : (places (Zg.Design b))[q]? = some y) : ZeR (Zg.Library b) (Zg.Design b) (q : Int) = some (y, true) := by
  obtain ⟨a1, a2, _⟩ := ZkG h.sm
  have hf := h.ok.1.few
  have hpl := ZeM hf
  have hq := (List.getElem?_eq_some_iff.1 hy).1
  unfold ZeR
  rw [ZdW _ _ a1 a2, Bq, if_pos (Z5 h.ok.1), ZaA _ hf, Bq, Qx, Bq, ZkX (by omega) (by omega), if_pos (Z5 ⟨by omega, by omega⟩), Zo, hy]
  rfl
theorem ZgP {b : Zg} (h : VF b) {v : Nat} (hv : v < Yi b) : JJ b (v : Int) = some (gF b v) := by
  have hf := h.ok.1.few
  have hsm := (ZkG h.sm).2.1
  obtain ⟨q, y, hq, hp, e, hu⟩ := ZrU h.ok.1 hsm hv
  unfold JJ
  rw [Zhb _ _ hf, Bq, show Xd (fun x : Pl => decide (x.2.2.1 = (v : Int)) && x.2.2.2.1) (places (Zg.Design b)) = ZrT (Zg.Design b) (v : Int) from rfl, e, ZpO h hq, Bq]
  unfold ZpG at hp
  simp only [Bool.and_eq_true, decide_eq_true_eq] at hp
  rcases Zlr (List.mem_of_getElem? hq) with ⟨i, j, x, n, hi, hj, rfl⟩ | ⟨j, p, hj, rfl⟩
  · simp only [decide_eq_true_eq] at hp
    obtain ⟨c, hc⟩ := Zi7 h (List.mem_of_getElem? hi)
    have hl : Yc x = (v : Int) := by
      obtain ⟨l1, _⟩ := last_at h (List.mem_of_getElem? hi)
      rw [← hp.2, Zo, hj] at l1
      injection l1 with l1
      rw [← l1, hp.1]
    show (if ((i : Int)) < 0 then _ else _) = _
    rw [if_neg (by omega)]
    show (atI (Zb.Instances (Zg.Design b)) (i : Int)).bind _ = _
    rw [Zo, hi, Bq, hc.at_, Bq]
    by_cases k1 : Zf.Kind c = 1
    · rw [if_pos k1, Zr0 h hi hl (by rw [hc.kind, k1])]
    · rw [if_neg k1, Zoz fun i2 x2 h2 l2 k2 => ?_]
      have := Zid h hi h2 (by rw [hl, l2])
      subst this
      rw [hi] at h2
      injection h2 with h2
      subst h2
      rw [hc.kind] at k2
      exact k1 k2
  · simp only [decide_eq_true_eq] at hp
    show (if (-1 : Int) < 0 then _ else _) = _
    rw [if_pos (by omega), Zoz fun i2 x2 h2 l2 k2 => ZoY h h2 (List.mem_of_getElem? hj) hp.2 (by rw [l2, hp.1])]
theorem Zhi {b : Zg} (h : VF b) {i : Nat} {x : Zd} (hx : (insts b)[i]? = some x) : V7 b (i : Int) = some (inL x) := by
  obtain ⟨c, hc⟩ := Zi7 h (List.mem_of_getElem? hx)
  obtain ⟨e1, e2, e3⟩ := ZmD hc.two hc.few
  unfold V7
  rw [Zo, hx, Bq, Zi e2, Zi e3, e1]
/-
  Plain laws: the logic of a block: its gates and an order of its nets; levels.
-/
theorem QS {b : Zg} (h : VF b) : Yi b ≤ 30 := h.ok.1.2.1.2.1
def gates (b : Zg) : List Int := (List.range (Yi b)).map (gF b)
theorem V3 (b : Zg) : (gates b).length = Yi b := by simp [gates]
theorem Zdl (b : Zg) {v : Nat} (hv : v < Yi b) : (gates b)[v]? = some (gF b v) := by
  unfold gates
  rw [List.getElem?_map, List.getElem?_range hv]
  rfl
def VG (b : Zg) (k : Nat) : List Int := (List.range (Yi b)).map fun v => Xd (gP b v) ((insts b).take k)
theorem ZbC (b : Zg) (k : Nat) : (VG b k).length = Yi b := by simp [VG]
theorem Zk6 {b : Zg} (h : VF b) {k : Nat} {x : Zd} (hx : (insts b)[k]? = some x) : VG b (k + 1) = if kindOf b x = 1 then (VG b k).set (Yc x).toNat (k : Int) else VG b k := by
  obtain ⟨_, l0, l1⟩ := last_at h (List.mem_of_getElem? hx)
  have e1 : ∀ v, Xd (gP b v) ((insts b).take (k + 1)) = if kindOf b x = 1 ∧ v = (Yc x).toNat then (k : Int) else Xd (gP b v) ((insts b).take k) := fun v => by
    rw [ZlW hx]
    by_cases q : kindOf b x = 1 ∧ v = (Yc x).toNat
    · rw [if_pos q]
      have hl : Yc x = (v : Int) := by rw [q.2]; omega
      have hno : Xd (gP b v) ((insts b).take k) = -1 := ZhY fun y hy => by
        obtain ⟨j, hj⟩ := List.mem_iff_getElem?.1 hy
        rw [List.getElem?_take] at hj
        split at hj
        · rename_i hjk
          cases hb : gP b v y with
          | false => rfl
          | true =>
            unfold gP at hb
            simp only [Bool.and_eq_true, decide_eq_true_eq] at hb
            have := Zid h hx hj (by rw [hl, hb.1])
            omega
        · cases hj
      rw [hno, if_neg (by omega), if_pos (by simp [gP, hl, q.1])]
    · rw [if_neg q]
      by_cases q2 : 0 ≤ Xd (gP b v) ((insts b).take k)
      · rw [if_pos q2]
      · rw [if_neg q2, if_neg]
        · unfold Xd at q2 ⊢
          split
          · rename_i i hi
            rw [hi] at q2
            exact absurd (by simp) q2
          · rfl
        · intro hb
          unfold gP at hb
          simp only [Bool.and_eq_true, decide_eq_true_eq] at hb
          exact q ⟨hb.2, by omega⟩
  apply List.ext_getElem?
  intro v
  by_cases hv : v < Yi b
  · have e2 : ∀ k, (VG b k)[v]? = some (Xd (gP b v) ((insts b).take k)) := fun k => by
      unfold VG
      rw [List.getElem?_map, List.getElem?_range hv]
      rfl
    rw [e2, e1]
    by_cases k1 : kindOf b x = 1
    · rw [if_pos k1, List.getElem?_set]
      by_cases q : (Yc x).toNat = v
      · rw [if_pos q, if_pos ⟨k1, q.symm⟩, if_pos (by rw [ZbC]; omega)]
      · rw [if_neg q, if_neg (fun z => q z.2.symm), e2]
    · rw [if_neg k1, if_neg (fun z => k1 z.1), e2]
  · rw [List.getElem?_eq_none (by rw [ZbC]; omega)]
    symm
    apply List.getElem?_eq_none
    split
    · rw [List.length_set, ZbC]; omega
    · rw [ZbC]; omega
theorem ZmG {kn : List Bool} {u : Nat} (hu : u < kn.length) : kn[u]? = some (isK kn u) := by
  unfold isK
  rw [List.getElem?_eq_getElem hu]
  cases kn[u] <;> rfl
theorem Zl4 {b : Zg} (h : VF b) {v i : Nat} {x : Zd} (hv : v < Yi b) (g : ZnZ b v i x) {kn : List Bool} {ord : List Int} (hk : kn.length = Yi b) (ho : ord.length ≤ Yi b) :
    Zl (fun w => XJ (v : Int) ord kn x w.1) ((0 : Int), ()) = some (if rdy (ins b) kn v = true then .inl (((v + 1 : Nat) : Int), ord ++ [(v : Int)], List.set kn v true, ()) else .inl (((v + 1 : Nat) : Int), ord, kn, ())) := by
  have hn := QS h
  have hm := List.mem_of_getElem? g.at_
  obtain ⟨c, hc⟩ := Zi7 h hm
  obtain ⟨e1, e2, e3⟩ := ZmD hc.two hc.few
  have hil := Zib (x := x)
  have h5 := hc.few
  have := Qz (l := inL x) (show Len (inL x) by unfold Len; omega) (fun _ y => isK kn y.toNat = true) (step := fun w => XJ (v : Int) ord kn x w.1)
    (bad := .inl (((v + 1 : Nat) : Int), ord, kn, ())) (good := .inl (((v + 1 : Nat) : Int), ord ++ [(v : Int)], List.set kn v true, ()))
    (fun k y hy hkl _ => by
      have hyn := Zkn h hm (List.mem_of_getElem? hy)
      have hat : atI kn y = some (isK kn y.toNat) := Zbh hyn.1 (ZmG (by omega))
      simp only [XJ, e1, show (k : Int) < ((inL x).length : Int) from by omega, if_true, Zo, hy, Bq, hat]
      constructor
      · intro q; rw [if_pos q]
      · intro q; rw [if_neg q, if_pos (by omega), Qb (by omega)])
    (fun _ => by
      simp only [XJ, e1, Int.lt_irrefl, if_false]
      rw [if_neg (by omega), Zi (by simp only [List.length_cons, List.length_nil]; omega), Qb (by omega), Int.toNat_natCast])
  rw [this]
  congr 1
  have hr : ZcB (inL x) (fun _ y => isK kn y.toNat = true) ↔ rdy (ins b) kn v = true := by
    rw [Ja]
    unfold rdy
    rw [Zb9 g]
    simp only [List.all_map, List.all_eq_true, Function.comp]
  by_cases q : rdy (ins b) kn v = true
  · rw [if_pos q, Xk (hr.2 q)]
  · rw [if_neg q, YT (fun z => q (hr.1 z))]
theorem Znt {b : Zg} (h : VF b) {s : List Bool × List Int} (hs : Ord (Yi b) (ins b) s) :
    Zl (fun v => Qw b (gates b) s.2 (Yi b : Int) v.1 v.2.1 v.2.2.1) ((0 : Int), s.2, s.1, ()) =
      some (if (VE (ins b) s (Yi b)).2.length = s.2.length then .inr (.inr (.inr (none, false))) else .inl ((VE (ins b) s (Yi b)).2, (VE (ins b) s (Yi b)).1, ())) := by
  have hn := QS h
  refine YS (Yi b) (fun k v => v = ((k : Int), (VE (ins b) s k).2, (VE (ins b) s k).1, ())) _ rfl ?_ ?_
  · rintro k _ hk rfl
    left
    have hO := hs.pass (k := k) (by omega)
    refine ⟨_, ?_, rfl⟩
    rw [Zat]
    generalize VE (ins b) s k = t at hO
    have hlen := hO.len
    have hfew := hO.few
    simp only [Qw, show (k : Int) < (Yi b : Int) from by omega, if_true, Zo, ZmG (show k < t.1.length by omega), Bq, Zdl b hk, Qb (show k ≤ 1048576 by omega)]
    unfold stp
    cases hkk : isK t.1 k with
    | true => rfl
    | false =>
      simp only [Bool.false_eq_true, if_false, true_and]
      rcases Zb4 h k with q | ⟨i, x, g⟩
      · rw [q, if_pos (by omega), Zi (by simp only [List.length_cons, List.length_nil]; omega), if_pos (by unfold rdy; rw [Zdr q]), Int.toNat_natCast]
      · obtain ⟨c, hc⟩ := Zi7 h (List.mem_of_getElem? g.at_)
        obtain ⟨e1, e2, e3⟩ := ZmD hc.two hc.few
        rw [g.gF, if_neg (by omega), Zo, g.at_, Bq, Zi e2, Zi e3, Zl4 h hk g hlen hfew]
        by_cases q : rdy (ins b) t.1 k = true
        · rw [if_pos q, if_pos q]
        · rw [if_neg q, if_neg q]
  · rintro _ rfl
    simp only [Qw, Int.lt_irrefl, if_false]
    by_cases q : (VE (ins b) s (Yi b)).2.length = s.2.length
    · rw [if_pos q, if_pos (by omega)]
    · rw [if_neg q, if_neg (by omega)]
theorem ZiD {b : Zg} (h : VF b) : ∃ r, Zbk b = some r ∧ ((∃ s, Ord (Yi b) (ins b) s ∧ s.2.length = Yi b ∧ r = (some (b, gates b, s.2, ()), true)) ∨ (¬ Logical (Yi b) (ins b) ∧ r = (none, false))) := by
  have hn := QS h
  have hw : (Zg.Qo b).length = Yi b := h.ok.2.1
  have h14 := h.ok.1.few.insts
  unfold Zbk
  rw [Zi (by omega), Zi (by omega), Zi (by omega), Zi (by omega), hw, Int.toNat_natCast]
  refine Qa (Yi b) (fun k v => v = ((k : Int), List.replicate k (-1 : Int) ++ List.replicate (Yi b - k) (0 : Int), ())) _ (by rw [List.replicate_zero, List.nil_append]; rfl) ?_ ?_
  · rintro k _ hk rfl
    left
    refine ⟨_, ?_, rfl⟩
    have e : List.replicate (Yi b - k) (0 : Int) = 0 :: List.replicate (Yi b - (k + 1)) 0 := by
      rw [show Yi b - k = (Yi b - (k + 1)) + 1 by omega, List.replicate_succ]
    have hat : (List.replicate k (-1 : Int) ++ List.replicate (Yi b - k) (0 : Int))[k]? = some 0 := by
      rw [List.getElem?_append_right (by simp), e]; simp
    simp only [Jr, hw, Int.toNat_natCast, List.length_replicate, show (k : Int) < (Yi b : Int) from by omega, if_true, Zo, hat, Bq, Qb (show k ≤ 1048576 by omega)]
    congr 3
    rw [e, List.set_append_right _ _ (by simp), List.length_replicate, Nat.sub_self, List.set_cons_zero, List.replicate_succ', List.append_assoc]
    rfl
  · rintro _ rfl
    simp only [Jr, hw, Int.toNat_natCast, List.length_replicate, Int.lt_irrefl, if_false, Nat.sub_self, List.replicate_zero, List.append_nil]
    have e0 : List.replicate (Yi b) (-1 : Int) = VG b 0 := by
      unfold VG
      rw [List.take_zero]
      apply List.ext_getElem?
      intro v
      rw [List.getElem?_replicate, List.getElem?_map]
      by_cases hv : v < Yi b
      · rw [if_pos hv, List.getElem?_range hv]; rfl
      · rw [if_neg hv, List.getElem?_eq_none (by simpa using hv)]; rfl
    rw [e0]
    suffices hq : ∃ r, Zl (fun v => XK b v.1 v.2.1) ((0 : Int), VG b 0, ()) = some (.inr r) ∧ ((∃ s, Ord (Yi b) (ins b) s ∧ s.2.length = Yi b ∧ r = (some (b, gates b, s.2, ()), true)) ∨ (¬ Logical (Yi b) (ins b) ∧ r = (none, false))) by
      obtain ⟨r, e, q⟩ := hq
      exact ⟨r, e, q⟩
    suffices hq : ∃ r', Zl (fun v => XK b v.1 v.2.1) ((0 : Int), VG b 0, ()) = some r' ∧ ∃ r, r' = .inr r ∧ ((∃ s, Ord (Yi b) (ins b) s ∧ s.2.length = Yi b ∧ r = (some (b, gates b, s.2, ()), true)) ∨ (¬ Logical (Yi b) (ins b) ∧ r = (none, false))) by
      obtain ⟨_, e, r, rfl, q⟩ := hq
      exact ⟨r, e, q⟩
    refine Qa (insts b).length (fun k v => v = ((k : Int), VG b k, ())) _ rfl ?_ ?_
    · rintro k _ hk rfl
      left
      refine ⟨_, ?_, rfl⟩
      have hx : (insts b)[k]? = some (insts b)[k] := List.getElem?_eq_getElem hk
      generalize (insts b)[k] = x at hx
      obtain ⟨c, hc⟩ := Zi7 h (List.mem_of_getElem? hx)
      obtain ⟨l0, l1, l2⟩ := last_at h (List.mem_of_getElem? hx)
      have hk14 : k ≤ 1048576 := by
        have : (insts b).length ≤ 14 := h14
        omega
      have hg : (VG b k)[(Yc x).toNat]? = some ((VG b k)[(Yc x).toNat]'(by rw [ZbC]; omega)) := List.getElem?_eq_getElem _
      simp only [XK, show (k : Int) < ((Zb.Instances (Zg.Design b)).length : Int) from by have : k < (Zb.Instances (Zg.Design b)).length := hk; omega, if_true, Zo, hx, Bq, Zoa hx hc, ← hc.kind, l0, Zbh l1 hg, Qb hk14, Zk6 h hx]
      split
      · rfl
      · rfl
    · rintro _ rfl
      have eg : VG b (insts b).length = gates b := by
        unfold VG gates gF
        rw [List.take_length]
      simp only [XK, Int.lt_irrefl, if_false, eg, V3, Int.toNat_natCast]
      rw [Zi (by omega), Zi (by omega), Zi (by omega), Zi (by omega)]
      suffices hq : ∃ r', Zl (fun v => Jq b (gates b) v.1 v.2.1) (([] : List Int), List.replicate (Yi b) false, ()) = some r' ∧ ∃ r, r' = .inr (.inr r) ∧ ((∃ s, Ord (Yi b) (ins b) s ∧ s.2.length = Yi b ∧ r = (some (b, gates b, s.2, ()), true)) ∨ (¬ Logical (Yi b) (ins b) ∧ r = (none, false))) by
        obtain ⟨_, e, r, rfl, q⟩ := hq
        refine ⟨_, ?_, r, rfl, q⟩
        rw [e]
      refine Zj2 (fun v => Ord (Yi b) (ins b) (v.2.1, v.1)) (fun v => Yi b - v.1.length) _ (Ord.start _ _) ?_
      rintro ⟨c0, l2', ⟨⟩⟩ hO
      simp only at hO
      simp only [Jq, V3, VI, Bq]
      have hfew := hO.few
      simp only at hfew
      by_cases q : (c0.length : Int) < (Yi b : Int)
      · rw [if_pos q]
        have := Znt h hO
        simp only at this
        rw [this]
        by_cases q2 : (VE (ins b) (l2', c0) (Yi b)).2.length = c0.length
        · rw [if_pos q2]
          refine .inr ⟨_, rfl, _, rfl, .inr ⟨?_, rfl⟩⟩
          rintro ⟨r, hr⟩
          have := progress (ZgL h 0) hr hO (by simp only; omega)
          simp only at this
          omega
        · rw [if_neg q2]
          refine .inl ⟨_, rfl, hO.pass (Nat.le_refl _), ?_⟩
          have := ZhI (ins b) (l2', c0) (Yi b) 0 (Nat.zero_le _)
          rw [ZiH] at this
          simp only at this ⊢
          omega
      · rw [if_neg q]
        exact .inr ⟨_, rfl, _, rfl, .inl ⟨(l2', c0), hO, by simp only; omega, rfl⟩⟩
theorem Zr2 {n : Nat} {c : Int} {L : List Int} (h : ZnS n c L) {u : Nat} (hu : u < n) : L[u]? = some ((L[u]?).getD 0) := by
  rw [List.getElem?_eq_getElem (by rw [h.1]; exact hu)]
  rfl
theorem ZoL {b : Zg} (h : VF b) {v i : Nat} {x : Zd} (hv : v < Yi b) (g : ZnZ b v i x) {c : Int} {s : List Int × Bool} (hL : ZnS (Yi b) c s.1) (hc : c ≤ 1048576) :
    Zl (fun w => Xz s.2 (v : Int) s.1 (inL x) w.1 w.2.1) ((0 : Int), (0 : Int), ()) = some (.inl ((ZmR (ins b) s v).2, ((v + 1 : Nat) : Int), (ZmR (ins b) s v).1, ())) := by
  have hn := QS h
  have hm := List.mem_of_getElem? g.at_
  obtain ⟨cc, hcc⟩ := Zi7 h hm
  have hil := Zib (x := x)
  have h5 := hcc.few
  have key := Xi (l := inL x) (fun k => (V5 s.1 (((inL x).take k).map Int.toNat), (k : Int), ())) (step := fun w => Xz s.2 (v : Int) s.1 (inL x) w.1 w.2.1) (good := .inl ((ZmR (ins b) s v).2, ((v + 1 : Nat) : Int), (ZmR (ins b) s v).1, ()))
    (fun k y hy hk => by
      have hyn := Zkn h hm (List.mem_of_getElem? hy)
      simp only [Xz, show (k : Int) < ((inL x).length : Int) from by omega, if_true, Zo, hy, Bq, Zbh hyn.1 (Zr2 hL (show y.toNat < Yi b by omega)), Qb (show k ≤ 1048576 by omega)]
      rw [Yo hy, List.map_append]
      unfold V5
      rw [List.foldl_append]
      rfl)
    (by
      have hat : atI s.1 (v : Int) = some ((s.1[v]?).getD 0) := by rw [Zo]; exact Zr2 hL hv
      simp only [Xz, Int.lt_irrefl, if_false, List.take_length, hat, Bq, Qb (show v ≤ 1048576 by omega)]
      have hm1 := ZiB s.1 ((inL x).map Int.toNat)
      have hm2 := Zlk s.1 ((inL x).map Int.toNat) c (by have := hL.2 0; omega) fun u _ => (hL.2 u).2
      rw [ZdP (by omega) (by omega)]
      unfold ZmR
      rw [Zb9 g]
      simp only
      by_cases q : (s.1[v]?).getD 0 = V5 s.1 ((inL x).map Int.toNat) + 1
      · rw [if_pos q, if_neg (fun z => z q)]
      · rw [if_neg q, if_pos q, Int.toNat_natCast])
  exact key
theorem Zl2 {b : Zg} (h : VF b) (r : Nat) (hr : r ≤ 31) {L : List Int} (hL : ZnS (Yi b) ((r * Yi b : Nat) : Int) L) :
    Zl (fun v => Qf b (r : Int) v.1 v.2.1 v.2.2.1) (false, (0 : Int), L, ()) = some (if (Jt (ins b) L (Yi b)).2 = true then .inl (((r + 1 : Nat) : Int), (Jt (ins b) L (Yi b)).1, ()) else .inr ((Jt (ins b) L (Yi b)).1, true)) := by
  have hn := QS h
  have hrn : r * Yi b ≤ 31 * 30 := Nat.mul_le_mul hr hn
  refine YS (Yi b) (fun k v => v = ((Jt (ins b) L k).2, (k : Int), (Jt (ins b) L k).1, ())) _ rfl ?_ ?_
  · rintro k _ hk rfl
    left
    refine ⟨_, ?_, rfl⟩
    have hLk := hL.pass (ins := ins b) (k := k) (by omega)
    rw [Zas]
    generalize Jt (ins b) L k = t at hLk
    simp only [Qf, show (k : Int) < ((Zb.Yb (Zg.Design b)).length : Int) from by show (k : Int) < (Yi b : Int); omega, if_true, ZgP h hk, Bq]
    rcases Zb4 h k with q | ⟨i, x, g⟩
    · rw [q, if_pos (by omega), Qb (by omega)]
      unfold ZmR
      rw [Zdr q]
    · rw [g.gF, if_neg (by omega), Zhi h g.at_, Bq, ZoL h hk g hLk (by omega)]
  · rintro _ rfl
    simp only [Qf, show ¬ (Yi b : Int) < ((Zb.Yb (Zg.Design b)).length : Int) from by show ¬ (Yi b : Int) < (Yi b : Int); omega, if_false, Qb (show r ≤ 1048576 by omega)]
    split
    · rfl
    · rfl
theorem Zlf {b : Zg} (h : VF b) : ∃ L, ZaQ b = some (L, tr (Logical (Yi b) (ins b))) := by
  have hn := QS h
  unfold ZaQ
  rw [show (Zb.Yb (Zg.Design b)).length = Yi b from rfl, Zi (by omega), Zi (by omega), Zi (by omega), Zi (by omega), Int.toNat_natCast]
  suffices hq : ∃ r, Zl (fun v => Qg b v.1 v.2.1) ((0 : Int), List.replicate (Yi b) (0 : Int), ()) = some r ∧ ∃ L, r = (L, tr (Logical (Yi b) (ins b))) by
    obtain ⟨_, e, L, rfl⟩ := hq
    exact ⟨L, e⟩
  refine Qa (Yi b + 1) (fun k v => v = ((k : Int), VL (ins b) (Yi b) k, ()) ∧ ∀ j, j < k → (Jt (ins b) (VL (ins b) (Yi b) j) (Yi b)).2 = true) _ ⟨rfl, fun j hj => by omega⟩ ?_ ?_
  · rintro k _ hk ⟨rfl, hch⟩
    have hL := ZjP (ins b) (Yi b) k
    simp only [Qg, show (k : Int) ≤ ((Zb.Yb (Zg.Design b)).length : Int) from by show (k : Int) ≤ (Yi b : Int); omega, if_true]
    rw [Zl2 h k (by omega) hL]
    cases q : (Jt (ins b) (VL (ins b) (Yi b) k) (Yi b)).2 with
    | true =>
      refine .inl ⟨_, rfl, rfl, fun j hj => ?_⟩
      by_cases e : j = k
      · subst e; exact q
      · exact hch j (by omega)
    | false =>
      exact .inr ⟨_, rfl, _, congrArg (Prod.mk _) (Z5 (p := Logical (Yi b) (ins b)) ⟨_, Zpa q fun u => (hL.2 u).1⟩).symm⟩
  · rintro _ ⟨rfl, hch⟩
    simp only [Qg]
    rw [if_neg (by show ¬ ((Yi b + 1 : Nat) : Int) ≤ (Yi b : Int); omega)]
    refine ⟨_, rfl, [], ?_⟩
    rw [ZR]
    rintro ⟨r, hr⟩
    obtain ⟨r0, _, hc⟩ := ZiD h
    rcases hc with ⟨s, hs, hsn, _⟩ | ⟨hno, _⟩
    · obtain ⟨_, r2, hr2, hb⟩ := hs.rank hsn
      have := ZnE hr2 (ZgL h 0) fun v hv => (hb v hv).1
      rw [hch (Yi b) (by omega)] at this
      cases this
    · exact hno ⟨r, hr⟩
theorem ZkT (b : Zg) (hb : sm YG b) : ZaO b = some (tr (Za6 b ∧ Logical (Yi b) (ins b))) := by
  unfold ZaO
  rw [ZeA b hb, Bq]
  by_cases q : Za6 b
  · obtain ⟨L, e⟩ := Zlf ⟨q, hb⟩
    rw [if_pos (Z5 q), e, Bq]
    congr 1
    exact Xu ⟨fun z => ⟨q, z⟩, fun z => z.2⟩
  · rw [if_neg (fun z => q ((YK _).1 z)), ZR (fun z => q z.1)]
noncomputable def Zgn (b : Zg) : Int := if tr (Za6 b) = true then (if tr (Logical (Yi b) (ins b)) = true then 0 else 7) else 1
theorem ZjL (b : Zg) (hb : sm YG b) : Za2 b = some (Zgn b) := by
  unfold Za2 Zgn
  rw [ZeA b hb, Bq, ZkT b hb, Bq]
  by_cases q : Za6 b
  · rw [if_pos (Z5 q), if_pos (Z5 q)]
    by_cases q2 : Logical (Yi b) (ins b)
    · rw [if_pos (Z5 ⟨q, q2⟩), if_pos (Z5 q2)]
    · rw [if_neg (fun z => q2 ((YK _).1 z).2), if_neg (fun z => q2 ((YK _).1 z))]
  · rw [if_neg (fun z => q ((YK _).1 z)), if_neg (fun z => q ((YK _).1 z))]
theorem ZjM {b : Zg} : Zgn b = 0 ↔ Za6 b ∧ Logical (Yi b) (ins b) := by
  unfold Zgn
  by_cases q : Za6 b
  · rw [if_pos (Z5 q)]
    by_cases q2 : Logical (Yi b) (ins b)
    · rw [if_pos (Z5 q2)]; exact ⟨fun _ => ⟨q, q2⟩, fun _ => rfl⟩
    · rw [if_neg (fun z => q2 ((YK _).1 z))]; exact ⟨fun z => absurd z (by omega), fun z => absurd z.2 q2⟩
  · rw [if_neg (fun z => q ((YK _).1 z))]; exact ⟨fun z => absurd z (by omega), fun z => absurd z.1 q⟩
structure Lgc (b : Zg) (s : List Bool × List Int) : Prop where
  blk : VF b
  ord : Ord (Yi b) (ins b) s
  all : s.2.length = Yi b
theorem Zns (b : Zg) (hb : sm YG b) (nets : List Int) (hl : nets.length ≤ 1048576) :
    (Zgn b ≠ 0 ∧ Q0 b nets = some (none, Zgn b)) ∨ ∃ s, Lgc b s ∧ Zgn b = 0 ∧ (Zcu nets 0 ((Yi b : Int) - 1) ∧ Q0 b nets = some (some (b, gates b, s.2, ()), 0) ∨ ¬ Zcu nets 0 ((Yi b : Int) - 1) ∧ Q0 b nets = some (none, 2)) := by
  unfold Q0
  rw [Zh6 b hb, Bq]
  by_cases q : Za6 b
  · rw [if_pos (Z5 q)]
    have h : VF b := ⟨q, hb⟩
    have hn := QS h
    obtain ⟨r, e, hc⟩ := ZiD h
    rw [e, Bq]
    rcases hc with ⟨s, hs, hsn, rfl⟩ | ⟨hno, rfl⟩
    · right
      refine ⟨s, ⟨h, hs, hsn⟩, ZjM.2 ⟨q, ?_⟩, ?_⟩
      · obtain ⟨_, r, hr, _⟩ := hs.rank hsn
        exact ⟨r, hr⟩
      · simp only [if_true, Bq]
        rw [show Yq (YH.gate (b, gates b, s.2, ())) = some ((gates b).length : Int) from rfl, Bq, V3, ZdP (by omega) (by omega), Zb1 _ _ _ hl, Bq]
        by_cases q2 : Zcu nets 0 ((Yi b : Int) - 1)
        · exact .inl ⟨q2, by rw [if_pos (Z5 q2)]⟩
        · exact .inr ⟨q2, by rw [if_neg (fun z => q2 ((YK _).1 z))]⟩
    · left
      have e2 : Zgn b = 7 := by
        unfold Zgn
        rw [if_pos (Z5 q), if_neg (fun z => hno ((YK _).1 z))]
      rw [e2]
      exact ⟨by omega, rfl⟩
  · left
    have e2 : Zgn b = 1 := by
      unfold Zgn
      rw [if_neg (fun z => q ((YK _).1 z))]
    rw [if_neg (fun z => q ((YK _).1 z)), e2]
    exact ⟨by omega, rfl⟩
/-
  Plain laws: sources, assignments, chances.
-/
def srcs (b : Zg) : List Int := cat ZjQ 0 ((gates b).map fun g => decide (g < 0))
theorem Zm5 (b : Zg) : (srcs b).Pairwise (· < ·) := (ZjN _ 0).1
theorem Zm6 (b : Zg) : (srcs b).length ≤ Yi b := by
  have := ZhJ ((gates b).map fun g => decide (g < 0)) 0
  rw [List.length_map, V3] at this
  exact this
theorem Zp1 {b : Zg} (h : VF b) {x : Int} : x ∈ srcs b ↔ ∃ v : Nat, x = (v : Int) ∧ v < Yi b ∧ ins b v = none := by
  unfold srcs
  rw [mem_listed]
  constructor
  · rintro ⟨k, hk, e⟩
    rw [List.getElem?_map] at hk
    have hkn : k < Yi b := by
      by_cases q : k < Yi b
      · exact q
      · rw [List.getElem?_eq_none (by rw [V3]; omega)] at hk; cases hk
    rw [Zdl b hkn] at hk
    simp only [Option.map_some, Option.some.injEq, decide_eq_true_eq] at hk
    refine ⟨k, by rw [e]; congr 1; omega, hkn, ?_⟩
    rcases Zb4 h k with q | ⟨i, y, g⟩
    · exact Zdr q
    · rw [g.gF] at hk; omega
  · rintro ⟨v, e, hv, hi⟩
    refine ⟨v, ?_, by rw [e]; congr 1; omega⟩
    rw [List.getElem?_map, Zdl b hv]
    simp only [Option.map_some, Option.some.injEq, decide_eq_true_eq]
    rcases Zb4 h v with q | ⟨i, y, g⟩
    · omega
    · rw [Zb9 g] at hi; cases hi
theorem ZiS {b : Zg} (h : VF b) {ρ : Type} {step : List Int × Int × Unit → Option ((List Int × Int × Unit) ⊕ ρ)} {good : ρ}
    (hs : ∀ (k : Nat) (out : List Int), k < Yi b → step (out, (k : Int), ()) = if gF b k < 0 then (Zu ((out.length + [(k : Int)].length) * 8 ≤ 140737488355328) (some (.inl (out ++ [(k : Int)], ((k + 1 : Nat) : Int), ())))) else some (.inl (out, ((k + 1 : Nat) : Int), ())))
    (hx : step (srcs b, (Yi b : Int), ()) = some (.inr good)) : Zl step (([] : List Int), (0 : Int), ()) = some good := by
  have hn := QS h
  refine Vj (l := (gates b).map fun g => decide (g < 0)) ZjQ [] (fun k x hk hkl => ?_) ?_
  · rw [List.length_map, V3] at hkl
    rw [List.getElem?_map, Zdl b hkl] at hk
    simp only [Option.map_some, Option.some.injEq] at hk
    subst hk
    have hl := ZhJ (((gates b).map fun g => decide (g < 0)).take k) 0
    rw [List.length_take] at hl
    rw [List.nil_append, hs k _ hkl]
    unfold ZjQ at *
    by_cases q : gF b k < 0
    · rw [if_pos q, Zi (by simp only [List.length_cons, List.length_nil]; omega), if_pos (decide_eq_true q)]
    · rw [if_neg q, if_neg (by simpa using q), List.append_nil]
  · rw [List.length_map, V3, List.nil_append]
    exact hx
theorem Zes {b : Zg} (h : VF b) (ord : List Int) : X5 (b, gates b, ord, ()) = some (srcs b) := by
  have hn := QS h
  unfold X5
  have e : YH.gate (b, gates b, ord, ()) = gates b := rfl
  refine ZiS h (fun k out hk => ?_) ?_
  · simp only [Qm, e, V3, show (k : Int) < (Yi b : Int) from by omega, if_true, Zo, Zdl b hk, Bq, Qb (show k ≤ 1048576 by omega)]
  · simp only [Qm, e, V3, Int.lt_irrefl, if_false]
theorem Zf6 {b : Zg} (h : VF b) : Ve b = some (srcs b) := by
  have hn := QS h
  unfold Ve
  refine ZiS h (fun k out hk => ?_) ?_
  · simp only [Vf, show (k : Int) < ((Zb.Yb (Zg.Design b)).length : Int) from by show (k : Int) < (Yi b : Int); omega, if_true, ZgP h hk, Bq, Qb (show k ≤ 1048576 by omega)]
  · simp only [Vf, show ¬ (Yi b : Int) < ((Zb.Yb (Zg.Design b)).length : Int) from by show ¬ (Yi b : Int) < (Yi b : Int); omega, if_false]
theorem ZoA (a b : Int) (h1 : 0 ≤ a) : Int.gcd b (a.tmod b) = Int.gcd a b := by
  rw [Int.tmod_eq_emod_of_nonneg h1, Int.gcd_comm, Int.emod_def]
  simp
theorem Zk7 {step : Int × Int × Unit → Option ((Int × Int × Unit) ⊕ Int)} (hs : ∀ a b, step (a, b, ()) = if b = 0 then some (.inr a) else Zu (b ≠ 0) (some (.inl (b, Int.tmod a b, ())))) {a b : Int} (h1 : 0 ≤ a) (h2 : 0 ≤ b) : Zl step (a, b, ()) = some (Int.gcd a b : Int) := by
  refine Zmk (fun v => 0 ≤ v.1 ∧ 0 ≤ v.2.1 ∧ Int.gcd v.1 v.2.1 = Int.gcd a b) (fun v => v.2.1.toNat) _ ⟨h1, h2, rfl⟩ ?_
  rintro ⟨x, y, ⟨⟩⟩ ⟨g1, g2, g3⟩
  simp only at g1 g2 g3
  rw [hs]
  split
  · rename_i hs
    subst hs
    right
    rw [← g3, Int.gcd_zero_right]
    congr 2; omega
  · rename_i hs
    rw [Zi hs]
    have b1 := Int.tmod_nonneg y g1
    have b2 := Int.tmod_lt_of_pos x (show 0 < y by omega)
    exact .inl ⟨_, rfl, ⟨g2, b1, by rw [← g3]; exact ZoA x y g1⟩, by dsimp only; omega⟩
theorem Zla {a b : Int} (h1 : 0 ≤ a) (h2 : 0 ≤ b) : Zkl a b = some (Int.gcd a b : Int) := Zk7 (fun a b => rfl) h1 h2
theorem ZiV {a b : Int} (h1 : 0 ≤ a) (h2 : 0 ≤ b) : ZfI a b = some (Int.gcd a b : Int) := Zk7 (fun a b => rfl) h1 h2
def ZkS (f : ZB) : Prop := (1 ≤ ZB.Den f ∧ ZB.Den f ≤ 1000000) ∧ (0 ≤ ZB.Num f ∧ ZB.Num f ≤ ZB.Den f) ∧ Int.gcd (ZB.Num f) (ZB.Den f) = 1
theorem Zf3 (f : ZB) : JW f = some (tr (ZkS f)) := by
  unfold JW
  refine YC (Vh _ _ _) (fun q1 => YC (Vh _ _ _) (fun q2 => ?_))
  rw [Zla q2.1 (by omega), Bq]
  exact Zbd (by rw [decide_eq_true_eq]; omega)
theorem Zgy (f : ZB) : Zad f = some (tr (ZkS f)) := by
  unfold Zad
  refine YC (Qx _ _ _) (fun q1 => YC (Qx _ _ _) (fun q2 => ?_))
  rw [ZiV (by omega) q2.1, Bq, Int.gcd_comm]
  exact Zbd (by rw [decide_eq_true_eq]; omega)
def ZlI (a : Zk) : Prop := ZkS (Zk.High a) ∧ ZB.Den (Zk.High a) ≤ 10 ∧ (0 ≤ Zk.ZcR a ∧ Zk.ZcR a ≤ 1000)
theorem Zdp (a : Zk) : Yj a = some (!tr (ZlI a)) := by
  unfold Yj
  rw [Zf3, Bq]
  by_cases q : ZkS (Zk.High a)
  · rw [if_pos (Z5 q)]
    by_cases q2 : (10 : Int) < ZB.Den (Zk.High a)
    · rw [if_pos q2, ZR (fun z => by have := z.2.1; omega)]; rfl
    · rw [if_neg q2, Vh, Bq]
      congr 2
      exact Xu ⟨fun z => ⟨q, by omega, z⟩, fun z => z.2.2⟩
  · rw [if_neg (fun z => q ((YK _).1 z)), ZR (fun z => q z.1)]; rfl
def ZgC (b : Zg) (list : List Zk) : Prop := list.length = (srcs b).length ∧ ∀ a ∈ list, ZlI a
theorem ZeY {b : Zg} (h : VF b) (ord : List Int) (list : List Zk) (hl : list.length ≤ 1048576) : XC (b, gates b, ord, ()) list = some (tr (ZgC b list)) := by
  unfold XC
  rw [Zes h, Bq]
  refine Za8 (Y0 (Q := ∀ a ∈ list, ZlI a) (fun q => ?_)) ?_
  · rw [Ym (by unfold Len; omega) (fun a => !tr (ZlI a)) (fun a _ => Zdp a), Bq]
    refine Zbd ?_
    rw [Bool.not_eq_true', List.any_eq_false]
    constructor
    · intro hh a ha
      have := hh a ha
      simp only [Bool.not_eq_true', Bool.not_eq_false] at this
      exact (YK _).1 this
    · intro hh a ha
      simp [Z5 (hh a ha)]
  · unfold ZgC
    rw [show (list.length : Int) = ((srcs b).length : Int) ↔ list.length = (srcs b).length from by omega]
theorem Ze2 (b : Zg) (hb : sm YG b) (list : List Zk) (hl : list.length ≤ 1048576) : Vx b list = some (tr (Zgn b = 0 ∧ ZgC b list)) := by
  unfold Vx
  rw [ZjL b hb, Bq]
  by_cases q : Zgn b = 0
  · have h : VF b := ⟨(ZjM.1 q).1, hb⟩
    rw [if_pos q, Zf6 h, Bq]
    refine Za8 (Y0 (Q := ∀ a ∈ list, ZlI a) (fun q2 => ?_)) ?_
    · rw [Qz (l := list) (show Len list by unfold Len; omega) (fun _ a => ZlI a) (bad := false) (good := true)
        (fun k a ha hk _ => by
          simp only [QA, show (k : Int) < (list.length : Int) from by omega, if_true, Zo, ha, Bq, Zgy]
          by_cases q1 : ZkS (Zk.High a)
          · rw [if_pos (Z5 q1)]
            by_cases q2 : (10 : Int) < ZB.Den (Zk.High a)
            · rw [if_pos q2]
              exact ⟨fun z => by have := z.2.1; omega, fun _ => rfl⟩
            · rw [if_neg q2, Qx, Bq]
              constructor
              · intro z; rw [if_pos (Z5 z.2.2)]
              · intro z; rw [if_neg (fun w => z ⟨q1, by omega, (YK _).1 w⟩)]
          · rw [if_neg (fun z => q1 ((YK _).1 z))]
            exact ⟨fun z => absurd z.1 q1, fun _ => rfl⟩)
        (fun _ => by simp only [QA, Int.lt_irrefl, if_false]), ZiO]
      exact congrArg some (Xu Ja)
    · unfold ZgC
      rw [show (list.length : Int) = ((srcs b).length : Int) ↔ list.length = (srcs b).length from by omega]
      exact ⟨fun z => ⟨q, z⟩, fun z => z.2⟩
  · rw [if_neg q, ZR (fun z => q z.1)]
theorem Zig (x y : Int) : keq (.int .i64) x y = decide (x = y) := by
  by_cases h : x = y
  · subst h; simp [keq]
  · simp [keq, h]
theorem ZmU {v : Ty} (x : Int) (y : v.den) : ∀ m : List (Int × v.den), ZhK (.int .i64) v (ZkQ (.int .i64) v m x y) x = some y
  | [] => by simp [ZkQ, ZhK, Zig]
  | d :: m => by
    unfold ZkQ
    split
    · simp [ZhK, Zig]
    · rename_i h
      unfold ZhK
      rw [if_neg h, ZmU x y m]
theorem Zlj {v : Ty} {x x' : Int} (hx : x' ≠ x) (y : v.den) : ∀ m : List (Int × v.den), ZhK (.int .i64) v (ZkQ (.int .i64) v m x y) x' = ZhK (.int .i64) v m x'
  | [] => by simp [ZkQ, ZhK, Zig, hx]
  | d :: m => by
    unfold ZkQ
    split
    · rename_i h
      rw [Zig, decide_eq_true_eq] at h
      simp only [ZhK, Zig]
      rw [← h, if_neg (by simpa using hx), if_neg (by simpa using hx)]
    · unfold ZhK
      rw [Zlj hx y m]
def ZpN {v : Ty} (keys : List Int) (vals : List v.den) : Nat → List (Int × v.den)
  | 0 => []
  | k + 1 => match keys[k]?, vals[k]? with
    | some x, some y => ZkQ (.int .i64) v (ZpN keys vals k) x y
    | _, _ => ZpN keys vals k
theorem ZmJ {v : Ty} {keys : List Int} {vals : List v.den} (hk : keys.Pairwise (· < ·)) (hl : vals.length = keys.length) : ∀ (k : Nat), k ≤ keys.length → ∀ (j : Nat) (x : Int), keys[j]? = some x → ZhK (.int .i64) v (ZpN keys vals k) x = if j < k then vals[j]? else none
  | 0, _, j, x, hx => by rw [if_neg (by omega)]; rfl
  | k + 1, hkl, j, x, hx => by
    have hx2 : keys[k]? = some keys[k] := List.getElem?_eq_getElem (by omega)
    have hy2 : vals[k]? = some vals[k] := List.getElem?_eq_getElem (by omega)
    unfold ZpN
    rw [hx2, hy2]
    simp only
    have hj := (List.getElem?_eq_some_iff.1 hx)
    by_cases q : j = k
    · subst q
      rw [hx2] at hx
      injection hx with hx
      rw [← hx, ZmU, if_pos (by omega), hy2]
    · have hne : x ≠ keys[k] := by
        obtain ⟨hj1, hj2⟩ := hj
        rw [← hj2]
        rcases Nat.lt_or_gt_of_ne q with w | w
        · have := List.pairwise_iff_getElem.1 hk j k hj1 (by omega) w; omega
        · have := List.pairwise_iff_getElem.1 hk k j (by omega) hj1 w; omega
      rw [Zlj hne, ZmJ hk hl k (by omega) j x hx]
      by_cases w : j < k
      · rw [if_pos w, if_pos (by omega)]
      · rw [if_neg w, if_neg (by omega)]
theorem ZAm {v : Ty} {keys : List Int} {vals : List v.den} {x : Int} (hx : x ∉ keys) : ∀ k, ZhK (.int .i64) v (ZpN keys vals k) x = none
  | 0 => rfl
  | k + 1 => by
    unfold ZpN
    split
    · rename_i y z h1 h2
      rw [Zlj (fun e => hx (by rw [e]; exact List.mem_of_getElem? h1)), ZAm hx k]
    · exact ZAm hx k
theorem Zr1 {keys : List Int} (hk : keys.Pairwise (· < ·)) {j : Nat} {x : Int} (hx : keys[j]? = some x) : Xd (fun y => decide (y = x)) keys = (j : Int) :=
  Zep hx (by simp) fun i y hi hy => by
    obtain ⟨h1, h2⟩ := List.getElem?_eq_some_iff.1 hx
    obtain ⟨h3, h4⟩ := List.getElem?_eq_some_iff.1 hy
    have := List.pairwise_iff_getElem.1 hk i j h3 h1 hi
    simp only [decide_eq_false_iff_not]
    omega
theorem ZoJ (l : List Int) (x : Int) (hl : l.length ≤ 1048576) : ZdL l x = some (Xd (fun y => decide (y = x)) l) := by
  unfold ZdL
  refine Vv (out := fun i => i) (show Len l by unfold Len; omega) (fun k y hy => ?_) ?_
  · have hk := (List.getElem?_eq_some_iff.1 hy).1
    simp only [ZaB, show (k : Int) < (l.length : Int) from by omega, if_true, Zo, hy, Bq, decide_eq_true_eq]
    split <;> rfl
  · simp only [ZaB, Int.lt_irrefl, if_false]
def Zus : Zk := (((0 : Int), (0 : Int), ()), (0 : Int), ())
def ZkY (b : Zg) (list : List Zk) (x : Int) : Zk := (list[(Xd (fun y => decide (y = x)) (srcs b)).toNat]?).getD Zus
abbrev chm (b : Zg) (list : List Zk) : List (Int × ZB × Int × Unit) := ZpN (v := ZE) (srcs b) list (srcs b).length
abbrev chn (b : Zg) (s : List Bool × List Int) (list : List Zk) : Vi := ((b, gates b, s.2, ()), chm b list, ())
theorem Zmp {b : Zg} {list : List Zk} (ha : ZgC b list) {x : Int} (hx : x ∈ srcs b) : ∃ j : Nat, (srcs b)[j]? = some x ∧ list[j]? = some (ZkY b list x) ∧ ZlI (ZkY b list x) ∧ Xd (fun y => decide (y = x)) (srcs b) = (j : Int) := by
  obtain ⟨j, hj⟩ := List.mem_iff_getElem?.1 hx
  have hl := (List.getElem?_eq_some_iff.1 hj).1
  have e := Zr1 (Zm5 b) hj
  have h2 : list[j]? = some (list[j]'(by rw [ha.1]; exact hl)) := List.getElem?_eq_getElem _
  have h3 : ZkY b list x = list[j]'(by rw [ha.1]; exact hl) := by
    unfold ZkY
    rw [e, Int.toNat_natCast, h2]
    rfl
  exact ⟨j, hj, by rw [h3]; exact h2, by rw [h3]; exact ha.2 _ (List.getElem_mem _), e⟩
theorem ZpP {b : Zg} (h : VF b) {list : List Zk} (ha : ZgC b list) {x : Int} (hx : x ∈ srcs b) : ZeS b list x = some (ZkY b list x) := by
  have hn := QS h
  have hs := Zm6 b
  obtain ⟨j, h1, h2, _, h4⟩ := Zmp ha hx
  unfold ZeS
  rw [Zf6 h, Bq, ZoJ _ _ (by omega), Bq, h4, Zo, h2]
  rfl
theorem ZqB {b : Zg} {list : List Zk} (ha : ZgC b list) {x : Int} (hx : x ∈ srcs b) : ZhK (.int .i64) ZE (chm b list) x = some (ZkY b list x) := by
  obtain ⟨j, h1, h2, _, _⟩ := Zmp ha hx
  have hl := (List.getElem?_eq_some_iff.1 h1).1
  rw [ZmJ (v := ZE) (Zm5 b) ha.1 _ (Nat.le_refl _) j x h1, if_pos hl, h2]
theorem Zk1 {b : Zg} {s : List Bool × List Int} (h : Lgc b s) (list : List Zk) (hl : list.length ≤ 1048576) {nets : List Int} (he : Q0 b nets = some (some (b, gates b, s.2, ()), 0)) :
    XE b list nets = some (if tr (ZgC b list) = true then (some (chn b s list), 0) else (none, 5)) := by
  have hn := QS h.blk
  have hs := Zm6 b
  unfold XE
  rw [he, Bq, if_pos rfl, Bq, ZeY h.blk _ _ hl, Bq]
  by_cases q : ZgC b list
  · rw [if_pos (Z5 q), if_pos (Z5 q), Zes h.blk, Bq]
    refine Xi (l := srcs b) (fun k => ((k : Int), ZpN (v := ZE) (srcs b) list k, ())) (fun k x hx hk => ?_) ?_
    · have hy : list[k]? = some (list[k]'(by rw [q.1]; exact hk)) := List.getElem?_eq_getElem _
      simp only [VH, show (k : Int) < ((srcs b).length : Int) from by omega, if_true, Zo, hx, hy, Bq, Qb (show k ≤ 1048576 by omega)]
      have e : ZpN (v := ZE) (srcs b) list (k + 1) = ZkQ (.int .i64) ZE (ZpN (v := ZE) (srcs b) list k) x (list[k]'(by rw [q.1]; exact hk)) := by
        conv => lhs; unfold ZpN
        rw [hx, hy]
      rw [e]
      rfl
    · simp only [VH, Int.lt_irrefl, if_false]
  · rw [if_neg (fun z => q ((YK _).1 z)), if_neg (fun z => q ((YK _).1 z))]
theorem sml {l : List Zk} (hl : sm (.sl ZE) l) : l.length ≤ 1048576 := Zv hl
theorem ZlO (b : Zg) (hb : sm YG b) (list : List Zk) (hl : list.length ≤ 1048576) (net : Int) :
    (∃ c, c ≠ 0 ∧ XE b list [net] = some (none, c) ∧ Za3 b list net = some c) ∨
    ∃ s, Lgc b s ∧ ZgC b list ∧ (0 ≤ net ∧ net < (Yi b : Int)) ∧ XE b list [net] = some (some (chn b s list), 0) ∧ Za3 b list net = some 0 := by
  unfold Za3 ZbT
  rw [ZjL b hb, Bq, Ze2 b hb list hl]
  rcases Zns b hb [net] (by simp) with ⟨q, e⟩ | ⟨s, hs, q, hc⟩
  · left
    refine ⟨Zgn b, q, ?_, ?_⟩
    · unfold XE
      rw [e, Bq, if_neg q]
    · rw [if_neg q, Bq, if_neg q]
  · have hn := QS hs.blk
    have hin : Zcu [net] 0 ((Yi b : Int) - 1) ↔ 0 ≤ net ∧ net ≤ (Yi b : Int) - 1 := by simp [Zcu]
    rw [if_pos q, show (Zb.Yb (Zg.Design b)).length = Yi b from rfl, ZdP (by omega) (by omega), Qx, Bq]
    rcases hc with ⟨w, e⟩ | ⟨w, e⟩
    · have w2 := hin.1 w
      rw [if_pos (Z5 w2), Bq, if_pos rfl, Bq]
      have ec := Zk1 hs list hl e
      by_cases z : ZgC b list
      · right
        refine ⟨s, hs, z, ⟨w2.1, by omega⟩, by rw [ec, if_pos (Z5 z)], by rw [if_pos (Z5 ⟨q, z⟩)]⟩
      · left
        exact ⟨5, by omega, by rw [ec, if_neg (fun x => z ((YK _).1 x))], by rw [if_neg (fun x => z ((YK _).1 x).2)]⟩
    · left
      have w2 : ¬ (0 ≤ net ∧ net ≤ (Yi b : Int) - 1) := fun x => w (hin.2 x)
      refine ⟨2, by omega, ?_, ?_⟩
      · unfold XE
        rw [e, Bq, if_neg (by decide)]
      · rw [if_neg (fun x => w2 ((YK _).1 x)), Bq, if_neg (by decide)]
theorem Zpf {n : Nat} {ins : Nat → Option (List Nat)} (hb : InB n ins) {v : Nat} (hv : v < n) (h : ins v = none) : ZhP n ins v = [(v : Int)] :=
  ZlZ (Zm9 n ins v) (by simp) fun x => by
    rw [ZeK hb hv]
    constructor
    · rintro ⟨s, e, hs⟩
      rw [(ZkI h).1 hs] at e
      simp [e]
    · intro hx
      exact ⟨v, by simpa using hx, .base h⟩
theorem Zpg {b : Zg} (h : VF b) {v : Nat} (hv : v < Yi b) {x : Int} (hx : x ∈ ZhP (Yi b) (ins b) v) : x ∈ srcs b := by
  obtain ⟨s, e, hs⟩ := (ZeK (ZgL h 0) hv).1 hx
  exact (Zp1 h).2 ⟨s, e, Zqs (ZgL h 0) hs hv, Zsb hs⟩
theorem Zms {l : List Nat} {F : Nat → List Int} {x : Int} {m : Nat} : x ∈ cat (fun _ u => F u) m l ↔ ∃ u ∈ l, x ∈ F u := by
  rw [ZdB]
  constructor
  · rintro ⟨k, u, hu, hx⟩
    exact ⟨u, List.mem_of_getElem? hu, hx⟩
  · rintro ⟨u, hu, hx⟩
    obtain ⟨k, hk⟩ := List.mem_iff_getElem?.1 hu
    exact ⟨k, u, hk, hx⟩
theorem ZoC {b : Zg} (h : VF b) {x : Zd} (hx : x ∈ insts b) {k : Nat} {y : Int} (hy : (inL x)[k]? = some y) : ∃ u : Nat, y = (u : Int) ∧ u < Yi b ∧ ((inL x).map Int.toNat)[k]? = some u := by
  have hyn := Zkn h hx (List.mem_of_getElem? hy)
  refine ⟨y.toNat, by omega, by omega, ?_⟩
  rw [List.getElem?_map, hy]
  rfl
theorem Zjb {b : Zg} (h : VF b) {v i : Nat} {x : Zd} (hv : v < Yi b) (g : ZnZ b v i x) (ord : List Int) : Vu (b, gates b, ord, ()) (v : Int) = some (inL x) := by
  obtain ⟨c, hc⟩ := Zi7 h (List.mem_of_getElem? g.at_)
  obtain ⟨e1, e2, e3⟩ := ZmD hc.two hc.few
  unfold Vu
  rw [show YH.gate (b, gates b, ord, ()) = gates b from rfl, Zo, Zdl b hv, Bq, g.gF, Zo, show Zb.Instances (Zg.Design (YH.Block (b, gates b, ord, ()))) = insts b from rfl, g.at_, Bq, Zi e2, Zi e3, e1]
theorem Zmi {b : Zg} {s : List Bool × List Int} (h : Lgc b s) : ∃ out, Qv (b, gates b, s.2, ()) = some out ∧ out.length = Yi b ∧ ∀ v, v < Yi b → out[v]? = some (ZhP (Yi b) (ins b) v) := by
  have hn := QS h.blk
  have hB := ZgL h.blk 0
  obtain ⟨hall, r, hr, _⟩ := h.ord.rank h.all
  have hne : ∀ v l, v < Yi b → ins b v = some l → l ≠ [] := fun v l hv hi => by
    rcases Zb4 h.blk v with q | ⟨i, x, g⟩
    · rw [Zdr q] at hi; cases hi
    · rw [Zb9 g] at hi
      injection hi with hi
      obtain ⟨c, hc⟩ := Zi7 h.blk (List.mem_of_getElem? g.at_)
      have h2 := hc.two
      have := Zib (x := x)
      rw [← hi]
      intro e
      have := congrArg List.length e
      rw [List.length_map, List.length_nil] at this
      omega
  unfold Qv
  rw [show YH.gate (b, gates b, s.2, ()) = gates b from rfl, V3, Zi (by omega), Zi (by omega), Zi (by omega), Zi (by omega), Int.toNat_natCast]
  obtain ⟨out, e, h1, h2⟩ := along h.ord (α := List Int) (fun o k => (k, o, ())) (fun v => ZhP (Yi b) (ins b) v) (step := fun v => Xm (b, gates b, s.2, ()) v.1 v.2.1) (good := fun o => o) (z := List.replicate (Yi b) []) (by simp) (by omega)
    (fun k v out hk hkl hkm hv ho hin => by
      have hord : YH.order (b, gates b, s.2, ()) = s.2 := rfl
      have hgate : YH.gate (b, gates b, s.2, ()) = gates b := rfl
      have hov : out[v]? = some (out[v]'(by omega)) := List.getElem?_eq_getElem _
      simp only [Xm, hord, hgate, show (k : Int) < (s.2.length : Int) from by omega, if_true, Zo, hk, Bq, Zdl b hv, hov, Qb hkm, Int.toNat_natCast]
      rcases Zb4 h.blk v with q | ⟨i, x, g⟩
      · rw [q, if_pos (by omega), Zpf hB hv (Zdr q)]
      · have hx := List.mem_of_getElem? g.at_
        obtain ⟨c, hc⟩ := Zi7 h.blk hx
        have h5 := hc.few
        have hil := Zib (x := x)
        rw [g.gF, if_neg (by omega), Zjb h.blk hv g, Bq]
        have hi := Zb9 g
        have hsl : ∀ k, (cat (fun _ u => ZhP (Yi b) (ins b) u) 0 (((inL x).map Int.toNat).take k)).length ≤ 150 := fun k => by
          refine Nat.le_trans (ZcU (c := 30) (fun _ u _ => by have := ZhQ (Yi b) (ins b) u; omega)) ?_
          rw [List.length_take, List.length_map]
          omega
        have := Xi (l := inL x) (fun j => (cat (fun _ u => ZhP (Yi b) (ins b) u) 0 (((inL x).map Int.toNat).take j), (j : Int), out, ())) (step := fun w => Xl (k : Int) (v : Int) (inL x) w.1 w.2.1 w.2.2.1)
          (good := .inl (((k + 1 : Nat) : Int), out.set v (ZhP (Yi b) (ins b) v), ()))
          (fun j y hy hj => by
            obtain ⟨u, rfl, hu, hum⟩ := ZoC h.blk hx hy
            have hou := hin _ hi u (List.mem_of_getElem? hum)
            simp only [Xl, show (j : Int) < ((inL x).length : Int) from by omega, if_true, Zo, hy, hou, Bq, Qb (show j ≤ 1048576 by omega), Int.toNat_natCast]
            have hl1 := hsl j
            have hl2 := ZhQ (Yi b) (ins b) u
            rw [Zi (by omega), Zmt hum, show out.set u (ZhP (Yi b) (ins b) u) = out from by
              apply List.ext_getElem?
              intro w
              rw [List.getElem?_set]
              split
              · rename_i e; subst e; rw [if_pos (by omega), hou]
              · rfl])
          (by
            have hfl : ((inL x).map Int.toNat).take (inL x).length = (inL x).map Int.toNat := List.take_of_length_le (by rw [List.length_map]; omega)
            have hl1 := hsl (inL x).length
            rw [hfl] at hl1 ⊢
            have hpos : 0 < (cat (fun _ u => ZhP (Yi b) (ins b) u) 0 ((inL x).map Int.toNat)).length := by
              obtain ⟨s0, hs0⟩ := Zsa hB hr hne hv
              obtain ⟨u, hu, hsu⟩ := (ZhN hi).1 hs0
              exact List.length_pos_of_mem (Zms.2 ⟨u, hu, (ZeK hB (hB v _ u hv hi hu)).2 ⟨s0, rfl, hsu⟩⟩)
            simp only [Xl, Int.lt_irrefl, if_false, Qb hkm, Zo, hov, Int.toNat_natCast]
            have e1 : ZqZ (cat (fun _ u => ZhP (Yi b) (ins b) u) 0 ((inL x).map Int.toNat)) = some (srt (cat (fun _ u => ZhP (Yi b) (ins b) u) 0 ((inL x).map Int.toNat))) := by
              unfold ZqZ; rw [if_pos (by omega)]
            have e2 : ZhV (srt (cat (fun _ u => ZhP (Yi b) (ins b) u) 0 ((inL x).map Int.toNat))) = some (Zfn (srt (cat (fun _ u => ZhP (Yi b) (ins b) u) 0 ((inL x).map Int.toNat)))) := by
              unfold ZhV; rw [if_pos (by rw [Zq0]; exact hpos)]
            rw [e1, Bq, e2, Bq, Bq, Ztv (Zm9 (Yi b) (ins b) v) fun z => ?_]
            rw [Zms, ZeK hB hv]
            constructor
            · rintro ⟨u, hu, hz⟩
              obtain ⟨s0, e, hs0⟩ := (ZeK hB (hB v _ u hv hi hu)).1 hz
              exact ⟨s0, e, .step hi hu hs0⟩
            · rintro ⟨s0, e, hs0⟩
              obtain ⟨u, hu, hsu⟩ := (ZhN hi).1 hs0
              exact ⟨u, hu, (ZeK hB (hB v _ u hv hi hu)).2 ⟨s0, e, hsu⟩⟩)
        exact this)
    (fun out ho => by
      simp only [Xm, show YH.order (b, gates b, s.2, ()) = s.2 from rfl, Int.lt_irrefl, if_false])
  exact ⟨out, e, h1, fun v hv => h2 v (hall v hv)⟩
/-
  Plain laws: the sources of a net by marks; bounds of densities.
-/
theorem ZoM {b : Zg} {k : Nat} {f : Zg → Int → List Bool → List Bool → Option (List Bool × List Bool)} {l : List Int} (hl : l.length ≤ 1048576) (F : Nat → MS → MS) (J : MS → Prop)
    (hf : ∀ (j : Nat) (y : Int) (s : MS), l[j]? = some y → J s → f b y s.1 s.2 = some (F y.toNat s) ∧ J (F y.toNat s)) (s : MS) (hs : J s) :
    Zl (fun v => YF b f l v.1 v.2.1 v.2.2.1) ((0 : Int), s.1, s.2, ()) = some ((l.map Int.toNat).foldl (fun s u => F u s) s) ∧ J ((l.map Int.toNat).foldl (fun s u => F u s) s) := by
  obtain ⟨r, e, hr⟩ := Qa (step := fun v => YF b f l v.1 v.2.1 v.2.2.1) (v := ((0 : Int), s.1, s.2, ())) l.length
    (fun j v => v = ((j : Int), (((l.take j).map Int.toNat).foldl (fun s u => F u s) s).1, (((l.take j).map Int.toNat).foldl (fun s u => F u s) s).2, ()) ∧ J (((l.take j).map Int.toNat).foldl (fun s u => F u s) s))
    (fun r => r = (l.map Int.toNat).foldl (fun s u => F u s) s ∧ J r) ⟨rfl, hs⟩ (by
      rintro j _ hj ⟨rfl, hJ⟩
      left
      have hy : l[j]? = some l[j] := List.getElem?_eq_getElem hj
      generalize l[j] = y at hy
      obtain ⟨h1, h2⟩ := hf j y _ hy hJ
      have e : ((l.take (j + 1)).map Int.toNat).foldl (fun s u => F u s) s = F y.toNat (((l.take j).map Int.toNat).foldl (fun s u => F u s) s) := by
        rw [Yo hy, List.map_append, List.foldl_append]
        rfl
      refine ⟨_, ?_, rfl, by rw [e]; exact h2⟩
      rw [e]
      simp only [YF, show (j : Int) < (l.length : Int) from by omega, if_true, Zo, hy, Bq, h1, Qb (show j ≤ 1048576 by omega)]) (by
      rintro _ ⟨rfl, hJ⟩
      rw [List.take_length] at hJ ⊢
      simp only [YF, Int.lt_irrefl, if_false]
      exact ⟨_, rfl, rfl, hJ⟩)
  obtain ⟨rfl, hJ⟩ := hr
  exact ⟨e, hJ⟩
theorem Zoo (ins : Nat → Option (List Nat)) {n : Nat} : ∀ (k v : Nat) (s : MS), s.1.length = n → s.2.length = n → (dfs ins k v s).1.length = n ∧ (dfs ins k v s).2.length = n
  | 0, _, _, h1, h2 => ⟨h1, h2⟩
  | k + 1, v, s, h1, h2 => by
    unfold dfs
    split
    · exact ⟨h1, h2⟩
    · split
      · exact ⟨by simp [h1], by simp [h2]⟩
      · rename_i l _
        have key : ∀ (t : List Nat) (s0 : MS), s0.1.length = n → s0.2.length = n → (t.foldl (fun s u => dfs ins k u s) s0).1.length = n ∧ (t.foldl (fun s u => dfs ins k u s) s0).2.length = n := by
          intro t
          induction t with
          | nil => intro s0 a c; exact ⟨a, c⟩
          | cons u t ih =>
            intro s0 a c
            obtain ⟨a2, c2⟩ := Zoo ins k u s0 a c
            rw [List.foldl_cons]
            exact ih _ a2 c2
        exact key l (s.1, s.2.set v true) h1 (by simp [h2])
theorem Zqq {b : Zg} (h : VF b) {r : Nat → Nat} (hr : Rkd (Yi b) (ins b) r) : ∀ (k v : Nat) (s : MS), v < Yi b → r v < k → s.1.length = Yi b → s.2.length = Yi b → Yw k b (v : Int) s.1 s.2 = some (dfs (ins b) k v s)
  | 0, _, _, _, hk, _, _ => by omega
  | k + 1, v, s, hv, hk, h1, h2 => by
    have hn := QS h
    show YA (Yw k) b (v : Int) s.1 s.2 = _
    unfold YA dfs
    rw [Zo, ZmG (show v < s.2.length by omega), Bq]
    by_cases q : isK s.2 v = true
    · rw [if_pos q, if_pos q]
    · rw [if_neg q, if_neg q, ZgP h hv, Bq]
      rcases Zb4 h v with w | ⟨i, x, g⟩
      · rw [w, if_pos (by omega), Zo, ZmG (show v < s.1.length by omega), Bq, Zdr w]
        simp only [Int.toNat_natCast]
      · have hx := List.mem_of_getElem? g.at_
        obtain ⟨c, hc⟩ := Zi7 h hx
        have h5 := hc.few
        have hil := Zib (x := x)
        rw [g.gF, if_neg (by omega), Zhi h g.at_, Bq, Zb9 g, Int.toNat_natCast]
        simp only
        have := ZoM (b := b) (k := k) (f := Yw k) (l := inL x) (by omega) (fun u s => dfs (ins b) k u s) (fun s => s.1.length = Yi b ∧ s.2.length = Yi b)
          (fun j y s hy hs => by
            obtain ⟨u, rfl, hu, hum⟩ := ZoC h hx hy
            rw [Int.toNat_natCast]
            have hru := hr v _ u hv (Zb9 g) (List.mem_of_getElem? hum)
            exact ⟨Zqq h hr k u s hu (by omega) hs.1 hs.2, Zoo (ins b) k u s hs.1 hs.2⟩) (s.1, s.2.set v true) ⟨h1, by simp [h2]⟩
        exact this.1
theorem Zml {σ ρ : Type} {f g : σ → Option (σ ⊕ ρ)} (h : ∀ v r, f v = some r → g v = some r) {v : σ} {r : ρ} (hf : Zl f v = some r) : Zl g v = some r := by
  obtain ⟨n, hn⟩ := ZaC.1 hf
  refine ZaC.2 ⟨n, ?_⟩
  clear hf
  induction n generalizing v with
  | zero => simp [iterM] at hn
  | succ n ih =>
    simp only [iterM] at hn ⊢
    split at hn
    · cases hn
    · rename_i v' e
      rw [h _ _ e]
      exact ih hn
    · rename_i r' e
      rw [h _ _ e]
      exact hn
theorem ZoN {b : Zg} {k : Nat} : (∀ v m s r, Yw k b v m s = some r → Yw (k + 1) b v m s = some r) := by
  induction k with
  | zero => intro v m s r h; cases h
  | succ k ih =>
    intro v m s r h
    change YA (Yw k) b v m s = some r at h
    show YA (Yw (k + 1)) b v m s = some r
    unfold YA at h ⊢
    obtain ⟨x0, e0, h⟩ := Option.bind_eq_some_iff.1 h
    rw [e0, Bq]
    split
    · rename_i q; rw [if_pos q] at h; exact h
    · rename_i q
      rw [if_neg q] at h
      obtain ⟨g, e1, h⟩ := Option.bind_eq_some_iff.1 h
      rw [e1, Bq]
      split
      · rename_i q2; rw [if_pos q2] at h; exact h
      · rename_i q2
        rw [if_neg q2] at h
        obtain ⟨l, e2, h⟩ := Option.bind_eq_some_iff.1 h
        rw [e2, Bq]
        refine Zml (fun v r hv => ?_) h
        simp only [YF] at hv ⊢
        split
        · rename_i q3
          rw [if_pos q3] at hv
          obtain ⟨x1, e3, hv⟩ := Option.bind_eq_some_iff.1 hv
          obtain ⟨r0, e4, hv⟩ := Option.bind_eq_some_iff.1 hv
          rw [e3, Bq, ih _ _ _ _ e4, Bq]
          exact hv
        · rename_i q3
          rw [if_neg q3] at hv
          exact hv
theorem Zl7 {b : Zg} {v : Int} {m s : List Bool} {r : MS} {k : Nat} (h : Yw k b v m s = some r) : ∀ j, Yw (k + j) b v m s = some r
  | 0 => h
  | j + 1 => ZoN _ _ _ _ (Zl7 h j)
theorem Zno {b : Zg} (h : VF b) {r : Nat → Nat} (hr : Rkd (Yi b) (ins b) r) {k v : Nat} {s : MS} (hv : v < Yi b) (hk : r v < k) (h1 : s.1.length = Yi b) (h2 : s.2.length = Yi b) : Zct b (v : Int) s.1 s.2 = some (dfs (ins b) k v s) := by
  have e := Zqq h hr k v s hv hk h1 h2
  refine ZqW ⟨k, e⟩ fun j r' h' => ?_
  have a := Zl7 e j
  have c := Zl7 h' k
  rw [Nat.add_comm] at c
  rw [a] at c
  injection c with c
  exact c.symm
theorem Zlg (l : List Bool) (hl : l.length ≤ 1048576) : ZaR l = some (cat ZjQ 0 l) := by
  unfold ZaR
  refine Vj (l := l) ZjQ [] (fun k x hx hk => ?_) ?_
  · have h1 := ZhJ (l.take k) 0
    rw [List.length_take] at h1
    simp only [List.nil_append, VW, show (k : Int) < (l.length : Int) from by omega, if_true, Zo, hx, Bq, Qb (show k ≤ 1048576 by omega)]
    by_cases q : x = true
    · rw [if_pos q, Zi (by simp only [List.length_cons, List.length_nil]; omega)]
      unfold ZjQ
      rw [if_pos q]
    · rw [if_neg q]
      unfold ZjQ
      rw [if_neg q, List.append_nil]
  · simp only [VW, Int.lt_irrefl, if_false, List.nil_append]
theorem Zkq {b : Zg} {s : List Bool × List Int} (h : Lgc b s) {v : Nat} (hv : v < Yi b) : Zai b (v : Int) = some (ZhP (Yi b) (ins b) v) := by
  have hn := QS h.blk
  obtain ⟨_, r, hr, _⟩ := h.ord.rank h.all
  unfold Zai
  rw [show (Zb.Yb (Zg.Design b)).length = Yi b from rfl, Zi (by omega), Zi (by omega), Zi (by omega), Zi (by omega), Int.toNat_natCast]
  have e := Zno h.blk hr (k := r v + 1) (s := (List.replicate (Yi b) false, List.replicate (Yi b) false)) hv (by omega) (by simp) (by simp)
  have e2 := Zop hr (ZgL h.blk 0) (k := r v + 1) hv (by omega)
  rw [show Zct b (v : Int) (List.replicate (Yi b) false) (List.replicate (Yi b) false) = some (dfs (ins b) (r v + 1) v (List.replicate (Yi b) false, List.replicate (Yi b) false)) from e, Bq, e2, Zlg _ (by unfold Zp9; simp; omega)]
  rfl
def Zry (b : Zg) (list : List Zk) (l : List Int) : Int := l.foldl (fun m x => Wq (m + Zk.ZcR (ZkY b list x))) 0
theorem Zkk {b : Zg} {s : List Bool × List Int} {list : List Zk} (ha : ZgC b list) {l : List Int} (hl : l.length ≤ 1048576) (hin : ∀ x ∈ l, x ∈ srcs b) : QW (chn b s list) l = some (Zry b list l) := by
  unfold QW
  refine Xi (l := l) (fun k => (Zry b list (l.take k), (k : Int), ())) (fun k x hx hk => ?_) ?_
  · have e : ZhK (Ty.int IntKind.i64) ZE (Vi.of (chn b s list)) x = some (ZkY b list x) := ZqB ha (hin x (List.mem_of_getElem? hx))
    simp only [Ql, show (k : Int) < (l.length : Int) from by omega, if_true, Zo, hx, Bq, e, Qb (show k ≤ 1048576 by omega)]
    rw [Yo hx]
    unfold Zry
    rw [List.foldl_append]
    rfl
  · simp only [Ql, Int.lt_irrefl, if_false, List.take_length]
theorem ZkH {b : Zg} {s : List Bool × List Int} (h : Lgc b s) {list : List Zk} (ha : ZgC b list) {v : Nat} (hv : v < Yi b) : Zbr b list (v : Int) = some (Zry b list (ZhP (Yi b) (ins b) v)) := by
  have hn := QS h.blk
  have hl := ZhQ (Yi b) (ins b) v
  unfold Zbr
  rw [Zkq h hv, Bq]
  refine Xi (l := ZhP (Yi b) (ins b) v) (fun k => (Zry b list ((ZhP (Yi b) (ins b) v).take k), (k : Int), ())) (fun k x hx hk => ?_) ?_
  · have e := ZpP h.blk ha (Zpg h.blk hv (List.mem_of_getElem? hx))
    simp only [JF, show (k : Int) < ((ZhP (Yi b) (ins b) v).length : Int) from by omega, if_true, Zo, hx, Bq, e, Qb (show k ≤ 1048576 by omega)]
    rw [Yo hx]
    unfold Zry
    rw [List.foldl_append]
    rfl
  · simp only [JF, Int.lt_irrefl, if_false, List.take_length]
/-
  Plain laws: the law FnExactDensityBound.
-/
theorem ZhX (b : Zg) (hb : sm YG b) (list : List Zk) (hl : list.length ≤ 1048576) (net : Int) : ∃ r, Vr b list net = some r ∧ Vw b list net = some r := by
  unfold Vr Vw
  rcases ZlO b hb list hl net with ⟨c, hc, e1, e2⟩ | ⟨s, hs, ha, hnet, e1, e2⟩
  · rw [e1, e2, Bq, Bq, if_neg hc, if_neg hc]
    exact ⟨_, rfl, rfl⟩
  · have hn := QS hs.blk
    obtain ⟨v, rfl⟩ : ∃ v : Nat, net = (v : Int) := ⟨net.toNat, by omega⟩
    have hv : v < Yi b := by omega
    obtain ⟨out, e3, ho, e4⟩ := Zmi hs
    have e5 := Zkk (s := s) ha (l := ZhP (Yi b) (ins b) v) (by have := ZhQ (Yi b) (ins b) v; omega) (fun x hx => Zpg hs.blk hv hx)
    rw [e1, e2, Bq, if_pos rfl, Bq, Bq, if_pos rfl, show Vi.logic (chn b s list) = (b, gates b, s.2, ()) from rfl, e3, Bq, Zo, e4 v hv, Bq, e5, ZkH hs ha hv]
    exact ⟨_, rfl, rfl⟩
theorem ZbG (a0 : Zg) (a1 : List Zk) (a2 : Int) (b0 : bnd YG a0) (b1 : bnd (.sl ZE) a1) (b2 : bnd (.int .i64) a2) : YW a0 a1 a2 = some true := by
  unfold YW
  obtain ⟨n, e, hle, hP⟩ := Zim a0 1048576 (by omega) (by omega) b0
  rw [e, Bq]
  by_cases hn : n < 0
  · rw [if_pos hn]
  rw [if_neg hn]
  have hs := hP (by omega)
  obtain ⟨n1, e1, hle1, hP1⟩ := Zfw a1 n (by omega) (by omega) b1
  rw [e1, Bq]
  by_cases hn1 : n1 < 0
  · rw [if_pos hn1]
  rw [if_neg hn1]
  have hs1 := hP1 (by omega)
  obtain ⟨r, c1, c2⟩ := ZhX a0 hs a1 (sml hs1) a2
  simp only [Zis _ hs, Zfz _ hs1, Bq, c1, c2, Zih _ hs, Zfs _ hs1, if_true]
/-
  Plain laws: values of nets, functions.
-/
def ZAX (b : Zg) (v : Nat) : List Int := match (insts b)[(gF b v).toNat]? with
  | some x => match (Zn.Cells (Zg.Library b))[(Zd.Cell x).toNat]? with
    | some c => Zf.Truth c
    | none => []
  | none => []
def tt (b : Zg) (v : Nat) (l : List Int) : Int := ((ZAX b v)[idxOf (l.map Int.toNat)]?).getD 0
def Bit (n : Int) : Prop := n = 0 ∨ n = 1
theorem Bit.nat {n : Int} (h : Bit n) : n.toNat < 2 ∧ n = (n.toNat : Int) := by
  rcases h with rfl | rfl
  · exact ⟨by decide, rfl⟩
  · exact ⟨by decide, rfl⟩
theorem ZBF {b : Zg} (h : VF b) {v i : Nat} {x : Zd} (g : ZnZ b v i x) {c : Zf} (hc : ZrK b x c) : ZAX b v = Zf.Truth c ∧ (Zf.Truth c).length = 2 ^ (inL x).length ∧ ∀ y ∈ Zf.Truth c, Bit y := by
  have hcell : (Zn.Cells (Zg.Library b))[(Zd.Cell x).toNat]? = some c := by
    have := hc.at_
    unfold atI at this
    split at this
    · exact this
    · cases this
  have hk := hc.ok.2.2.2.2.2
  unfold ZbZ at hk
  have hk1 : Zf.Kind c = 1 := by rw [← hc.kind]; exact g.kind
  rcases hk with ⟨_, _, h1, h2⟩ | ⟨q, _⟩ | ⟨q, _⟩
  · refine ⟨?_, ?_, fun y hy => ?_⟩
    · unfold ZAX
      rw [g.gF, Int.toNat_natCast, g.at_]
      simp only
      rw [hcell]
    · rw [h1, Zib, hc.len]
    · have := h2 y hy
      unfold Bit
      omega
  · rw [hk1] at q; exact absurd q (by omega)
  · rw [hk1] at q; exact absurd q (by omega)
theorem ZB0 {b : Zg} (h : VF b) {v i : Nat} {x : Zd} (g : ZnZ b v i x) {c : Zf} (hc : ZrK b x c) {l : List Int} (hl : l.length = (inL x).length) (hb : ∀ y ∈ l, Bit y) :
    (Zf.Truth c)[idxOf (l.map Int.toNat)]? = some (tt b v l) ∧ Bit (tt b v l) := by
  obtain ⟨h1, h2, h3⟩ := ZBF h g hc
  have hlt := ZA3 (l := l.map Int.toNat) (fun n hn => by
    obtain ⟨y, hy, rfl⟩ := List.mem_map.1 hn
    exact (hb y hy).nat.1)
  rw [List.length_map, hl] at hlt
  have e : (Zf.Truth c)[idxOf (l.map Int.toNat)]? = some ((Zf.Truth c)[idxOf (l.map Int.toNat)]'(by rw [h2]; exact hlt)) := List.getElem?_eq_getElem _
  have e2 : tt b v l = (Zf.Truth c)[idxOf (l.map Int.toNat)]'(by rw [h2]; exact hlt) := by
    unfold tt
    rw [h1, e]
    rfl
  exact ⟨by rw [e2]; exact e, by rw [e2]; exact h3 _ (List.getElem_mem _)⟩
structure Tak (b : Zg) (a W : Nat → Int) : Prop where
  vals : ZCM (Yi b) (ins b) (tt b) a W
  bit : ∀ v, v < Yi b → Bit (W v)
theorem Tak.src {b : Zg} {a W : Nat → Int} (h : Tak b a W) {v : Nat} (hv : v < Yi b) (hi : ins b v = none) : W v = a v := by
  have := h.vals v hv
  rw [hi] at this
  exact this
theorem Tak.gate {b : Zg} {a W : Nat → Int} (h : Tak b a W) {v : Nat} (hv : v < Yi b) {l : List Nat} (hi : ins b v = some l) : W v = tt b v (l.map W) := by
  have := h.vals v hv
  rw [hi] at this
  exact this
theorem ZB8 {b : Zg} {s : List Bool × List Int} (h : Lgc b s) (a : Nat → Int) (ha : ∀ v, Bit (a v)) : ∃ W, Tak b a W := by
  obtain ⟨_, r, hr, hrs⟩ := h.ord.rank h.all
  have hB := ZgL h.blk 0
  obtain ⟨W, hW⟩ := ZB1 hr hB (fun v hv => (hrs v hv).1) (tt b) a
  refine ⟨W, hW, ?_⟩
  have key : ∀ m v, r v = m → v < Yi b → Bit (W v) := by
    intro m
    induction m using Nat.strongRecOn with
    | _ m ih =>
      intro v hm hv
      have hWv := hW v hv
      rcases Zb4 h.blk v with q | ⟨i, x, g⟩
      · rw [Zdr q] at hWv
        simp only at hWv
        rw [hWv]
        exact ha v
      · rw [Zb9 g] at hWv
        simp only at hWv
        rw [hWv]
        obtain ⟨c, hc⟩ := Zi7 h.blk (List.mem_of_getElem? g.at_)
        refine (ZB0 h.blk g hc (by rw [List.length_map, List.length_map]) fun y hy => ?_).2
        obtain ⟨u, hu, rfl⟩ := List.mem_map.1 hy
        exact ih (r u) (by rw [← hm]; exact hr v _ u hv (Zb9 g) hu) u rfl (hB v _ u hv (Zb9 g) hu)
  exact fun v hv => key (r v) v rfl hv
theorem ZBU {acc : List Nat} {y : Int} (hacc : ∀ x ∈ acc, x < 2) (hl : acc.length ≤ 8) (hy : Bit y) :
    Go.bits Go.BinOp.or IntKind.i64 ((idxOf acc : Nat) : Int) (Wq (y * (2 : Int) ^ min acc.length (IntKind.bits IntKind.i64))) = ((idxOf (acc ++ [y.toNat]) : Nat) : Int) := by
  have hb : min acc.length (IntKind.bits IntKind.i64) = acc.length := Nat.min_eq_left (by show acc.length ≤ 64; omega)
  have h1 := ZA3 hacc
  have hp : 2 ^ acc.length ≤ 256 := Nat.le_trans (Nat.pow_le_pow_right (by omega) hl) (by decide)
  obtain ⟨h2, h3⟩ := hy.nat
  have e : y * (2 : Int) ^ acc.length = ((2 ^ acc.length * y.toNat : Nat) : Int) := by
    rw [h3, Int.toNat_natCast, Int.natCast_mul, Int.mul_comm]
    simp
  have hle : 2 ^ acc.length * y.toNat ≤ 256 * 1 := Nat.mul_le_mul hp (by omega)
  rw [hb, e, ZdP (by omega) (by omega), ZAj (by omega) (by omega), ZBL h1, ZAE]
theorem ZAv {b : Zg} {s : List Bool × List Int} (h : Lgc b s) {m : List (Int × Int)} {a W : Nat → Int} (hW : Tak b a W) (hm : ∀ v, v < Yi b → ins b v = none → Option.getD (ZhK (.int .i64) (.int .i64) m (v : Int)) (0 : Int) = a v) :
    ∃ out, Zww (b, gates b, s.2, ()) m = some out ∧ out.length = Yi b ∧ ∀ v, v < Yi b → out[v]? = some (W v) := by
  have hn := QS h.blk
  have hB := ZgL h.blk 0
  obtain ⟨hall, _⟩ := h.ord.rank h.all
  unfold Zww
  rw [show YH.gate (b, gates b, s.2, ()) = gates b from rfl, V3, Zi (by omega), Zi (by omega), Zi (by omega), Zi (by omega), Int.toNat_natCast]
  obtain ⟨out, e, h1, h2⟩ := along h.ord (α := Int) (fun o k => (k, o, ())) W (step := fun v => Zv6 (b, gates b, s.2, ()) m v.1 v.2.1) (good := fun o => o) (z := List.replicate (Yi b) 0) (by simp) (by omega)
    (fun k v out hk hkl hkm hv ho hin => by
      have hord : YH.order (b, gates b, s.2, ()) = s.2 := rfl
      have hgate : YH.gate (b, gates b, s.2, ()) = gates b := rfl
      have hov : out[v]? = some (out[v]'(by omega)) := List.getElem?_eq_getElem _
      simp only [Zv6, hord, hgate, show (k : Int) < (s.2.length : Int) from by omega, if_true, Zo, hk, Bq, Zdl b hv, hov, Qb hkm, Int.toNat_natCast]
      rcases Zb4 h.blk v with q | ⟨i, x, g⟩
      · rw [q, if_pos (by omega), hm v hv (Zdr q), hW.src hv (Zdr q)]
      · have hx := List.mem_of_getElem? g.at_
        obtain ⟨c, hc⟩ := Zi7 h.blk hx
        have h5 := hc.few
        have hil := Zib (x := x)
        have hi := Zb9 g
        rw [g.gF, if_neg (by omega), Zjb h.blk hv g, Bq]
        have hbits : ∀ y ∈ ((inL x).map Int.toNat).map W, Bit y := fun y hy => by
          obtain ⟨u, hu, rfl⟩ := List.mem_map.1 hy
          exact hW.bit u (hB v _ u hv hi hu)
        have := Xi (l := inL x) (fun j => (((idxOf ((((inL x).map Int.toNat).map W).map Int.toNat |>.take j) : Nat) : Int), (j : Int), ())) (step := fun w => Zv5 (b, gates b, s.2, ()) (k : Int) out (v : Int) (i : Int) (inL x) w.1 w.2.1)
          (good := .inl (((k + 1 : Nat) : Int), out.set v (W v), ()))
          (fun j y hy hj => by
            obtain ⟨u, rfl, hu, hum⟩ := ZoC h.blk hx hy
            have hou := hin _ hi u (List.mem_of_getElem? hum)
            have hw : ((((inL x).map Int.toNat).map W).map Int.toNat)[j]? = some (W u).toNat := by rw [List.getElem?_map, List.getElem?_map, hum]; rfl
            simp only [Zv5, show (j : Int) < ((inL x).length : Int) from by omega, if_true, Zo, hy, hou, Bq, Qb (show j ≤ 1048576 by omega), Int.toNat_natCast]
            have hlen : (((((inL x).map Int.toNat).map W).map Int.toNat).take j).length = j := by rw [List.length_take, List.length_map, List.length_map, List.length_map]; omega
            have := ZBU (acc := ((((inL x).map Int.toNat).map W).map Int.toNat).take j) (fun z hz => by
              obtain ⟨y, hy, rfl⟩ := List.mem_map.1 (List.mem_of_mem_take hz)
              exact (hbits y hy).nat.1) (by omega) (hW.bit u hu)
            rw [hlen] at this
            rw [Zi (by omega), this, Yo hw])
          (by
            have hfl : ((((inL x).map Int.toNat).map W).map Int.toNat).take (inL x).length = ((((inL x).map Int.toNat).map W).map Int.toNat) := List.take_of_length_le (by rw [List.length_map, List.length_map, List.length_map]; omega)
            obtain ⟨t1, _⟩ := ZB0 h.blk g hc (l := ((inL x).map Int.toNat).map W) (by rw [List.length_map, List.length_map]) hbits
            rw [hfl]
            simp only [Zv5, Int.lt_irrefl, if_false, show YH.Block (b, gates b, s.2, ()) = b from rfl, Zoa g.at_ hc, Bq, Zo, t1, hov, Qb hkm, Int.toNat_natCast, hW.gate hv hi])
        exact this)
    (fun out ho => by
      simp only [Zv6, show YH.order (b, gates b, s.2, ()) = s.2 from rfl, Int.lt_irrefl, if_false])
  exact ⟨out, e, h1, fun v hv => h2 v (hall v hv)⟩
theorem ZA4 {kn : List Int} {v : Nat} (hv : v < kn.length) : kn[v]? = some (knA kn v) := by
  unfold knA
  rw [List.getElem?_eq_getElem hv]
  rfl
theorem ZBI {b : Zg} (h : VF b) {r : Nat → Nat} (hr : Rkd (Yi b) (ins b) r) {a W : Nat → Int} (hW : Tak b a W) : ∀ (k v : Nat) (kn : List Int), v < Yi b → r v < k → ZB3 (Yi b) W kn → (∀ s, Src (ins b) v s → 0 ≤ knA kn s) →
    ∃ kn', ZvN k b (v : Int) kn = some (W v, kn') ∧ ZB3 (Yi b) W kn' ∧ ∀ u, 0 ≤ knA kn u → 0 ≤ knA kn' u
  | 0, _, _, _, hk, _, _ => by omega
  | k + 1, v, kn, hv, hk, hkn, hs => by
    have hn := QS h
    have hB := ZgL h 0
    show ∃ kn', ZvO (ZvN k) b (v : Int) kn = some (W v, kn') ∧ _
    unfold ZvO
    rw [Zo, ZA4 (show v < kn.length by rw [hkn.len]; exact hv), Bq]
    by_cases q : 0 ≤ knA kn v
    · rw [if_pos q, hkn.val v hv q]
      exact ⟨kn, rfl, hkn, fun u hu => hu⟩
    · rw [if_neg q, ZgP h hv, Bq]
      rcases Zb4 h v with w | ⟨i, x, g⟩
      · exact absurd (hs v (.base (Zdr w))) q
      · have hx := List.mem_of_getElem? g.at_
        obtain ⟨c, hc⟩ := Zi7 h hx
        have h5 := hc.few
        have hil := Zib (x := x)
        have hi := Zb9 g
        rw [g.gF, Zhi h g.at_, Bq]
        have hbits : ∀ y ∈ ((inL x).map Int.toNat).map W, Bit y := fun y hy => by
          obtain ⟨u, hu, rfl⟩ := List.mem_map.1 hy
          exact hW.bit u (hB v _ u hv hi hu)
        obtain ⟨r0, e, kn', rfl, hk1, hk2⟩ := Qa (step := fun w => ZvR b (v : Int) (ZvN k) (i : Int) (inL x) w.1 w.2.1 w.2.2.1 w.2.2.2.1) (v := ((0 : Int), (1 : Int), (0 : Int), kn, ())) (inL x).length
          (fun j w => ∃ kn', w = (((idxOf (((((inL x).map Int.toNat).map W).map Int.toNat).take j) : Nat) : Int), ((2 ^ j : Nat) : Int), (j : Int), kn', ()) ∧ ZB3 (Yi b) W kn' ∧ ∀ u, 0 ≤ knA kn u → 0 ≤ knA kn' u)
          (fun r => ∃ kn', r = (W v, kn') ∧ ZB3 (Yi b) W kn' ∧ ∀ u, 0 ≤ knA kn u → 0 ≤ knA kn' u) ⟨kn, rfl, hkn, fun u hu => hu⟩ (by
            rintro j _ hj ⟨kn1, rfl, hk1, hk2⟩
            left
            have hy : (inL x)[j]? = some (inL x)[j] := List.getElem?_eq_getElem hj
            generalize (inL x)[j] = y at hy
            obtain ⟨u, rfl, hu, hum⟩ := ZoC h hx hy
            have hru := hr v _ u hv hi (List.mem_of_getElem? hum)
            obtain ⟨kn2, e2, hk3, hk4⟩ := ZBI h hr hW k u kn1 hu (by omega) hk1 (fun s hsu => hk2 s (hs s (.step hi (List.mem_of_getElem? hum) hsu)))
            have hw : ((((inL x).map Int.toNat).map W).map Int.toNat)[j]? = some (W u).toNat := by rw [List.getElem?_map, List.getElem?_map, hum]; rfl
            have hlen : (((((inL x).map Int.toNat).map W).map Int.toNat).take j).length = j := by rw [List.length_take, List.length_map, List.length_map, List.length_map]; omega
            have hlt := ZA3 (l := ((((inL x).map Int.toNat).map W).map Int.toNat).take j) (fun z hz => by
              obtain ⟨y, hy, rfl⟩ := List.mem_map.1 (List.mem_of_mem_take hz)
              exact (hbits y hy).nat.1)
            rw [hlen] at hlt
            have hp : 2 ^ j ≤ 16 := ZoZ (by omega)
            obtain ⟨b1, b2⟩ := (hW.bit u hu).nat
            have hle : 2 ^ j * (W u).toNat ≤ 16 * 1 := Nat.mul_le_mul hp (by omega)
            have e3 : ((2 ^ j : Nat) : Int) * W u = ((2 ^ j * (W u).toNat : Nat) : Int) := by rw [b2, Int.toNat_natCast, Int.natCast_mul]
            refine ⟨_, ?_, kn2, rfl, hk3, fun z hz => hk4 z (hk2 z hz)⟩
            simp only [ZvR, show (j : Int) < ((inL x).length : Int) from by omega, if_true, Zo, hy, Bq, e2, Qb (show j ≤ 1048576 by omega), e3]
            rw [ZdP (n := ((2 ^ j * (W u).toNat : Nat) : Int)) (by omega) (by omega), ZdP (by omega) (by omega), ZdP (by omega) (by omega), Yo hw, ZAE, hlen, Int.natCast_add, Nat.pow_succ]
            congr 4
            omega) (by
            rintro _ ⟨kn1, rfl, hk1, hk2⟩
            have hfl : ((((inL x).map Int.toNat).map W).map Int.toNat).take (inL x).length = ((((inL x).map Int.toNat).map W).map Int.toNat) := List.take_of_length_le (by rw [List.length_map, List.length_map, List.length_map]; omega)
            obtain ⟨t1, _⟩ := ZB0 h g hc (l := ((inL x).map Int.toNat).map W) (by rw [List.length_map, List.length_map]) hbits
            have hlv : v < kn1.length := by rw [hk1.len]; exact hv
            have hset : (kn1.set v (W v))[v]? = some (W v) := List.getElem?_set_self hlv
            rw [hfl]
            refine ⟨_, ?_, kn1.set v (W v), rfl, ⟨by rw [List.length_set, hk1.len], fun u hu hz => ?_⟩, fun u hz => ?_⟩
            · simp only [ZvR, Int.lt_irrefl, if_false, Zo, g.at_, Bq, hc.at_, t1, ← hW.gate hv hi, ZA4 hlv, Int.toNat_natCast, hset]
            · rw [ZBo hlv] at hz ⊢
              split
              · rename_i e; rw [e]
              · rename_i e
                rw [if_neg e] at hz
                exact hk1.val u hu hz
            · rw [ZBo hlv]
              split
              · have := (hW.bit v hv).nat.2
                omega
              · exact hk2 u hz)
        exact ⟨kn', e, hk1, hk2⟩
theorem ZBl {b : Zg} {k : Nat} : (∀ v kn r, ZvN k b v kn = some r → ZvN (k + 1) b v kn = some r) := by
  induction k with
  | zero => intro v kn r h; cases h
  | succ k ih =>
    intro v kn r h
    change ZvO (ZvN k) b v kn = some r at h
    show ZvO (ZvN (k + 1)) b v kn = some r
    unfold ZvO at h ⊢
    obtain ⟨x0, e0, h⟩ := Option.bind_eq_some_iff.1 h
    rw [e0, Bq]
    split
    · rename_i q; rw [if_pos q] at h; exact h
    · rename_i q
      rw [if_neg q] at h
      obtain ⟨g, e1, h⟩ := Option.bind_eq_some_iff.1 h
      rw [e1, Bq]
      obtain ⟨l, e2, h⟩ := Option.bind_eq_some_iff.1 h
      rw [e2, Bq]
      refine Zml (fun v r hv => ?_) h
      simp only [ZvR] at hv ⊢
      split
      · rename_i q3
        rw [if_pos q3] at hv
        obtain ⟨x1, e3, hv⟩ := Option.bind_eq_some_iff.1 hv
        obtain ⟨r0, e4, hv⟩ := Option.bind_eq_some_iff.1 hv
        rw [e3, Bq, ih _ _ _ e4, Bq]
        exact hv
      · rename_i q3
        rw [if_neg q3] at hv
        exact hv
theorem ZAR {b : Zg} {v : Int} {kn : List Int} {r : Int × List Int} {k : Nat} (h : ZvN k b v kn = some r) : ∀ j, ZvN (k + j) b v kn = some r
  | 0 => h
  | j + 1 => ZBl _ _ _ (ZAR h j)
theorem ZBd {b : Zg} {s : List Bool × List Int} (h : Lgc b s) {a W : Nat → Int} (hW : Tak b a W) {v : Nat} {kn : List Int} (hv : v < Yi b) (hkn : ZB3 (Yi b) W kn) (hs : ∀ s, Src (ins b) v s → 0 ≤ knA kn s) : ∃ kn', Zy3 b (v : Int) kn = some (W v, kn') := by
  obtain ⟨_, r, hr, _⟩ := h.ord.rank h.all
  obtain ⟨kn', e, _⟩ := ZBI h.blk hr hW (r v + 1) v kn hv (by omega) hkn hs
  refine ⟨kn', ZqW ⟨r v + 1, e⟩ fun j r' h' => ?_⟩
  have a := ZAR e j
  have c := ZAR h' (r v + 1)
  rw [Nat.add_comm] at c
  rw [a] at c
  injection c with c
  exact c.symm
def ZBy (sup : List Int) (row : Nat) (v : Nat) : Int := if (v : Int) ∈ sup then ((Zv2 row (Xd (fun y => decide (y = (v : Int))) sup).toNat : Nat) : Int) else 0
theorem ZA0 (i p : Nat) : Zv2 i p < 2 := Nat.mod_lt _ (by decide)
theorem ZAY (sup : List Int) (row v : Nat) : Bit (ZBy sup row v) := by
  unfold ZBy Bit
  split
  · have := ZA0 row (Xd (fun y => decide (y = (v : Int))) sup).toNat
    omega
  · exact .inl rfl
theorem ZBg {sup : List Int} (hs : sup.Pairwise (· < ·)) {row p v : Nat} (h : sup[p]? = some (v : Int)) : ZBy sup row v = ((Zv2 row p : Nat) : Int) := by
  unfold ZBy
  rw [if_pos (List.mem_of_getElem? h), Zr1 hs h, Int.toNat_natCast]
noncomputable def ZCh (b : Zg) (sup : List Int) (row : Nat) : Nat → Int := open Classical in if h : ∃ W, Tak b (ZBy sup row) W then Classical.choose h else fun _ => 0
theorem ZA7 {b : Zg} {s : List Bool × List Int} (h : Lgc b s) (sup : List Int) (row : Nat) : Tak b (ZBy sup row) (ZCh b sup row) := by
  have hx := ZB8 h (ZBy sup row) (ZAY sup row)
  unfold ZCh
  rw [dif_pos hx]
  exact Classical.choose_spec hx
noncomputable def fnL (b : Zg) (sup : List Int) (v : Nat) : List Int := (List.range (2 ^ sup.length)).map fun row => ZCh b sup row v
theorem Zz3 (b : Zg) (sup : List Int) (v : Nat) : (fnL b sup v).length = 2 ^ sup.length := by simp [fnL]
theorem ZBK (b : Zg) (sup : List Int) (v : Nat) {row : Nat} (h : row < 2 ^ sup.length) : (fnL b sup v)[row]? = some (ZCh b sup row v) := by
  unfold fnL
  rw [List.getElem?_map, List.getElem?_range h]
  rfl
theorem ZBz {k : Nat} (h : k ≤ 8) : 2 ^ k ≤ 256 := Nat.le_trans (Nat.pow_le_pow_right (by omega) h) (by decide)
theorem ZBf {m : Nat} (h : m ≤ 8) : Wq ((1 : Int) * (2 : Int) ^ min m (IntKind.bits IntKind.i64)) = ((2 ^ m : Nat) : Int) := by
  have hb : min m (IntKind.bits IntKind.i64) = m := Nat.min_eq_left (by show m ≤ 64; omega)
  have e : (1 : Int) * (2 : Int) ^ m = ((2 ^ m : Nat) : Int) := by simp
  rw [hb, e]
  have h16 := ZBz h
  clear hb e
  generalize 2 ^ m = g at h16 ⊢
  rw [ZdP (by omega) (by omega)]
theorem ZAB {x p : Nat} (hx : x ≤ 1048576) (hp : p ≤ 8) : Go.bits Go.BinOp.and IntKind.i64 (Int.fdiv (x : Int) ((2 : Int) ^ min p (IntKind.bits IntKind.i64))) (1 : Int) = ((Zv2 x p : Nat) : Int) := ZB4 (by omega) (by omega)
theorem ZAa {b : Zg} {s : List Bool × List Int} (h : Lgc b s) {v : Nat} (hv : v < Yi b) :
    Zwl (b, gates b, s.2, ()) (v : Int) = some (if 8 < (ZhP (Yi b) (ins b) v).length then ([], [], false) else (fnL b (ZhP (Yi b) (ins b) v) v, ZhP (Yi b) (ins b) v, true)) := by
  have hn := QS h.blk
  obtain ⟨out, e, ho, ho2⟩ := Zmi h
  have hinc := Zm9 (Yi b) (ins b) v
  unfold Zwl
  rw [e, Bq, Zo, ho2 v hv, Bq]
  have hmem : ∀ {p : Nat} {y : Int}, (ZhP (Yi b) (ins b) v)[p]? = some y → ∃ u : Nat, y = (u : Int) ∧ u < Yi b ∧ ins b u = none := fun {p y} hy => (Zp1 h.blk).1 (Zpg h.blk hv (List.mem_of_getElem? hy))
  generalize hsup : ZhP (Yi b) (ins b) v = sup at hinc hmem
  by_cases q : 8 < sup.length
  · rw [if_pos q, if_pos (by omega)]
  · rw [if_neg q, if_neg (by omega), Zi (by omega)]
    have hk : sup.length ≤ 8 := by omega
    have hp := ZBz hk
    refine YS (2 ^ sup.length) (fun k w => w = ((k : Int), (fnL b sup v).take k, ())) _ rfl ?_ ?_
    · rintro row _ hrow rfl
      left
      refine ⟨_, ?_, rfl⟩
      simp only [Zwg, Int.toNat_natCast, ZBf hk]
      rw [if_pos (by omega)]
      let vals : List Int := (List.range sup.length).map fun p => ((Zv2 row p : Nat) : Int)
      have hvl : vals.length = sup.length := by simp [vals]
      have hva : ∀ p, p < sup.length → vals[p]? = some ((Zv2 row p : Nat) : Int) := fun p hp => by
        show ((List.range sup.length).map fun p => ((Zv2 row p : Nat) : Int))[p]? = _
        rw [List.getElem?_map, List.getElem?_range hp]
        rfl
      obtain ⟨out2, e2, hl2, hv2⟩ := ZAv h (m := ZpN (v := .int .i64) sup vals sup.length) (ZA7 h sup row) (fun u hu hiu => by
        by_cases w : (u : Int) ∈ sup
        · obtain ⟨p, hp⟩ := List.mem_iff_getElem?.1 w
          have hpl := (List.getElem?_eq_some_iff.1 hp).1
          rw [ZmJ (v := .int .i64) hinc hvl _ (Nat.le_refl _) p _ hp, if_pos hpl, hva p hpl, ZBg hinc hp]
          rfl
        · rw [ZAm (v := .int .i64) w]
          unfold ZBy
          rw [if_neg w]
          rfl)
      refine Xi (l := sup) (fun p => ((p : Int), ZpN (v := .int .i64) sup vals p, ())) (fun p y hy hpl => ?_) ?_
      · simp only [Zwf, show (p : Int) < (sup.length : Int) from by omega, if_true, Zo, hy, Bq, Int.toNat_natCast, ZAB (show row ≤ 1048576 by omega) (show p ≤ 8 by omega), Qb (show p ≤ 1048576 by omega)]
        rw [Zi (by omega)]
        have ek : ZpN (v := .int .i64) sup vals (p + 1) = ZkQ (.int .i64) (.int .i64) (ZpN (v := .int .i64) sup vals p) y ((Zv2 row p : Nat) : Int) := by
          conv => lhs; unfold ZpN
          rw [hy, hva p hpl]
        rw [ek]
        rfl
      · simp only [Zwf, Int.lt_irrefl, if_false, e2, Bq, Zo, hv2 v hv, Qb (show row ≤ 1048576 by omega)]
        rw [Zi (by rw [List.length_take, Zz3]; simp only [List.length_cons, List.length_nil]; omega), Yo (ZBK b sup v hrow)]
    · rintro _ rfl
      simp only [Zwg, Int.toNat_natCast, ZBf hk]
      rw [if_neg (by omega), List.take_of_length_le (by rw [Zz3]; omega)]
theorem Zz6 {k : Nat} (hk : k ≤ 8) : ZwT (k : Int) = some ((2 ^ k : Nat) : Int) := by
  unfold ZwT
  refine YS k (fun j w => w = (((2 ^ j : Nat) : Int), (j : Int), ())) _ rfl ?_ ?_
  · rintro j _ hj rfl
    left
    have hp := ZBz (show j ≤ 8 by omega)
    refine ⟨_, ?_, rfl⟩
    rw [Nat.pow_succ]
    generalize 2 ^ j = g at hp
    simp only [ZwK]
    rw [if_pos (by omega), ZdP (by omega) (by omega), Qb (by omega)]
    congr 3
    omega
  · rintro _ rfl
    simp only [ZwK, Int.lt_irrefl, if_false]
def ZBG (row k : Nat) : List Int := (List.range k).map fun p => ((Zv2 row p : Nat) : Int)
theorem ZAZ (row k : Nat) : (ZBG row k).length = k := by simp [ZBG]
theorem ZBh (row : Nat) {k p : Nat} (h : p < k) : (ZBG row k)[p]? = some ((Zv2 row p : Nat) : Int) := by
  unfold ZBG
  rw [List.getElem?_map, List.getElem?_range h]
  rfl
theorem ZBZ (x : Nat) : Int.tmod (x : Int) 2 = ((x % 2 : Nat) : Int) := by
  rw [Int.tmod_eq_emod_of_nonneg (by omega)]
  omega
theorem ZB9 (x : Nat) : Int.tdiv (x : Int) 2 = ((x / 2 : Nat) : Int) := by
  rw [Int.tdiv_eq_ediv_of_nonneg (by omega)]
  omega
theorem Zz7 (row p : Nat) : row / 2 ^ p / 2 = row / 2 ^ (p + 1) := by rw [Nat.div_div_eq_div_mul, Nat.pow_succ]
theorem ZBc {row k : Nat} (hr : row ≤ 1048576) (hk : k ≤ 8) : Zw8 (row : Int) (k : Int) = some (ZBG row k) := by
  unfold Zw8
  refine YS k (fun j w => w = (((row / 2 ^ j : Nat) : Int), (ZBG row k).take j, (j : Int), ())) _ (by rw [Nat.pow_zero, Nat.div_one]; rfl) ?_ ?_
  · rintro j _ hj rfl
    left
    refine ⟨_, ?_, rfl⟩
    have hle : row / 2 ^ j ≤ row := Nat.div_le_self _ _
    simp only [ZwJ, show (j : Int) < (k : Int) from by omega, if_true, ZBZ, ZB9, Qb (show j ≤ 1048576 by omega), Zz7]
    have hle2 : row / 2 ^ (j + 1) ≤ row := Nat.div_le_self _ _
    rw [Zi (by rw [List.length_take, ZAZ]; simp only [List.length_cons, List.length_nil]; omega), ZdP (by have := Int.natCast_nonneg (row / 2 ^ (j + 1)); omega) (by omega), Yo (ZBh row hj)]
    rfl
  · rintro _ rfl
    simp only [ZwJ, Int.lt_irrefl, if_false]
    rw [List.take_of_length_le (by rw [ZAZ]; omega)]
def ZAn (n : Nat) (sup : List Int) (row k : Nat) : List Int := (List.range n).map fun v : Nat => if (v : Int) ∈ sup.take k then ZBy sup row v else -1
theorem Zy0 (n : Nat) (sup : List Int) (row k : Nat) : (ZAn n sup row k).length = n := by simp [ZAn]
theorem ZxZ {n : Nat} {sup : List Int} {row k v : Nat} (hv : v < n) : (ZAn n sup row k)[v]? = some (if (v : Int) ∈ sup.take k then ZBy sup row v else -1) := by
  unfold ZAn
  rw [List.getElem?_map, List.getElem?_range hv]
  rfl
theorem ZAS {b : Zg} (h : VF b) {sup : List Int} (hs : sup.Pairwise (· < ·)) (hm : ∀ {p : Nat} {y : Int}, sup[p]? = some y → ∃ u : Nat, y = (u : Int) ∧ u < Yi b) {row : Nat} (hk : sup.length ≤ 8) :
    Zw0 b sup (ZBG row sup.length) = some (ZAn (Yi b) sup row sup.length) := by
  have hn := QS h
  unfold Zw0
  rw [show (Zb.Yb (Zg.Design b)).length = Yi b from rfl, Zi (by omega), Zi (by omega), Zi (by omega), Zi (by omega), Int.toNat_natCast]
  refine YS (Yi b) (fun k v => v = ((k : Int), List.replicate k (-1 : Int) ++ List.replicate (Yi b - k) (0 : Int), ())) _ (by rw [List.replicate_zero, List.nil_append]; rfl) ?_ ?_
  · rintro k _ hk rfl
    left
    refine ⟨_, ?_, rfl⟩
    have e : List.replicate (Yi b - k) (0 : Int) = 0 :: List.replicate (Yi b - (k + 1)) 0 := by
      rw [show Yi b - k = (Yi b - (k + 1)) + 1 by omega, List.replicate_succ]
    have hat : (List.replicate k (-1 : Int) ++ List.replicate (Yi b - k) (0 : Int))[k]? = some 0 := by
      rw [List.getElem?_append_right (by simp), e]; simp
    have hlen : (List.replicate k (-1 : Int) ++ List.replicate (Yi b - k) (0 : Int)).length = Yi b := by simp; omega
    simp only [ZwA, hlen, show (k : Int) < (Yi b : Int) from by omega, if_true, Zo, hat, Bq, Qb (show k ≤ 1048576 by omega), Int.toNat_natCast]
    congr 3
    rw [e, List.set_append_right _ _ (by simp), List.length_replicate, Nat.sub_self, List.set_cons_zero, List.replicate_succ', List.append_assoc]
    rfl
  · rintro _ rfl
    simp only [ZwA, Nat.sub_self, List.replicate_zero, List.append_nil, List.length_replicate, Int.lt_irrefl, if_false]
    have e0 : List.replicate (Yi b) (-1 : Int) = ZAn (Yi b) sup row 0 := by
      apply List.ext_getElem?
      intro v
      by_cases hv : v < Yi b
      · rw [ZxZ hv, List.getElem?_replicate, if_pos hv, if_neg (by simp)]
      · rw [List.getElem?_eq_none (by simp; omega), List.getElem?_eq_none (by rw [Zy0]; omega)]
    rw [e0]
    have estep : ∀ {p u : Nat}, p < sup.length → u < Yi b → sup[p]? = some (u : Int) → (ZAn (Yi b) sup row p).set u ((Zv2 row p : Nat) : Int) = ZAn (Yi b) sup row (p + 1) := fun {p u} hpl hu hy => by
      apply List.ext_getElem?
      intro v
      by_cases hv : v < Yi b
      · rw [List.getElem?_set, ZxZ hv]
        by_cases q : u = v
        · subst q
          rw [if_pos rfl, if_pos (by rw [Zy0]; exact hu), ZxZ hv, Yo hy, if_pos (by simp), ZBg hs hy]
        · rw [if_neg q, ZxZ hv, Yo hy]
          have : ((v : Int) ∈ sup.take p ++ [(u : Int)]) ↔ (v : Int) ∈ sup.take p := by
            rw [List.mem_append, List.mem_singleton]
            exact ⟨fun z => z.elim id fun z => absurd (by omega) q, .inl⟩
          by_cases w : (v : Int) ∈ sup.take p
          · rw [if_pos w, if_pos (this.2 w)]
          · rw [if_neg w, if_neg (fun z => w (this.1 z))]
      · rw [List.getElem?_eq_none (by rw [List.length_set, Zy0]; omega), List.getElem?_eq_none (by rw [Zy0]; omega)]
    exact Xi (l := sup) (fun p => ((p : Int), ZAn (Yi b) sup row p, ())) (step := fun w => Zwm sup (ZBG row sup.length) w.1 w.2.1) (good := .inr (ZAn (Yi b) sup row sup.length)) (fun p y hy hpl => by
      obtain ⟨u, rfl, hu⟩ := hm hy
      simp only [Zwm, show (p : Int) < (sup.length : Int) from by omega, if_true, Zo, hy, Bq, ZBh row hpl, ZxZ hu, Int.toNat_natCast, Qb (show p ≤ 1048576 by omega), estep hpl hu hy])
      (by simp only [Zwm, Int.lt_irrefl, if_false])
theorem ZAx {b : Zg} {s : List Bool × List Int} (h : Lgc b s) {v : Nat} (hv : v < Yi b) (hk : (ZhP (Yi b) (ins b) v).length ≤ 8) : Zwz b (v : Int) (ZhP (Yi b) (ins b) v) = some (fnL b (ZhP (Yi b) (ins b) v) v) := by
  have hn := QS h.blk
  have hB := ZgL h.blk 0
  have hinc := Zm9 (Yi b) (ins b) v
  have hsrc : ∀ s, Src (ins b) v s → (s : Int) ∈ ZhP (Yi b) (ins b) v := fun s hs => (ZeK hB hv).2 ⟨s, rfl, hs⟩
  have hmem : ∀ {p : Nat} {y : Int}, (ZhP (Yi b) (ins b) v)[p]? = some y → ∃ u : Nat, y = (u : Int) ∧ u < Yi b ∧ ins b u = none := fun {p y} hy => (Zp1 h.blk).1 (Zpg h.blk hv (List.mem_of_getElem? hy))
  generalize hsup : ZhP (Yi b) (ins b) v = sup at hinc hmem hk hsrc
  have hp := ZBz hk
  unfold Zwz
  refine YS (2 ^ sup.length) (fun k w => w = ((fnL b sup v).take k, (k : Int), ())) _ rfl ?_ ?_
  · rintro row _ hrow rfl
    left
    refine ⟨_, ?_, rfl⟩
    have hW := ZA7 h sup row
    obtain ⟨kn', e⟩ := ZBd h hW (kn := ZAn (Yi b) sup row sup.length) hv ⟨Zy0 _ _ _ _, fun u hu hz => by
      have e1 := ZxZ (sup := sup) (row := row) (k := sup.length) hu
      unfold knA at hz ⊢
      rw [e1] at hz ⊢
      simp only [Option.getD_some] at hz ⊢
      by_cases w : (u : Int) ∈ sup.take sup.length
      · rw [if_pos w]
        rw [List.take_length] at w
        obtain ⟨p, hp⟩ := List.mem_iff_getElem?.1 w
        obtain ⟨u', e2, hu', hi⟩ := hmem hp
        have : u = u' := by omega
        subst this
        exact (hW.src hu hi).symm
      · rw [if_neg w] at hz
        omega⟩ (fun s0 hs0 => by
      have hs1 := Zqs hB hs0 hv
      unfold knA
      rw [ZxZ hs1, if_pos (by rw [List.take_length]; exact hsrc s0 hs0)]
      have := (ZAY sup row s0).nat
      simp only [Option.getD_some]
      omega)
    simp only [Zwn, Zz6 hk, Bq]
    rw [if_pos (by omega), ZBc (by omega) hk, Bq, ZAS h.blk hinc (fun hy => by obtain ⟨u, e1, e2, _⟩ := hmem hy; exact ⟨u, e1, e2⟩) hk, Bq, e, Bq]
    simp only [Qb (show row ≤ 1048576 by omega)]
    rw [Zi (by rw [List.length_take, Zz3]; simp only [List.length_cons, List.length_nil]; omega), Yo (ZBK b sup v hrow)]
  · rintro _ rfl
    simp only [Zwn, Zz6 hk, Bq]
    rw [if_neg (by omega), List.take_of_length_le (by rw [Zz3]; omega)]
/-
  Plain laws: weights, sensitivities, densities.
-/
def pr (g : Nat → Int) : Nat → Int
  | 0 => 1
  | k + 1 => pr g k * g k
theorem ZAq (g : Nat → Int) : ∀ k, pr g (k + 1) = g 0 * pr (fun p => g (p + 1)) k
  | 0 => by show 1 * g 0 = g 0 * 1; rw [Int.one_mul, Int.mul_one]
  | k + 1 => by
    show pr g (k + 1) * g (k + 1) = g 0 * (pr (fun p => g (p + 1)) k * g (k + 1))
    rw [ZAq g k, Int.mul_assoc]
theorem ZAg {g h : Nat → Int} : ∀ {k : Nat}, (∀ i, i < k → g i = h i) → pr g k = pr h k
  | 0, _ => rfl
  | k + 1, e => by
    show pr g k * g k = pr h k * h k
    rw [ZAg fun i hi => e i (by omega), e k (by omega)]
theorem ZBC {g : Nat → Int} (h : ∀ i, 0 ≤ g i ∧ g i ≤ 10) : ∀ k, 0 ≤ pr g k ∧ pr g k ≤ 10 ^ k
  | 0 => by show (0 : Int) ≤ 1 ∧ (1 : Int) ≤ 10 ^ 0; decide
  | k + 1 => by
    have h1 := ZBC h k
    have := ZA5 (h k) h1
    show 0 ≤ pr g k * g k ∧ pr g k * g k ≤ 10 ^ (k + 1)
    rw [Int.mul_comm (pr g k), Int.pow_succ, Int.mul_comm (10 ^ k)]
    exact this
theorem ZBB {k : Nat} (h : k ≤ 8) : (10 : Int) ^ k ≤ 100000000 := by
  have : (10 : Nat) ^ k ≤ 10 ^ 8 := Nat.pow_le_pow_right (by omega) h
  have e : ((10 ^ k : Nat) : Int) = (10 : Int) ^ k := by simp
  rw [← e]
  have e2 : (10 : Nat) ^ 8 = 100000000 := by decide
  rw [e2] at this
  omega
theorem ZCg {g : Nat → Int} (h : ∀ i, 0 ≤ g i ∧ g i ≤ 10) {k : Nat} (hk : k + 1 ≤ 8) : Wq (pr g k * g k) = pr g (k + 1) := by
  have := ZBC h (k + 1)
  have h8 := ZBB hk
  show Wq (pr g (k + 1)) = _
  rw [ZdP (by omega) (by omega)]
def ZAe (fs : List (Int × Int)) (p : Nat) : Int × Int := (fs[p]?).getD (0, 1)
theorem Zz5 {fs : List (Int × Int)} (h : ZB2 fs) (p : Nat) : 0 ≤ (ZAe fs p).1 ∧ (ZAe fs p).1 ≤ (ZAe fs p).2 ∧ 1 ≤ (ZAe fs p).2 ∧ (ZAe fs p).2 ≤ 10 := by
  unfold ZAe
  cases e : fs[p]? with
  | none => decide
  | some x => exact h x (List.mem_of_getElem? e)
theorem ZAD (i p : Nat) : i / 2 / 2 ^ p = i / 2 ^ (p + 1) := by rw [Nat.div_div_eq_div_mul, Nat.pow_succ, Nat.mul_comm]
theorem ZBx : ∀ (fs : List (Int × Int)) (i : Nat), wOf fs i = pr (fun p => fac (ZAe fs p) (i / 2 ^ p)) fs.length
  | [], _ => rfl
  | x :: t, i => by
    rw [List.length_cons, ZAq]
    show fac x i * wOf t (i / 2) = _
    rw [ZBx t (i / 2), Nat.pow_zero, Nat.div_one]
    congr 1
    refine ZAg fun p hp => ?_
    rw [ZAD]
    rfl
theorem ZBP : ∀ (fs : List (Int × Int)) (i q : Nat), wWo fs i q = pr (fun p => if p = q then 1 else fac (ZAe fs p) (i / 2 ^ p)) fs.length
  | [], _, _ => rfl
  | x :: t, i, 0 => by
    rw [List.length_cons, ZAq, if_pos rfl, Int.one_mul]
    show wOf t (i / 2) = _
    rw [ZBx t (i / 2)]
    refine ZAg fun p hp => ?_
    rw [if_neg (by omega), ZAD]
    rfl
  | x :: t, i, q + 1 => by
    rw [List.length_cons, ZAq, if_neg (by omega)]
    show fac x i * wWo t (i / 2) q = _
    rw [ZBP t (i / 2) q, Nat.pow_zero, Nat.div_one]
    congr 1
    refine ZAg fun p hp => ?_
    by_cases e : p = q
    · rw [if_pos e, if_pos (by omega)]
    · rw [if_neg e, if_neg (by omega), ZAD]
      rfl
theorem ZAQ : ∀ (fs : List (Int × Int)), ZL fs = pr (fun p => (ZAe fs p).2) fs.length
  | [] => rfl
  | x :: t => by
    rw [List.length_cons, ZAq]
    show x.2 * ZL t = _
    rw [ZAQ t]
    rfl
def ZAC (a : Zk) : Int × Int := (ZB.Num (Zk.High a), ZB.Den (Zk.High a))
def fsL (b : Zg) (list : List Zk) (sup : List Int) : List (Int × Int) := sup.map fun x => ZAC (ZkY b list x)
theorem ZyZ (b : Zg) (list : List Zk) (sup : List Int) : (fsL b list sup).length = sup.length := by simp [fsL]
theorem ZBm {b : Zg} {list : List Zk} {sup : List Int} {p : Nat} {x : Int} (h : sup[p]? = some x) : (fsL b list sup)[p]? = some (ZAC (ZkY b list x)) := by
  unfold fsL
  rw [List.getElem?_map, h]
  rfl
theorem Zz4 {b : Zg} {list : List Zk} {sup : List Int} {p : Nat} {x : Int} (h : sup[p]? = some x) : ZAe (fsL b list sup) p = ZAC (ZkY b list x) := by
  unfold ZAe
  rw [ZBm h]
  rfl
theorem Zz8 {b : Zg} {list : List Zk} (ha : ZgC b list) {sup : List Int} (hin : ∀ x ∈ sup, x ∈ srcs b) : ZB2 (fsL b list sup) := by
  intro y hy
  obtain ⟨x, hx, rfl⟩ := List.mem_map.1 hy
  obtain ⟨_, _, _, h3, _⟩ := Zmp ha (hin x hx)
  obtain ⟨⟨⟨e1, _⟩, ⟨e3, e4⟩, _⟩, d10, _⟩ := h3
  exact ⟨e3, e4, e1, d10⟩
theorem ZBJ {x : Int × Int} (h : 0 ≤ x.1 ∧ x.1 ≤ x.2 ∧ 1 ≤ x.2 ∧ x.2 ≤ 10) : Wq (x.2 - x.1) = x.2 - x.1 := ZdP (by omega) (by omega)
theorem ZAw {b : Zg} {s : List Bool × List Int} {list : List Zk} (ha : ZgC b list) {sup : List Int} (hk : sup.length ≤ 8) (hin : ∀ x ∈ sup, x ∈ srcs b) {row : Nat} (hr : row ≤ 1048576) (q : Nat) :
    Zwk (chn b s list) sup (row : Int) (q : Int) = some (wWo (fsL b list sup) row q) := by
  have hfs := Zz8 ha hin
  have hg : ∀ i, 0 ≤ (if i = q then (1 : Int) else fac (ZAe (fsL b list sup) i) (row / 2 ^ i)) ∧ (if i = q then (1 : Int) else fac (ZAe (fsL b list sup) i) (row / 2 ^ i)) ≤ 10 := fun i => by
    split
    · omega
    · exact ZA2 (Zz5 hfs i) _
  rw [ZBP, ZyZ]
  unfold Zwk
  refine Xi (l := sup) (fun k => (pr (fun p => if p = q then 1 else fac (ZAe (fsL b list sup) p) (row / 2 ^ p)) k, (k : Int), ())) (fun p x hx hp => ?_) ?_
  · have e : ZhK (Ty.int IntKind.i64) ZE (Vi.of (chn b s list)) x = some (ZkY b list x) := ZqB ha (hin x (List.mem_of_getElem? hx))
    have hw := ZCg hg (k := p) (by omega)
    have hf := Zz5 hfs p
    rw [Zz4 hx] at hf
    have hf2 := ZBJ hf
    simp only [Zwe, show (p : Int) < (sup.length : Int) from by omega, if_true, Zo, hx, Bq, e, Option.getD_some, Int.toNat_natCast, ZAB hr (show p ≤ 8 by omega), Qb (show p ≤ 1048576 by omega)]
    by_cases c : p = q
    · subst c
      rw [if_pos rfl, ← hw, if_pos rfl, Int.mul_one, ZdP]
      · have := ZBC hg p; omega
      · have := ZBC hg p
        have := ZBB (show p ≤ 8 by omega)
        omega
    · rw [if_neg (by omega), Zi (by omega), ← hw, if_neg c, Zz4 hx]
      unfold fac
      have hbit : row / 2 ^ p % 2 = Zv2 row p := rfl
      rw [hbit]
      by_cases d : Zv2 row p = 1
      · rw [if_pos (by omega), if_pos d]
        rfl
      · rw [if_neg (by omega), if_neg d]
        show some (Sum.inl (Wq (_ * Wq ((ZAC (ZkY b list x)).2 - (ZAC (ZkY b list x)).1)), _)) = _
        rw [hf2]
  · simp only [Zwe, Int.lt_irrefl, if_false]
theorem ZzO {b : Zg} {s : List Bool × List Int} {list : List Zk} (ha : ZgC b list) {sup : List Int} (hk : sup.length ≤ 8) (hin : ∀ x ∈ sup, x ∈ srcs b) : Zv0 (chn b s list) sup (-1) = some (ZL (fsL b list sup)) := by
  have hfs := Zz8 ha hin
  have hg : ∀ i, 0 ≤ (ZAe (fsL b list sup) i).2 ∧ (ZAe (fsL b list sup) i).2 ≤ 10 := fun i => by have := Zz5 hfs i; omega
  rw [ZAQ, ZyZ]
  unfold Zv0
  refine Xi (l := sup) (fun k => (pr (fun p => (ZAe (fsL b list sup) p).2) k, (k : Int), ())) (fun p x hx hp => ?_) ?_
  · have e : ZhK (Ty.int IntKind.i64) ZE (Vi.of (chn b s list)) x = some (ZkY b list x) := ZqB ha (hin x (List.mem_of_getElem? hx))
    have hw := ZCg hg (k := p) (by omega)
    simp only [ZvY, show (p : Int) < (sup.length : Int) from by omega, if_true, Zo, hx, Bq, e, Option.getD_some, Qb (show p ≤ 1048576 by omega)]
    rw [if_neg (by omega), ← hw, Zz4 hx]
    rfl
  · simp only [ZvY, Int.lt_irrefl, if_false]
theorem ZAN {b : Zg} (h : VF b) {list : List Zk} (ha : ZgC b list) {sup : List Int} (hk : sup.length ≤ 8) (hin : ∀ x ∈ sup, x ∈ srcs b) {row : Nat} (hr : row ≤ 1048576) : ZwS b list sup (row : Int) = some (wOf (fsL b list sup) row) := by
  have hfs := Zz8 ha hin
  have hg : ∀ i, 0 ≤ fac (ZAe (fsL b list sup) i) (row / 2 ^ i) ∧ fac (ZAe (fsL b list sup) i) (row / 2 ^ i) ≤ 10 := fun i => ZA2 (Zz5 hfs i) _
  rw [ZBx, ZyZ]
  unfold ZwS
  have := Xi (l := sup) (fun k => (((row / 2 ^ k : Nat) : Int), pr (fun p => fac (ZAe (fsL b list sup) p) (row / 2 ^ p)) k, (k : Int), ())) (step := fun v => Zwh b list sup v.1 v.2.1 v.2.2.1) (good := pr (fun p => fac (ZAe (fsL b list sup) p) (row / 2 ^ p)) sup.length) (fun p x hx hp => by
    have e := ZpP h ha (hin x (List.mem_of_getElem? hx))
    have hw := ZCg hg (k := p) (by omega)
    have hf := Zz5 hfs p
    rw [Zz4 hx] at hf
    have hf2 := ZBJ hf
    have hle : row / 2 ^ p ≤ row := Nat.div_le_self _ _
    have hle2 : row / 2 ^ (p + 1) ≤ row := Nat.div_le_self _ _
    have hnn := Int.natCast_nonneg (row / 2 ^ (p + 1))
    simp only [Zwh, show (p : Int) < (sup.length : Int) from by omega, if_true, Zo, hx, Bq, e, ZBZ, ZB9, Qb (show p ≤ 1048576 by omega), Zz7]
    rw [ZdP (n := ((row / 2 ^ (p + 1) : Nat) : Int)) (by omega) (by omega), ← hw, Zz4 hx]
    unfold fac
    by_cases d : row / 2 ^ p % 2 = 1
    · rw [if_pos (by omega), if_pos d]
      rfl
    · rw [if_neg (by omega), if_neg d]
      show some (Sum.inl (_, Wq (_ * Wq ((ZAC (ZkY b list x)).2 - (ZAC (ZkY b list x)).1)), _)) = _
      rw [hf2])
    (by simp only [Zwh, Int.lt_irrefl, if_false])
  simp only [Nat.pow_zero, Nat.div_one] at this
  exact this
theorem ZAH {b : Zg} (h : VF b) {list : List Zk} (ha : ZgC b list) {sup : List Int} (hk : sup.length ≤ 8) (hin : ∀ x ∈ sup, x ∈ srcs b) : ZwM b list sup = some (ZL (fsL b list sup)) := by
  have hfs := Zz8 ha hin
  have hg : ∀ i, 0 ≤ (ZAe (fsL b list sup) i).2 ∧ (ZAe (fsL b list sup) i).2 ≤ 10 := fun i => by have := Zz5 hfs i; omega
  rw [ZAQ, ZyZ]
  unfold ZwM
  refine Xi (l := sup) (fun k => (pr (fun p => (ZAe (fsL b list sup) p).2) k, (k : Int), ())) (fun p x hx hp => ?_) ?_
  · have e := ZpP h ha (hin x (List.mem_of_getElem? hx))
    have hw := ZCg hg (k := p) (by omega)
    simp only [Zwt, show (p : Int) < (sup.length : Int) from by omega, if_true, Zo, hx, Bq, e, Qb (show p ≤ 1048576 by omega)]
    rw [← hw, Zz4 hx]
    rfl
  · simp only [Zwt, Int.lt_irrefl, if_false]
def fv (f : List Int) (i : Nat) : Int := (f[i]?).getD 0
theorem ZBn {f : List Int} {i : Nat} (h : i < f.length) : f[i]? = some (fv f i) := by
  unfold fv
  rw [List.getElem?_eq_getElem h]
  rfl
def ZAV (fs : List (Int × Int)) (f : List Int) (q k : Nat) : Int := sumTo (fun i => if Zv2 i q = 0 ∧ fv f i ≠ fv f (i + 2 ^ q) then wWo fs i q else 0) k
theorem ZBt {fs : List (Int × Int)} (h : ZB2 fs) (hl : fs.length ≤ 8) (f : List Int) (q k : Nat) : 0 ≤ ZAV fs f q k ∧ ZAV fs f q k ≤ (k : Int) * 100000000 := by
  refine ZAh fun i hi => ?_
  have h1 := ZBO h i q
  have h2 := ZBB hl
  split <;> omega
theorem ZzP {b : Zg} {s : List Bool × List Int} {list : List Zk} (ha : ZgC b list) {sup : List Int} (hk : sup.length ≤ 8) (hin : ∀ x ∈ sup, x ∈ srcs b) {f : List Int} (hf : f.length = 2 ^ sup.length) {q : Nat} (hq : q < sup.length) :
    Zv1 (chn b s list) f sup (q : Int) = some (ZAV (fsL b list sup) f q (2 ^ sup.length)) := by
  have hfs := Zz8 ha hin
  have hp := ZBz hk
  have hql : 2 ^ q ≤ 256 := ZBz (by omega)
  unfold Zv1
  refine YS (2 ^ sup.length) (fun k w => w = (ZAV (fsL b list sup) f q k, (k : Int), ())) _ rfl ?_ ?_
  · rintro i _ hi rfl
    left
    refine ⟨_, ?_, rfl⟩
    have hbd := ZBt hfs (by rw [ZyZ]; exact hk) f q (i + 1)
    have hsuc : ZAV (fsL b list sup) f q (i + 1) = ZAV (fsL b list sup) f q i + (if Zv2 i q = 0 ∧ fv f i ≠ fv f (i + 2 ^ q) then wWo (fsL b list sup) i q else 0) := rfl
    simp only [ZvZ, hf, show (i : Int) < ((2 ^ sup.length : Nat) : Int) from by omega, if_true, Zo, ZBn (show i < f.length by omega), Bq, Int.toNat_natCast, ZAB (show i ≤ 1048576 by omega) (show q ≤ 8 by omega), ZBf (show q ≤ 8 by omega), Qb (show i ≤ 1048576 by omega)]
    rw [Zi (by omega)]
    by_cases c : Zv2 i q = 0
    · have hrl := ZBN hq hi c
      rw [if_pos (by omega), ZAj (by omega) (by omega), ZBW c, Zo, ZBn (show i + 2 ^ q < f.length by omega), Bq]
      by_cases d : fv f i = fv f (i + 2 ^ q)
      · rw [if_pos d, hsuc, if_neg (fun z => z.2 d), Int.add_zero]
      · rw [if_neg d, ZAw ha hk hin (by omega) q, Bq, hsuc, if_pos ⟨c, d⟩]
        rw [hsuc, if_pos ⟨c, d⟩] at hbd
        rw [ZdP (by omega) (by omega)]
    · rw [if_neg (by omega), hsuc, if_neg (fun z => c z.1), Int.add_zero]
  · rintro _ rfl
    simp only [ZvZ, hf, Int.lt_irrefl, if_false]
def chg (f : List Int) (q i : Nat) : Prop := fv f i ≠ fv f (if Zv2 i q = 1 then i - 2 ^ q else i + 2 ^ q)
instance (f : List Int) (q i : Nat) : Decidable (chg f q i) := by unfold chg; infer_instance
theorem ZCH {f : List Int} {q i : Nat} (c : Zv2 i q = 1) : chg f q i ↔ fv f i ≠ fv f (i - 2 ^ q) := by unfold chg; rw [if_pos c]
theorem ZCG {f : List Int} {q i : Nat} (c : ¬ Zv2 i q = 1) : chg f q i ↔ fv f i ≠ fv f (i + 2 ^ q) := by unfold chg; rw [if_neg c]
def ZBH (f : List Int) (q n : Nat) : List Int := (List.range n).map fun i => if chg f q i then 1 else 0
theorem ZAd (f : List Int) (q n : Nat) : (ZBH f q n).length = n := by simp [ZBH]
theorem ZBi (f : List Int) (q : Nat) {n i : Nat} (h : i < n) : (ZBH f q n)[i]? = some (if chg f q i then 1 else 0) := by
  unfold ZBH
  rw [List.getElem?_map, List.getElem?_range h]
  rfl
theorem ZB5 {i q : Nat} (h : Zv2 i q = 1) : 2 ^ q ≤ i := by
  unfold Zv2 at h
  by_cases c : i < 2 ^ q
  · rw [Nat.div_eq_of_lt c] at h; omega
  · omega
theorem ZCK (x y : Nat) : Int.tdiv (x : Int) (y : Int) = ((x / y : Nat) : Int) := by
  rw [Int.tdiv_eq_ediv_of_nonneg (by omega)]
  rfl
theorem ZAM {f : List Int} {k q : Nat} (hk : k ≤ 8) (hf : f.length = 2 ^ k) (hq : q < k) : ZwR f ((2 ^ q : Nat) : Int) = some (ZBH f q (2 ^ k)) := by
  have hp := ZBz hk
  have hql : 2 ^ q ≤ 256 := ZBz (by omega)
  have hq0 : 0 < 2 ^ q := Nat.two_pow_pos q
  unfold ZwR
  refine YS (2 ^ k) (fun i w => w = ((ZBH f q (2 ^ k)).take i, (i : Int), ())) _ rfl ?_ ?_
  · rintro i _ hi rfl
    left
    refine ⟨_, ?_, rfl⟩
    have hle : i / 2 ^ q ≤ i := Nat.div_le_self _ _
    have hnn := Int.natCast_nonneg (i / 2 ^ q)
    have hg : ∀ x : Int, ((List.take i (ZBH f q (2 ^ k))).length + [x].length) * 8 ≤ 140737488355328 := fun x => by
      rw [List.length_take, ZAd]; simp only [List.length_cons, List.length_nil]; omega
    simp only [Zwy, hf, show (i : Int) < ((2 ^ k : Nat) : Int) from by omega, if_true, ZCK, Qb (show i ≤ 1048576 by omega)]
    rw [Zi (by omega), ZdP (n := ((i / 2 ^ q : Nat) : Int)) (by omega) (by omega), ZBZ, Zo, ZBn (show i < f.length by omega), Bq, Bq, Yo (ZBi f q hi)]
    have hbit : i / 2 ^ q % 2 = Zv2 i q := rfl
    rw [hbit]
    by_cases c : Zv2 i q = 1
    · have hle2 := ZB5 c
      rw [if_pos (by omega), show ((i : Int) - ((2 ^ q : Nat) : Int)) = ((i - 2 ^ q : Nat) : Int) by omega, ZdP (by omega) (by omega), Zo, ZBn (show i - 2 ^ q < f.length by omega), Bq]
      by_cases d : fv f i = fv f (i - 2 ^ q)
      · rw [if_pos d, Zi (hg _), if_neg (fun z => (ZCH c).1 z d)]
      · rw [if_neg d, Zi (hg _), if_pos ((ZCH c).2 d)]
    · have c0 : Zv2 i q = 0 := by have := ZA0 i q; omega
      have hrl := ZBN hq hi c0
      rw [if_neg (by omega), show ((i : Int) + ((2 ^ q : Nat) : Int)) = ((i + 2 ^ q : Nat) : Int) by omega, ZdP (by omega) (by omega), Zo, ZBn (show i + 2 ^ q < f.length by omega), Bq]
      by_cases d : fv f i = fv f (i + 2 ^ q)
      · rw [if_pos d, Zi (hg _), if_neg (fun z => (ZCG c).1 z d)]
      · rw [if_neg d, Zi (hg _), if_pos ((ZCG c).2 d)]
  · rintro _ rfl
    simp only [Zwy, hf, Int.lt_irrefl, if_false]
    rw [List.take_of_length_le (by rw [ZAd]; omega)]
theorem ZBp {b : Zg} (h : VF b) {list : List Zk} (ha : ZgC b list) {sup : List Int} (hk : sup.length ≤ 8) (hin : ∀ x ∈ sup, x ∈ srcs b) (f : List Int) (q : Nat) :
    Zx2 b list sup (ZBH f q (2 ^ sup.length)) = some (sumTo (fun i => if chg f q i then wOf (fsL b list sup) i else 0) (2 ^ sup.length)) := by
  have hfs := Zz8 ha hin
  have hp := ZBz hk
  have hbd : ∀ k, 0 ≤ sumTo (fun i => if chg f q i then wOf (fsL b list sup) i else 0) k ∧ sumTo (fun i => if chg f q i then wOf (fsL b list sup) i else 0) k ≤ (k : Int) * 100000000 := fun k => by
    refine ZAh fun i hi => ?_
    have h1 := ZBw hfs i
    have h2 := ZBB (show (fsL b list sup).length ≤ 8 by rw [ZyZ]; exact hk)
    split <;> omega
  unfold Zx2
  refine YS (2 ^ sup.length) (fun k w => w = (sumTo (fun i => if chg f q i then wOf (fsL b list sup) i else 0) k, (k : Int), ())) _ rfl ?_ ?_
  · rintro i _ hi rfl
    left
    refine ⟨_, ?_, rfl⟩
    have hb2 := hbd (i + 1)
    have hsuc : sumTo (fun i => if chg f q i then wOf (fsL b list sup) i else 0) (i + 1) = sumTo (fun i => if chg f q i then wOf (fsL b list sup) i else 0) i + (if chg f q i then wOf (fsL b list sup) i else 0) := rfl
    simp only [ZwP, ZAd, show (i : Int) < ((2 ^ sup.length : Nat) : Int) from by omega, if_true, Zo, ZBi f q hi, Bq, Qb (show i ≤ 1048576 by omega)]
    by_cases c : chg f q i
    · rw [if_pos c, if_pos rfl, ZAN h ha hk hin (by omega), Bq, hsuc, if_pos c]
      rw [hsuc, if_pos c] at hb2
      rw [ZdP (by omega) (by omega)]
    · rw [if_neg c, if_neg (by omega), hsuc, if_neg c, Int.add_zero]
  · rintro _ rfl
    simp only [ZwP, ZAd, Int.lt_irrefl, if_false]
theorem ZBY {b : Zg} {list : List Zk} {sup : List Int} {f : List Int} {q : Nat} {x : Int} (hx : sup[q]? = some x) :
    sumTo (fun i => if chg f q i then wOf (fsL b list sup) i else 0) (2 ^ sup.length) = ZAV (fsL b list sup) f q (2 ^ sup.length) * (ZAC (ZkY b list x)).2 := by
  have := ZBV (ZBm (b := b) (list := list) hx) (fv f) (chg f q) (fun i hi hb => by
    constructor
    · exact ZCG (by omega)
    · rw [ZCH (ZA9 hb), Nat.add_sub_cancel]
      exact ⟨fun z e => z e.symm, fun z e => z e.symm⟩)
  rw [ZyZ] at this
  exact this
def part (b : Zg) (list : List Zk) (sup f : List Int) (p : Nat) : Int := match sup[p]? with
  | some x => ZAV (fsL b list sup) f p (2 ^ sup.length) * (ZAC (ZkY b list x)).2 * Zk.ZcR (ZkY b list x)
  | none => 0
theorem ZAU {b : Zg} {list : List Zk} (ha : ZgC b list) {sup : List Int} (hk : sup.length ≤ 8) (hin : ∀ x ∈ sup, x ∈ srcs b) (f : List Int) {p : Nat} {x : Int} (hx : sup[p]? = some x) :
    part b list sup f p = ZAV (fsL b list sup) f p (2 ^ sup.length) * (ZAC (ZkY b list x)).2 * Zk.ZcR (ZkY b list x) ∧ (0 ≤ ZAV (fsL b list sup) f p (2 ^ sup.length) * (ZAC (ZkY b list x)).2 ∧ ZAV (fsL b list sup) f p (2 ^ sup.length) * (ZAC (ZkY b list x)).2 ≤ 256000000000) ∧
      0 ≤ part b list sup f p ∧ part b list sup f p ≤ 256000000000000 := by
  have hfs := Zz8 ha hin
  have hp := ZBz hk
  have h1 := ZBt hfs (by rw [ZyZ]; exact hk) f p (2 ^ sup.length)
  have h2 := hfs _ (List.mem_of_getElem? (ZBm (b := b) (list := list) hx))
  obtain ⟨_, _, _, h3, _⟩ := Zmp ha (hin x (List.mem_of_getElem? hx))
  have h4 := h3.2.2
  have e : part b list sup f p = ZAV (fsL b list sup) f p (2 ^ sup.length) * (ZAC (ZkY b list x)).2 * Zk.ZcR (ZkY b list x) := by
    unfold part
    rw [hx]
  have hs : ZAV (fsL b list sup) f p (2 ^ sup.length) ≤ 25600000000 := by omega
  generalize ZAV (fsL b list sup) f p (2 ^ sup.length) = S at h1 hs e ⊢
  have m1 : 0 ≤ S * (ZAC (ZkY b list x)).2 := Int.mul_nonneg h1.1 (by omega)
  have m2 : S * (ZAC (ZkY b list x)).2 ≤ 25600000000 * 10 := Int.mul_le_mul hs h2.2.2.2 (by omega) (by omega)
  have m3 : 0 ≤ S * (ZAC (ZkY b list x)).2 * Zk.ZcR (ZkY b list x) := Int.mul_nonneg m1 h4.1
  have m4 : S * (ZAC (ZkY b list x)).2 * Zk.ZcR (ZkY b list x) ≤ 25600000000 * 10 * 1000 := Int.mul_le_mul m2 h4.2 h4.1 (by omega)
  refine ⟨e, ⟨m1, by omega⟩, by rw [e]; exact m3, by rw [e]; omega⟩
noncomputable def ZBS (b : Zg) (list : List Zk) (v : Nat) : Option Int :=
  ZwO (sumTo (part b list (ZhP (Yi b) (ins b) v) (fnL b (ZhP (Yi b) (ins b) v) v)) (ZhP (Yi b) (ins b) v).length) (ZL (fsL b list (ZhP (Yi b) (ins b) v))) 1
theorem ZBk (a c : Int) : ZxY a c 1 = ZwO a c 1 := by
  unfold ZxY ZwO
  by_cases h : Int.tmod a c < 0
  · simp [h]
  · simp [h]
theorem ZAk {b : Zg} {list : List Zk} (ha : ZgC b list) {v : Nat} (hin : ∀ x ∈ ZhP (Yi b) (ins b) v, x ∈ srcs b) : ∃ d, ZBS b list v = some d := by
  have := ZBj (Zz8 ha hin)
  unfold ZBS ZwO
  rw [Zi (by omega)]
  split
  · split
    · exact ⟨_, rfl⟩
    · split
      · split <;> exact ⟨_, rfl⟩
      · exact ⟨_, rfl⟩
  · split
    · split <;> exact ⟨_, rfl⟩
    · exact ⟨_, rfl⟩
theorem ZA6 {b : Zg} {list : List Zk} (ha : ZgC b list) {sup : List Int} (hk : sup.length ≤ 8) (hin : ∀ x ∈ sup, x ∈ srcs b) (f : List Int) : ∀ k, k ≤ sup.length → 0 ≤ sumTo (part b list sup f) k ∧ sumTo (part b list sup f) k ≤ (k : Int) * 256000000000000 := fun k hkl => by
  refine ZAh fun i hi => ?_
  have hx : sup[i]? = some (sup[i]'(by omega)) := List.getElem?_eq_getElem _
  exact (ZAU ha hk hin f hx).2.2
theorem ZAl {b : Zg} {s : List Bool × List Int} (h : Lgc b s) {list : List Zk} (ha : ZgC b list) {v : Nat} (hv : v < Yi b) :
    (8 < (ZhP (Yi b) (ins b) v).length → Zv3 (chn b s list) (v : Int) = some (0, false)) ∧ ((ZhP (Yi b) (ins b) v).length ≤ 8 → ∀ d, ZBS b list v = some d → Zv3 (chn b s list) (v : Int) = some (d, true)) := by
  have hin : ∀ x ∈ ZhP (Yi b) (ins b) v, x ∈ srcs b := fun x hx => Zpg h.blk hv hx
  have ef := ZAa h hv
  unfold Zv3
  rw [show Vi.logic (chn b s list) = (b, gates b, s.2, ()) from rfl]
  constructor
  · intro q
    rw [if_pos q] at ef
    rw [ef]
    rfl
  · intro q d hd
    rw [if_neg (by omega)] at ef
    rw [ef, Bq]
    simp only [if_true]
    unfold ZBS at hd
    have hlen := Zz3 b (ZhP (Yi b) (ins b) v) v
    generalize hsup : ZhP (Yi b) (ins b) v = sup at hin q hd hlen
    generalize fnL b sup v = f at hd hlen
    refine Xi (l := sup) (fun k => (sumTo (part b list sup f) k, (k : Int), ())) (fun p x hx hp => ?_) ?_
    · have e : ZhK (Ty.int IntKind.i64) ZE (Vi.of (chn b s list)) x = some (ZkY b list x) := ZqB ha (hin x (List.mem_of_getElem? hx))
      obtain ⟨p1, p2, p3, p4⟩ := ZAU ha q hin f hx
      have hb2 := ZA6 ha q hin f (p + 1) (by omega)
      have hsuc : sumTo (part b list sup f) (p + 1) = sumTo (part b list sup f) p + part b list sup f p := rfl
      rw [hsuc] at hb2
      simp only [Zwa, show (p : Int) < (sup.length : Int) from by omega, if_true, Zo, hx, Bq, e, Option.getD_some, ZzP ha q hin hlen hp, Qb (show p ≤ 1048576 by omega)]
      show some (Sum.inl (Wq (_ + Wq (Wq (_ * (ZAC (ZkY b list x)).2) * _)), _)) = _
      rw [ZdP (n := ZAV (fsL b list sup) f p (2 ^ sup.length) * (ZAC (ZkY b list x)).2) (by omega) (by omega), ← p1, ZdP (n := part b list sup f p) (by omega) (by omega), ZdP (by omega) (by omega), hsuc]
    · simp only [Zwa, Int.lt_irrefl, if_false, ZzO ha q hin, Bq, ZBk, hd]
theorem ZAF {b : Zg} {s : List Bool × List Int} (h : Lgc b s) {list : List Zk} (ha : ZgC b list) {v : Nat} (hv : v < Yi b) (hk : (ZhP (Yi b) (ins b) v).length ≤ 8) : ZwL b list (v : Int) = ZBS b list v := by
  have hin : ∀ x ∈ ZhP (Yi b) (ins b) v, x ∈ srcs b := fun x hx => Zpg h.blk hv hx
  obtain ⟨d, hd⟩ := ZAk ha hin
  rw [hd]
  unfold ZwL
  rw [Zkq h hv, Bq, ZAx h hv hk, Bq]
  unfold ZBS at hd
  have hlen := Zz3 b (ZhP (Yi b) (ins b) v) v
  generalize hsup : ZhP (Yi b) (ins b) v = sup at hin hk hd hlen
  generalize fnL b sup v = f at hd hlen
  refine Xi (l := sup) (fun k => (sumTo (part b list sup f) k, (k : Int), ())) (fun p x hx hp => ?_) ?_
  · have e := ZpP h.blk ha (hin x (List.mem_of_getElem? hx))
    obtain ⟨p1, p2, p3, p4⟩ := ZAU ha hk hin f hx
    have hb2 := ZA6 ha hk hin f (p + 1) (by omega)
    have hsuc : sumTo (part b list sup f) (p + 1) = sumTo (part b list sup f) p + part b list sup f p := rfl
    rw [hsuc] at hb2
    have hbit : Zx1 (p : Int) = some ((2 ^ p : Nat) : Int) := by
      unfold Zx1
      rw [Zz6 (by omega)]
      rfl
    simp only [Zws, show (p : Int) < (sup.length : Int) from by omega, if_true, hbit, Bq, ZAM hk hlen hp, Zo, hx, ZBp h.blk ha hk hin f p, e, ZBY hx, ← p1, Qb (show p ≤ 1048576 by omega)]
    rw [ZdP (n := part b list sup f p) (by omega) (by omega), ZdP (by omega) (by omega), hsuc]
  · simp only [Zws, Int.lt_irrefl, if_false, ZAH h.blk ha hk hin, Bq, hd]
/-
  Plain laws: loads, rates, powers of nets.
-/
theorem ZBe {b : Zg} (h : VF b) {v : Nat} {w : Zz} (hw : (Zg.Qo b)[v]? = some w) : ZwI b (v : Int) = ZvL b (v : Int) := by
  have hf := h.ok.1.few
  unfold ZwI ZvL
  rw [Zo, hw, Bq, Bq, show Zy1 (Zz.Cap w) = ZvW (Zz.Cap w) from rfl, ZaA _ hf, Zer _ hf, ZhE _ _ hf, ZwV _ _ hf]
  refine congrArg (Option.bind _) ?_
  funext l
  rw [Bq, Bq, Bq, Bq]
  refine congrArg (fun f => Zl f _) ?_
  funext u
  obtain ⟨i, l, ⟨⟩⟩ := u
  simp only [Zw4, ZvS]
  split
  · cases atI (sinks (Zg.Design b) (v : Int)) i with
    | none =>
      cases atI (Zz.Zj6 w) i with
      | none => rfl
      | some z =>
        simp only [Bq, Option.bind_none]
        cases atI l z <;> rfl
    | some y =>
      cases atI (Zz.Zj6 w) i with
      | none => rfl
      | some z =>
        simp only [Bq]
        cases atI l z with
        | none => rfl
        | some q => rfl
  · rfl
noncomputable def ZBA (b : Zg) (v : Nat) : Int := match ZvL b (v : Int) with
  | some r => (r[0]?).getD 0
  | none => 0
theorem ZBq {b : Zg} (h : VF b) {v : Nat} (hv : v < Yi b) : ∃ r, ZvL b (v : Int) = some r ∧ ZwI b (v : Int) = some r ∧ atI r 0 = some (ZBA b v) := by
  have hwl : (Zg.Qo b).length = Yi b := h.ok.2.1
  have hw : (Zg.Qo b)[v]? = some ((Zg.Qo b)[v]'(by omega)) := List.getElem?_eq_getElem _
  obtain ⟨r, e, hl⟩ := ZAI h hw
  have h1 := (h.ok.2.2 v _ hw).1.1
  refine ⟨r, e, by rw [ZBe h hw, e], ?_⟩
  unfold ZBA
  rw [e]
  simp only
  show atI r ((0 : Nat) : Int) = _
  rw [Zo, List.getElem?_eq_getElem (by omega)]
  rfl
theorem ZA8 {b : Zg} (h : VF b) {v : Nat} (hv : v < Yi b) : Zw7 b (v : Int) = some (ZBA b v, 0) := by
  have hn := QS h
  have hwl : (Zg.Qo b).length = Yi b := h.ok.2.1
  obtain ⟨r, _, e, e2⟩ := ZBq h hv
  unfold Zw7 Zy2
  rw [ZeA b h.sm, Bq, if_pos (Z5 h.ok), hwl, ZdP (by omega) (by omega), Qx, Bq, if_pos (Z5 ⟨by omega, by omega⟩), Bq, if_pos rfl, e, Bq, e2]
  rfl
noncomputable def ZAJ (b : Zg) (list : List Zk) (v : Nat) : Int := if 8 < (ZhP (Yi b) (ins b) v).length then Zry b list (ZhP (Yi b) (ins b) v) else (ZBS b list v).getD 0
noncomputable def ZBM (b : Zg) (list : List Zk) (v : Nat) : Int := Wq (ZAJ b list v * ZBA b v)
theorem ZAy {b : Zg} {s : List Bool × List Int} (h : Lgc b s) {list : List Zk} (ha : ZgC b list) {v : Nat} (hv : v < Yi b) : ZwU b list (v : Int) = some (ZAJ b list v) := by
  unfold ZwU ZAJ
  rw [Zkq h hv, Bq]
  by_cases q : 8 < (ZhP (Yi b) (ins b) v).length
  · rw [if_pos (by omega), if_pos q, ZkH h ha hv]
    rfl
  · obtain ⟨d, hd⟩ := ZAk ha (v := v) (fun x hx => Zpg h.blk hv hx)
    rw [if_neg (by omega), if_neg q, ZAF h ha hv (by omega), hd]
    rfl
theorem ZAo {b : Zg} {s : List Bool × List Int} (h : Lgc b s) {list : List Zk} (ha : ZgC b list) {v : Nat} (hv : v < Yi b) : ZwQ b list (v : Int) = some (ZBM b list v) := by
  unfold ZwQ
  rw [ZA8 h.blk hv, Bq, ZAy h ha hv]
  rfl
noncomputable def Zx3 (b : Zg) (list : List Zk) : List Int := (List.range (Yi b)).map (ZAJ b list)
noncomputable def ZAc (b : Zg) (list : List Zk) : List Int := (List.range (Yi b)).map (ZBM b list)
theorem ZAz (b : Zg) (list : List Zk) : (Zx3 b list).length = Yi b := by simp [Zx3]
theorem Zz1 (b : Zg) (list : List Zk) : (ZAc b list).length = Yi b := by simp [ZAc]
theorem ZAO (b : Zg) (list : List Zk) {v : Nat} (hv : v < Yi b) : (Zx3 b list)[v]? = some (ZAJ b list v) := by
  unfold Zx3
  rw [List.getElem?_map, List.getElem?_range hv]
  rfl
theorem ZAf (b : Zg) (list : List Zk) {v : Nat} (hv : v < Yi b) : (ZAc b list)[v]? = some (ZBM b list v) := by
  unfold ZAc
  rw [List.getElem?_map, List.getElem?_range hv]
  rfl
theorem ZB7 {α : Type} {l : List α} {i : Nat} {x : α} (h : l[i]? = some x) : l.set i x = l := by
  apply List.ext_getElem?
  intro w
  rw [List.getElem?_set]
  split
  · rename_i e; subst e; rw [if_pos (List.getElem?_eq_some_iff.1 h).1, h]
  · rfl
theorem ZAp {b : Zg} {s : List Bool × List Int} (h : Lgc b s) {list : List Zk} (ha : ZgC b list) : ZvV (chn b s list) = some (Zx3 b list, ZAc b list) := by
  have hn := QS h.blk
  obtain ⟨out, e, ho, ho2⟩ := Zmi h
  unfold ZvV
  rw [show Vi.logic (chn b s list) = (b, gates b, s.2, ()) from rfl, e, Bq]
  refine YS (Yi b) (fun k w => w = ((Zx3 b list).take k, (ZAc b list).take k, (k : Int), out, ())) _ rfl ?_ ?_
  · rintro v _ hv rfl
    left
    refine ⟨_, ?_, rfl⟩
    have hin : ∀ x ∈ ZhP (Yi b) (ins b) v, x ∈ srcs b := fun x hx => Zpg h.blk hv hx
    obtain ⟨d1, d2⟩ := ZAl h ha hv
    obtain ⟨r, l1, _, l3⟩ := ZBq h.blk hv
    have g1 : ∀ x : Int, ((List.take v (Zx3 b list)).length + [x].length) * 8 ≤ 140737488355328 := fun x => by
      rw [List.length_take, ZAz]; simp only [List.length_cons, List.length_nil]; omega
    have g2 : ∀ x : Int, ((List.take v (ZAc b list)).length + [x].length) * 8 ≤ 140737488355328 := fun x => by
      rw [List.length_take, Zz1]; simp only [List.length_cons, List.length_nil]; omega
    have hblk : YH.Block (Vi.logic (chn b s list)) = b := rfl
    simp only [Zwd, ho, show (v : Int) < (Yi b : Int) from by omega, if_true, Zo, ho2 v hv, Bq, Int.toNat_natCast, ZB7 (ho2 v hv), Qb (show v ≤ 1048576 by omega), hblk, l1, l3]
    rw [Yo (ZAO b list hv), Yo (ZAf b list hv)]
    by_cases q : 8 < (ZhP (Yi b) (ins b) v).length
    · have hr : ZAJ b list v = Zry b list (ZhP (Yi b) (ins b) v) := by unfold ZAJ; rw [if_pos q]
      rw [d1 q, Bq, if_neg (by decide), Zkk ha (by have := ZhQ (Yi b) (ins b) v; omega) hin, Bq, Zi (g1 _), Zi (g2 _)]
      unfold ZBM
      rw [hr]
    · obtain ⟨d, hd⟩ := ZAk ha hin
      have hr : ZAJ b list v = d := by unfold ZAJ; rw [if_neg q, hd]; rfl
      rw [d2 (by omega) d hd, Bq, if_pos rfl, Zi (g1 _), Zi (g2 _)]
      unfold ZBM
      rw [hr]
  · rintro _ rfl
    simp only [Zwd, ho, Int.lt_irrefl, if_false]
    rw [List.take_of_length_le (by rw [ZAz]; omega), List.take_of_length_le (by rw [Zz1]; omega)]
/-
  Plain laws: the law FnExactNetPower.
-/
theorem ZAT (b : Zg) (hb : sm YG b) (list : List Zk) (hl : list.length ≤ 1048576) (net : Int) : ∃ r, ZwX b list net = some r ∧ ZwZ b list net = some r := by
  unfold ZwX ZwZ
  rcases ZlO b hb list hl net with ⟨c, hc, e1, e2⟩ | ⟨s, hs, ha, hnet, e1, e2⟩
  · rw [e1, e2, Bq, Bq, if_neg hc, if_neg hc]
    exact ⟨_, rfl, rfl⟩
  · obtain ⟨v, rfl⟩ : ∃ v : Nat, net = (v : Int) := ⟨net.toNat, by omega⟩
    have hv : v < Yi b := by omega
    rw [e1, e2, Bq, if_pos rfl, Bq, Bq, if_pos rfl, ZAp hs ha, Bq, Zo, ZAf b list hv, ZAo hs ha hv]
    exact ⟨_, rfl, rfl⟩
theorem Zx0 (a0 : Zg) (a1 : List Zk) (a2 : Int) (b0 : bnd YG a0) (b1 : bnd (.sl ZE) a1) (b2 : bnd (.int .i64) a2) : Zv4 a0 a1 a2 = some true := by
  unfold Zv4
  obtain ⟨n, e, hle, hP⟩ := Zim a0 1048576 (by omega) (by omega) b0
  rw [e, Bq]
  by_cases hn : n < 0
  · rw [if_pos hn]
  rw [if_neg hn]
  have hs := hP (by omega)
  obtain ⟨n1, e1, hle1, hP1⟩ := Zfw a1 n (by omega) (by omega) b1
  rw [e1, Bq]
  by_cases hn1 : n1 < 0
  · rw [if_pos hn1]
  rw [if_neg hn1]
  have hs1 := hP1 (by omega)
  obtain ⟨r, c1, c2⟩ := ZAT a0 hs a1 (sml hs1) a2
  simp only [Zis _ hs, Zfz _ hs1, Bq, c1, c2, Zih _ hs, Zfs _ hs1, if_true]
/-
  Plain laws: powers of instances.
-/
theorem Zz9 {b : Zg} {s : List Bool × List Int} (h : Lgc b s) {list : List Zk} (ha : ZgC b list) {i : Nat} {x : Zd} (hx : (insts b)[i]? = some x) :
    ∃ p, ZvM (chn b s list) (i : Int) (Zx3 b list) (ZAc b list) = some p ∧ Zwb b list (i : Int) = some p := by
  have hm := List.mem_of_getElem? hx
  obtain ⟨c, hc⟩ := Zi7 h.blk hm
  obtain ⟨l0, l1, l2⟩ := last_at h.blk hm
  obtain ⟨v, hv⟩ : ∃ v : Nat, Yc x = (v : Int) := ⟨(Yc x).toNat, by omega⟩
  have hvn : v < Yi b := by omega
  rw [hv] at l0
  unfold ZvM Zwb
  rw [show Zb.Instances (Zg.Design (YH.Block (Vi.logic (chn b s list)))) = insts b from rfl, show YH.Block (Vi.logic (chn b s list)) = b from rfl, Zo, hx, Bq, Bq, l0, Bq, Zoa hx hc, Bq, Zo, ZAf b list hvn, Bq, Zo, ZAO b list hvn, Bq, hc.at_, Bq, Bq, ZAo h ha hvn, Bq, ZAy h ha hvn, Bq]
  exact ⟨_, rfl, rfl⟩
theorem ZAb (b : Zg) (hb : sm YG b) (list : List Zk) (hl : list.length ≤ 1048576) (i : Int) : ∃ r, Zwo b list i = some r ∧ Zwp b list i = some r := by
  unfold Zwo Zwp
  rw [ZjL b hb, Bq, Ze2 b hb list hl]
  rcases Zns b hb [] (by simp) with ⟨q, e⟩ | ⟨s, hs, q, hc⟩
  · rw [e, Bq, if_neg q, if_neg q]
    exact ⟨_, rfl, rfl⟩
  · rcases hc with ⟨_, e⟩ | ⟨w, _⟩
    · have h14 : (insts b).length ≤ 14 := hs.blk.ok.1.few.insts
      have hil : ZvP (Zb.Instances (Zg.Design b)) = some ((insts b).length : Int) := rfl
      rw [e, Bq, if_pos rfl, if_pos q, hil, Bq, show (Zb.Instances (Zg.Design b)).length = (insts b).length from rfl, ZdP (by omega) (by omega), Vh, Qx, Bq, Bq]
      by_cases w : 0 ≤ i ∧ i ≤ ((insts b).length : Int) - 1
      · rw [if_pos (Z5 w), if_pos (Z5 w), Zk1 hs list hl e, Bq, Bq]
        by_cases z : ZgC b list
        · obtain ⟨k, rfl⟩ : ∃ k : Nat, i = (k : Int) := ⟨i.toNat, by omega⟩
          have hx : (insts b)[k]? = some ((insts b)[k]'(by omega)) := List.getElem?_eq_getElem _
          obtain ⟨p, p1, p2⟩ := Zz9 hs z hx
          rw [if_pos (Z5 z), if_pos (Z5 ⟨q, z⟩), if_pos rfl, Bq, ZAp hs z, Bq, p1, p2]
          exact ⟨_, rfl, rfl⟩
        · rw [if_neg (fun x => z ((YK _).1 x)), if_neg (show ¬ (5 : Int) = 0 by omega), if_neg (fun x => z ((YK _).1 x).2)]
          exact ⟨_, rfl, rfl⟩
      · rw [if_neg (fun x => w ((YK _).1 x)), if_neg (fun x => w ((YK _).1 x))]
        exact ⟨_, rfl, rfl⟩
    · exact absurd (show Zcu [] 0 ((Yi b : Int) - 1) from fun x hx => by cases hx) w
theorem ZAP (b : Zg) (hb : sm YG b) (list : List Zk) (hl : list.length ≤ 1048576) :
    (∃ c, c ≠ 0 ∧ XE b list [] = some (none, c) ∧ Zwi b list = some c) ∨ ∃ s, Lgc b s ∧ ZgC b list ∧ XE b list [] = some (some (chn b s list), 0) ∧ Zwi b list = some 0 := by
  unfold Zwi
  rw [ZjL b hb, Bq, Ze2 b hb list hl]
  rcases Zns b hb [] (by simp) with ⟨q, e⟩ | ⟨s, hs, q, hc⟩
  · left
    refine ⟨Zgn b, q, ?_, by rw [if_neg q]⟩
    unfold XE
    rw [e, Bq, if_neg q]
  · rcases hc with ⟨_, e⟩ | ⟨w, _⟩
    · have ec := Zk1 hs list hl e
      rw [if_pos q, Bq]
      by_cases z : ZgC b list
      · right
        exact ⟨s, hs, z, by rw [ec, if_pos (Z5 z)], by rw [if_pos (Z5 ⟨q, z⟩), q]⟩
      · left
        exact ⟨5, by omega, by rw [ec, if_neg (fun x => z ((YK _).1 x))], by rw [if_neg (fun x => z ((YK _).1 x).2)]⟩
    · exact absurd (show Zcu [] 0 ((Yi b : Int) - 1) from fun x hx => by cases hx) w
/-
  Plain laws: the law FnExactInstancePower.
-/
theorem ZwY (a0 : Zg) (a1 : List Zk) (a2 : Int) (b0 : bnd YG a0) (b1 : bnd (.sl ZE) a1) (b2 : bnd (.int .i64) a2) : ZvQ a0 a1 a2 = some true := by
  unfold ZvQ
  obtain ⟨n, e, hle, hP⟩ := Zim a0 1048576 (by omega) (by omega) b0
  rw [e, Bq]
  by_cases hn : n < 0
  · rw [if_pos hn]
  rw [if_neg hn]
  have hs := hP (by omega)
  obtain ⟨n1, e1, hle1, hP1⟩ := Zfw a1 n (by omega) (by omega) b1
  rw [e1, Bq]
  by_cases hn1 : n1 < 0
  · rw [if_pos hn1]
  rw [if_neg hn1]
  have hs1 := hP1 (by omega)
  obtain ⟨r, c1, c2⟩ := ZAb a0 hs a1 (sml hs1) a2
  have hq : Zwr r.1 r.1 = some true := by unfold Zwr; simp
  simp only [Zis _ hs, Zfz _ hs1, Bq, c1, c2, hq, Zih _ hs, Zfs _ hs1, if_true]
/-
  Plain laws: the power of a block.
-/
def ZBD (b : Zg) (F : Nat → Int) : Nat → Int
  | 0 => 0
  | k + 1 => Wq (ZBD b F k + F k)
theorem ZBE {b : Zg} {s : List Bool × List Int} (h : Lgc b s) {list : List Zk} (ha : ZgC b list) (c0 : Int) :
    ∃ p : ZjC, Zl (fun v => ZvX (chn b s list) (Zx3 b list, ZAc b list) c0 ((insts b).length : Int) v.1 v.2.1 v.2.2.1) ((0 : Int), (0 : Int), (0 : Int), ()) = some (.inr (p, 0)) ∧
      Zl (fun v => Zv8 b list c0 v.1 v.2.1 v.2.2.1) ((0 : Int), (0 : Int), (0 : Int), ()) = some (.inr p) := by
  have h14 : (insts b).length ≤ 14 := h.blk.ok.1.few.insts
  have hin : ∀ i, i < (insts b).length → ∃ p, ZvM (chn b s list) (i : Int) (Zx3 b list) (ZAc b list) = some p ∧ Zwb b list (i : Int) = some p := fun i hi =>
    Zz9 h ha (List.getElem?_eq_getElem hi)
  have key : ∀ m k c1 c2, k + m = (insts b).length → ∃ p : ZjC, Zl (fun v => ZvX (chn b s list) (Zx3 b list, ZAc b list) c0 ((insts b).length : Int) v.1 v.2.1 v.2.2.1) ((k : Int), c1, c2, ()) = some (.inr (p, 0)) ∧
      Zl (fun v => Zv8 b list c0 v.1 v.2.1 v.2.2.1) ((k : Int), c1, c2, ()) = some (.inr p) := by
    intro m
    induction m with
    | zero =>
      intro k c1 c2 hk
      have : k = (insts b).length := by omega
      subst this
      refine ⟨(c0, c1, c2, ()), ZeU ?_, ZeU ?_⟩
      · simp only [ZvX, Int.lt_irrefl, if_false]
      · simp only [Zv8, Int.lt_irrefl, if_false]
    | succ m ih =>
      intro k c1 c2 hk
      obtain ⟨p, p1, p2⟩ := hin k (by omega)
      obtain ⟨r, r1, r2⟩ := ih (k + 1) (Wq (c1 + ZjC.Internal p)) (Wq (c2 + ZjC.ZsK p)) (by omega)
      refine ⟨r, ?_, ?_⟩
      · rw [ZlH (v' := (((k + 1 : Nat) : Int), Wq (c1 + ZjC.Internal p), Wq (c2 + ZjC.ZsK p), ())) (by
          simp only [ZvX]
          rw [if_pos (by omega), p1, Bq, Qb (by omega)])]
        exact r1
      · rw [ZlH (v' := (((k + 1 : Nat) : Int), Wq (c1 + ZjC.Internal p), Wq (c2 + ZjC.ZsK p), ())) (by
          simp only [Zv8]
          rw [if_pos (by show (k : Int) < ((insts b).length : Int); omega), p2, Bq, Qb (by omega)])]
        exact r2
  exact key (insts b).length 0 0 0 (by omega)
theorem ZBv {b : Zg} {s : List Bool × List Int} (h : Lgc b s) {list : List Zk} (ha : ZgC b list) : ∃ p : ZjC, Zl (fun v => Zwc b (chn b s list) (Zx3 b list, ZAc b list) v.1 v.2.1) ((0 : Int), (0 : Int), ()) = some (p, 0) ∧ Zwx b list = some p := by
  have hn := QS h.blk
  obtain ⟨p, p1, p2⟩ := ZBE h ha (ZBD b (ZBM b list) (Yi b))
  refine ⟨p, ?_, ?_⟩
  · refine YS (Yi b) (fun k v => v = ((k : Int), ZBD b (ZBM b list) k, ())) _ rfl ?_ ?_
    · rintro k _ hk rfl
      left
      refine ⟨_, ?_, rfl⟩
      simp only [Zwc, Zz1, show (k : Int) < (Yi b : Int) from by omega, if_true, Zo, ZAf b list hk, Bq, Qb (show k ≤ 1048576 by omega)]
      rfl
    · rintro _ rfl
      simp only [Zwc, Zz1, Int.lt_irrefl, if_false]
      rw [show ZvP (Zb.Instances (Zg.Design b)) = some ((insts b).length : Int) from rfl, Bq, p1]
  · unfold Zwx
    refine YS (Yi b) (fun k v => v = ((k : Int), ZBD b (ZBM b list) k, ())) _ rfl ?_ ?_
    · rintro k _ hk rfl
      left
      refine ⟨_, ?_, rfl⟩
      simp only [ZwB, show (k : Int) < ((Zb.Yb (Zg.Design b)).length : Int) from by show (k : Int) < (Yi b : Int); omega, if_true, ZAo h ha hk, Bq, Qb (show k ≤ 1048576 by omega)]
      rfl
    · rintro _ rfl
      simp only [ZwB, show ¬ (Yi b : Int) < ((Zb.Yb (Zg.Design b)).length : Int) from by show ¬ (Yi b : Int) < (Yi b : Int); omega, if_false]
      exact p2
theorem Zz2 (b : Zg) (hb : sm YG b) (list : List Zk) (hl : list.length ≤ 1048576) :
    (∃ c, c ≠ 0 ∧ Zv7 b list = some (((0 : Int), (0 : Int), (0 : Int), ()), c) ∧ Zwi b list = some c) ∨ ∃ p, Zv7 b list = some (p, 0) ∧ Zwi b list = some 0 ∧ Zwx b list = some p := by
  unfold Zv7
  rcases ZAP b hb list hl with ⟨c, hc, e1, e2⟩ | ⟨s, hs, ha, e1, e2⟩
  · left
    rw [e1, Bq, if_neg hc]
    exact ⟨c, hc, rfl, e2⟩
  · right
    obtain ⟨p, p1, p2⟩ := ZBv hs ha
    rw [e1, Bq, if_pos rfl, Bq, ZAp hs ha, Bq, p1]
    exact ⟨p, rfl, e2, p2⟩
/-
  Plain laws: the law FnExactTotalPower.
-/
theorem Zxe (a0 : Zg) (a1 : List Zk) (b0 : bnd YG a0) (b1 : bnd (.sl ZE) a1) : ZvU a0 a1 = some true := by
  unfold ZvU
  obtain ⟨n, e, hle, hP⟩ := Zim a0 1048576 (by omega) (by omega) b0
  rw [e, Bq]
  by_cases hn : n < 0
  · rw [if_pos hn]
  rw [if_neg hn]
  have hs := hP (by omega)
  obtain ⟨n1, e1, hle1, hP1⟩ := Zfw a1 n (by omega) (by omega) b1
  rw [e1, Bq]
  by_cases hn1 : n1 < 0
  · rw [if_pos hn1]
  rw [if_neg hn1]
  have hs1 := hP1 (by omega)
  obtain ⟨r, c1, c2⟩ : ∃ r, Zv7 a0 a1 = some r ∧ ZwH a0 a1 = some r := by
    unfold ZwH
    rcases Zz2 a0 hs a1 (sml hs1) with ⟨c, hc, e1, e2⟩ | ⟨p, e1, e2, e3⟩
    · rw [e2, Bq, if_neg hc]
      exact ⟨_, e1, rfl⟩
    · rw [e2, Bq, if_pos rfl, e3]
      exact ⟨_, e1, rfl⟩
  have hq : Zwr r.1 r.1 = some true := by unfold Zwr; simp
  simp only [Zis _ hs, Zfz _ hs1, Bq, c1, c2, hq, Zih _ hs, Zfs _ hs1, if_true]
/-
  Plain laws: the law FnExactPowerBelow.
-/
theorem Zxd (a0 : Zg) (a1 : List Zk) (a2 : Int) (b0 : bnd YG a0) (b1 : bnd (.sl ZE) a1) (b2 : bnd (.int .i64) a2) : ZvT a0 a1 a2 = some true := by
  unfold ZvT
  obtain ⟨n, e, hle, hP⟩ := Zim a0 1048576 (by omega) (by omega) b0
  rw [e, Bq]
  by_cases hn : n < 0
  · rw [if_pos hn]
  rw [if_neg hn]
  have hs := hP (by omega)
  obtain ⟨n1, e1, hle1, hP1⟩ := Zfw a1 n (by omega) (by omega) b1
  rw [e1, Bq]
  by_cases hn1 : n1 < 0
  · rw [if_pos hn1]
  rw [if_neg hn1]
  have hs1 := hP1 (by omega)
  obtain ⟨r, c1, c2⟩ : ∃ r, ZwF a0 a1 a2 = some r ∧ ZwG a0 a1 a2 = some r := by
    unfold ZwF ZwG
    rcases Zz2 a0 hs a1 (sml hs1) with ⟨c, hc, e1, e2⟩ | ⟨p, e1, e2, e3⟩
    · rw [e1, e2, Bq, Bq, if_neg hc, if_neg hc]
      exact ⟨_, rfl, rfl⟩
    · rw [e1, e2, Bq, if_pos rfl, Bq, if_pos rfl, e3]
      exact ⟨_, rfl, rfl⟩
  simp only [Zis _ hs, Zfz _ hs1, Bq, c1, c2, Zih _ hs, Zfs _ hs1, if_true, BEq.rfl]
end Go.Proofs.YtjfbeebdhmebpaaGreatDoor
