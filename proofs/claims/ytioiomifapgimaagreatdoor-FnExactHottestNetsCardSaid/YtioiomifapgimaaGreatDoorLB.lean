/-
  Plain ground: gates in order (no program in sight).
-/
import Derived.Test.YtioiomifapgimaaGreatDoorLA
import Derived.Test.YtioiomifapgimaaGreatDoorSxSort
import Derived.Test.YtioiomifapgimaaGreatDoorM
import Derived.Test.YtioiomifapgimaaGreatDoorE1
namespace Go.Proofs.YtioiomifapgimaaGreatDoor
set_option linter.unusedVariables false
set_option linter.unusedSimpArgs false
open Go Go.Sx
def Rkd (n : Nat) (ins : Nat → Option (List Nat)) (r : Nat → Nat) : Prop := ∀ v l u, v < n → ins v = some l → u ∈ l → r u < r v
def Logical (n : Nat) (ins : Nat → Option (List Nat)) : Prop := ∃ r, Rkd n ins r
def InB (n : Nat) (ins : Nat → Option (List Nat)) : Prop := ∀ v l u, v < n → ins v = some l → u ∈ l → u < n
def isK (kn : List Bool) (u : Nat) : Bool := kn[u]? == some true
def rdy (ins : Nat → Option (List Nat)) (kn : List Bool) (v : Nat) : Bool := match ins v with
  | none => true
  | some l => l.all (isK kn)
def stp (ins : Nat → Option (List Nat)) (s : List Bool × List Int) (v : Nat) : List Bool × List Int :=
  if isK s.1 v = false ∧ rdy ins s.1 v = true then (s.1.set v true, s.2 ++ [(v : Int)]) else s
def Zav (ins : Nat → Option (List Nat)) (s : List Bool × List Int) (k : Nat) : List Bool × List Int := (List.range k).foldl (stp ins) s
theorem Zms (ins : Nat → Option (List Nat)) (s : List Bool × List Int) : Zav ins s 0 = s := rfl
theorem ZcJ (ins : Nat → Option (List Nat)) (s : List Bool × List Int) (k : Nat) : Zav ins s (k + 1) = stp ins (Zav ins s k) k := by
  unfold Zav
  rw [List.range_succ, List.foldl_append]
  rfl
structure Ord (n : Nat) (ins : Nat → Option (List Nat)) (s : List Bool × List Int) : Prop where
  len : s.1.length = n
  few : s.2.length ≤ n
  cnt : s.2.length = s.1.countP (fun b => b)
  mem : ∀ v : Nat, isK s.1 v = true ↔ (v : Int) ∈ s.2
  bel : ∀ (i : Nat) (x : Int), s.2[i]? = some x → ∃ v : Nat, x = (v : Int) ∧ v < n ∧ (v : Int) ∉ s.2.take i ∧ ∀ l, ins v = some l → ∀ u ∈ l, (u : Int) ∈ s.2.take i
theorem ZfA {kn : List Bool} {v : Nat} (hv : v < kn.length) (u : Nat) : isK (kn.set v true) u = true ↔ u = v ∨ isK kn u = true := by
  unfold isK
  rw [List.getElem?_set]
  by_cases h : v = u
  · subst h; simp [hv]
  · rw [if_neg h]
    constructor
    · exact .inr
    · rintro (rfl | h2)
      · exact absurd rfl h
      · exact h2
theorem countP_set {kn : List Bool} : ∀ {v : Nat}, v < kn.length → isK kn v = false → (kn.set v true).countP (fun b => b) = kn.countP (fun b => b) + 1 := by
  induction kn with
  | nil => intro v hv; simp at hv
  | cons b r ih =>
    intro v hv hk
    cases v with
    | zero =>
      cases b
      · simp
      · simp [isK] at hk
    | succ v =>
      have hv' : v < r.length := by simpa using hv
      have hk' : isK r v = false := by simpa [isK] using hk
      rw [List.set_cons_succ, List.countP_cons, List.countP_cons, ih hv' hk']
      omega
theorem Ord.step {n : Nat} {ins : Nat → Option (List Nat)} {s : List Bool × List Int} (h : Ord n ins s) {v : Nat} (hv : v < n) : Ord n ins (stp ins s v) := by
  unfold stp
  split
  · rename_i hc
    have hl : v < s.1.length := by rw [h.len]; exact hv
    have hcnt := countP_set hl hc.1
    have hnew : (v : Int) ∉ s.2 := fun q => by
      have := (h.mem v).2 q
      rw [hc.1] at this
      cases this
    refine ⟨by simp [h.len], ?_, ?_, fun u => ?_, fun i x hx => ?_⟩
    · have := List.countP_le_length (p := fun b => b) (l := s.1.set v true)
      rw [hcnt, List.length_set, h.len] at this
      rw [List.length_append, List.length_singleton, h.cnt]
      omega
    · show (s.2 ++ [(v : Int)]).length = (s.1.set v true).countP (fun b => b)
      rw [hcnt, List.length_append, List.length_singleton, h.cnt]
    · show isK (s.1.set v true) u = true ↔ (u : Int) ∈ s.2 ++ [(v : Int)]
      rw [ZfA hl, h.mem u, List.mem_append, List.mem_singleton]
      constructor
      · rintro (rfl | q)
        · exact .inr rfl
        · exact .inl q
      · rintro (q | q)
        · exact .inr q
        · exact .inl (by omega)
    · have hx : (s.2 ++ [(v : Int)])[i]? = some x := hx
      show ∃ w : Nat, x = (w : Int) ∧ w < n ∧ (w : Int) ∉ (s.2 ++ [(v : Int)]).take i ∧ ∀ l, ins w = some l → ∀ u ∈ l, (u : Int) ∈ (s.2 ++ [(v : Int)]).take i
      by_cases hi : i < s.2.length
      · rw [List.getElem?_append_left hi] at hx
        obtain ⟨w, e, hw, h1, h2⟩ := h.bel i x hx
        rw [List.take_append_of_le_length (by omega)]
        exact ⟨w, e, hw, h1, h2⟩
      · rw [List.getElem?_append_right (by omega)] at hx
        have hi2 : i = s.2.length := by
          by_cases q : i - s.2.length = 0
          · omega
          · rw [List.getElem?_eq_none (by rw [List.length_singleton]; omega)] at hx
            cases hx
        subst hi2
        rw [Nat.sub_self] at hx
        injection hx with hx
        rw [List.take_append_of_le_length (Nat.le_refl _), List.take_length]
        refine ⟨v, hx.symm, hv, hnew, fun l hl u hu => ?_⟩
        have hr := hc.2
        unfold rdy at hr
        rw [hl] at hr
        have := List.all_eq_true.1 hr u hu
        exact (h.mem u).1 this
  · exact h
theorem Ord.pass {n : Nat} {ins : Nat → Option (List Nat)} {s : List Bool × List Int} (h : Ord n ins s) : ∀ {k : Nat}, k ≤ n → Ord n ins (Zav ins s k)
  | 0, _ => h
  | k + 1, hk => by rw [ZcJ]; exact (h.pass (by omega)).step (by omega)
theorem Zvp (ins : Nat → Option (List Nat)) (s : List Bool × List Int) (v u : Nat) (h : isK s.1 u = true) : isK (stp ins s v).1 u = true := by
  unfold stp
  split
  · rename_i hc
    by_cases hv : v < s.1.length
    · exact (ZfA hv u).2 (.inr h)
    · show isK (s.1.set v true) u = true
      rw [List.set_eq_of_length_le (by omega)]
      exact h
  · exact h
theorem Zrw (ins : Nat → Option (List Nat)) (s : List Bool × List Int) (u : Nat) (h : isK s.1 u = true) : ∀ k, isK (Zav ins s k).1 u = true
  | 0 => h
  | k + 1 => by rw [ZcJ]; exact Zvp ins _ k u (Zrw ins s u h k)
theorem Zvv (ins : Nat → Option (List Nat)) (s : List Bool × List Int) (v : Nat) : s.2.length ≤ (stp ins s v).2.length := by
  unfold stp
  split
  · simp
  · exact Nat.le_refl _
theorem Zli (ins : Nat → Option (List Nat)) (s : List Bool × List Int) : ∀ k j, j ≤ k → (Zav ins s j).2.length ≤ (Zav ins s k).2.length
  | 0, j, h => by have : j = 0 := by omega
                  subst this; exact Nat.le_refl _
  | k + 1, j, h => by
    by_cases q : j = k + 1
    · subst q; exact Nat.le_refl _
    · have := Zli ins s k j (by omega)
      have h2 := Zvv ins (Zav ins s k) k
      rw [ZcJ]
      omega
theorem Zpp (ins : Nat → Option (List Nat)) (s : List Bool × List Int) (u : Nat) : ∀ k, k ≤ u → isK (Zav ins s k).1 u = isK s.1 u
  | 0, _ => rfl
  | k + 1, h => by
    rw [ZcJ, ← Zpp ins s u k (by omega)]
    unfold stp
    split
    · show isK ((Zav ins s k).1.set k true) u = _
      unfold isK
      rw [List.getElem?_set, if_neg (by omega)]
    · rfl
theorem lowest (n : Nat) (r : Nat → Nat) (P : Nat → Prop) : (∃ v, v < n ∧ P v) → ∃ v, v < n ∧ P v ∧ ∀ u, u < n → P u → r v ≤ r u := by
  intro ⟨v, hv, hp⟩
  generalize hm : r v = m
  induction m using Nat.strongRecOn generalizing v with
  | _ m ih =>
    by_cases q : ∃ u, u < n ∧ P u ∧ r u < m
    · obtain ⟨u, hu, hpu, hru⟩ := q
      exact ih (r u) hru u hu hpu rfl
    · refine ⟨v, hv, hp, fun u hu hpu => ?_⟩
      by_cases q2 : r u < m
      · exact absurd ⟨u, hu, hpu, q2⟩ q
      · omega
theorem progress {n : Nat} {ins : Nat → Option (List Nat)} (hb : InB n ins) {r : Nat → Nat} (hr : Rkd n ins r) {s : List Bool × List Int} (h : Ord n ins s) (hlt : s.2.length < n) : s.2.length < (Zav ins s n).2.length := by
  have hex : ∃ v, v < n ∧ isK s.1 v = false := by
    by_cases q : ∃ v, v < n ∧ isK s.1 v = false
    · exact q
    · exfalso
      have hall : ∀ b ∈ s.1, b = true := fun b hb => by
        obtain ⟨i, hi, e⟩ := List.getElem_of_mem hb
        by_cases q2 : isK s.1 i = false
        · exact absurd ⟨i, by rw [← h.len]; exact hi, q2⟩ q
        · have q3 : isK s.1 i = true := by simpa using q2
          unfold isK at q3
          rw [List.getElem?_eq_getElem hi, e] at q3
          simpa using q3
      have : s.1.countP (fun b => b) = s.1.length := List.countP_eq_length.2 hall
      rw [← h.cnt, h.len] at this
      omega
  obtain ⟨v, hv, hk, hmin⟩ := lowest n r (fun v => isK s.1 v = false) hex
  have hs1 := Zli ins s v 0 (Nat.zero_le _)
  have hs2 := Zli ins s n (v + 1) (by omega)
  rw [Zms] at hs1
  have hst : (Zav ins s (v + 1)).2.length = (Zav ins s v).2.length + 1 := by
    rw [ZcJ]
    unfold stp
    rw [if_pos]
    · rw [List.length_append, List.length_singleton]
    · refine ⟨by rw [Zpp ins s v v (Nat.le_refl _)]; exact hk, ?_⟩
      unfold rdy
      cases hi : ins v with
      | none => rfl
      | some l =>
        refine List.all_eq_true.2 fun u hu => ?_
        have h1 := hr v l u hv hi hu
        have h2 := hb v l u hv hi hu
        refine Zrw ins s u ?_ v
        by_cases q : isK s.1 u = false
        · have := hmin u h2 q
          omega
        · simpa using q
  omega
theorem Ord.rank {n : Nat} {ins : Nat → Option (List Nat)} {s : List Bool × List Int} (h : Ord n ins s) (hn : s.2.length = n) : (∀ v, v < n → (v : Int) ∈ s.2) ∧ ∃ r, Rkd n ins r ∧ ∀ v, v < n → r v < n ∧ s.2[r v]? = some (v : Int) := by
  have hall : ∀ v, v < n → (v : Int) ∈ s.2 := fun v hv => by
    have he : s.1.countP (fun b => b) = s.1.length := by rw [← h.cnt, h.len, hn]
    have := List.countP_eq_length.1 he
    refine (h.mem v).1 ?_
    unfold isK
    rw [List.getElem?_eq_getElem (by rw [h.len]; exact hv), this _ (List.getElem_mem _)]
    rfl
  refine ⟨hall, ?_⟩
  have hix : ∀ v, v < n → ∃ i, i < n ∧ s.2[i]? = some (v : Int) := fun v hv => by
    obtain ⟨i, hi, e⟩ := List.getElem_of_mem (hall v hv)
    exact ⟨i, by rw [← hn]; exact hi, by rw [List.getElem?_eq_getElem hi, e]⟩
  let r : Nat → Nat := fun v => if hv : v < n then Classical.choose (hix v hv) else 0
  have hrs : ∀ v (hv : v < n), r v < n ∧ s.2[r v]? = some (v : Int) := fun v hv => by
    show (if hv : v < n then Classical.choose (hix v hv) else 0) < n ∧ _
    have : r v = Classical.choose (hix v hv) := by simp only [r, dif_pos hv]
    rw [this, dif_pos hv]
    exact Classical.choose_spec (hix v hv)
  refine ⟨r, fun v l u hv hi hu => ?_, hrs⟩
  obtain ⟨hv1, hv2⟩ := hrs v hv
  obtain ⟨w, e, hw, h1, h2⟩ := h.bel (r v) v hv2
  have e : v = w := by omega
  subst e
  have hu2 := h2 l hi u hu
  obtain ⟨j, hj, e2⟩ := List.getElem_of_mem hu2
  rw [List.length_take] at hj
  rw [List.getElem_take] at e2
  have hj2 : s.2[j]? = some (u : Int) := by rw [List.getElem?_eq_getElem (by omega), e2]
  obtain ⟨w, e3, hw3, h3, _⟩ := h.bel j u hj2
  have e3 : u = w := by omega
  subst e3
  obtain ⟨hu3, hu4⟩ := hrs u hw3
  have : r u = j := by
    by_cases q : r u < j
    · exfalso
      refine h3 (List.mem_of_getElem? (i := r u) ?_)
      rw [List.getElem?_take_of_lt q]
      exact hu4
    · by_cases q2 : j < r u
      · exfalso
        obtain ⟨w, e4, _, h4, _⟩ := h.bel (r u) u hu4
        have e4 : u = w := by omega
        subst e4
        refine h4 (List.mem_of_getElem? (i := j) ?_)
        rw [List.getElem?_take_of_lt q2]
        exact hj2
      · omega
  omega
theorem Ord.start (n : Nat) (ins : Nat → Option (List Nat)) : Ord n ins (List.replicate n false, []) := by
  refine ⟨by simp, by simp, ?_, fun v => ?_, fun i x hx => by simp at hx⟩
  · simp [List.countP_replicate]
  · unfold isK
    simp [List.getElem?_replicate]
def ZaT (L : List Int) (l : List Nat) : Int := l.foldl (fun m u => max m ((L[u]?).getD 0)) 0
def ZrF (ins : Nat → Option (List Nat)) (s : List Int × Bool) (v : Nat) : List Int × Bool := match ins v with
  | none => s
  | some l => if (s.1[v]?).getD 0 ≠ ZaT s.1 l + 1 then (s.1.set v (ZaT s.1 l + 1), true) else s
def Zbl (ins : Nat → Option (List Nat)) (L : List Int) (k : Nat) : List Int × Bool := (List.range k).foldl (ZrF ins) (L, false)
theorem ZcH (ins : Nat → Option (List Nat)) (L : List Int) (k : Nat) : Zbl ins L (k + 1) = ZrF ins (Zbl ins L k) k := by
  unfold Zbl
  rw [List.range_succ, List.foldl_append]
  rfl
theorem Zmm (L : List Int) (l : List Nat) : 0 ≤ ZaT L l ∧ ∀ u ∈ l, (L[u]?).getD 0 ≤ ZaT L l := by
  unfold ZaT
  have : ∀ (l : List Nat) (m : Int), m ≤ l.foldl (fun m u => max m ((L[u]?).getD 0)) m ∧ ∀ u ∈ l, (L[u]?).getD 0 ≤ l.foldl (fun m u => max m ((L[u]?).getD 0)) m := by
    intro l
    induction l with
    | nil => intro m; exact ⟨Int.le_refl _, fun u hu => by cases hu⟩
    | cons a r ih =>
      intro m
      obtain ⟨h1, h2⟩ := ih (max m ((L[a]?).getD 0))
      rw [List.foldl_cons]
      refine ⟨by omega, fun u hu => ?_⟩
      rcases List.mem_cons.1 hu with rfl | hu
      · omega
      · exact h2 u hu
  exact this l 0
theorem Zpz (L : List Int) (l : List Nat) (c : Int) (h0 : 0 ≤ c) (h : ∀ u ∈ l, (L[u]?).getD 0 ≤ c) : ZaT L l ≤ c := by
  unfold ZaT
  have : ∀ (l : List Nat) (m : Int), m ≤ c → (∀ u ∈ l, (L[u]?).getD 0 ≤ c) → l.foldl (fun m u => max m ((L[u]?).getD 0)) m ≤ c := by
    intro l
    induction l with
    | nil => intro m hm _; exact hm
    | cons a r ih =>
      intro m hm hl
      rw [List.foldl_cons]
      refine ih _ ?_ fun u hu => hl u (List.mem_cons_of_mem _ hu)
      have := hl a List.mem_cons_self
      omega
  exact this l 0 h0 h
def ZsP (n : Nat) (c : Int) (L : List Int) : Prop := L.length = n ∧ ∀ u : Nat, 0 ≤ (L[u]?).getD 0 ∧ (L[u]?).getD 0 ≤ c
theorem Zrn {L : List Int} {v : Nat} {x : Int} (hv : v < L.length) (u : Nat) : ((L.set v x)[u]?).getD 0 = if u = v then x else (L[u]?).getD 0 := by
  rw [List.getElem?_set]
  by_cases h : v = u
  · subst h; simp [hv]
  · rw [if_neg h, if_neg (fun q => h q.symm)]
theorem ZsP.step {n : Nat} {ins : Nat → Option (List Nat)} {c : Int} {s : List Int × Bool} (h : ZsP n c s.1) {v : Nat} (hv : v < n) : ZsP n (c + 1) (ZrF ins s v).1 := by
  have h0 : 0 ≤ c := by have := h.2 0; omega
  have keep : ZsP n (c + 1) s.1 := ⟨h.1, fun u => by have := h.2 u; omega⟩
  unfold ZrF
  split
  · exact keep
  · rename_i l hl
    split
    · have h1 := Zmm s.1 l
      have h2 := Zpz s.1 l c h0 fun u _ => (h.2 u).2
      refine ⟨by simp [h.1], fun u => ?_⟩
      show 0 ≤ ((s.1.set v (ZaT s.1 l + 1))[u]?).getD 0 ∧ _ ≤ c + 1
      rw [Zrn (by rw [h.1]; exact hv)]
      have := h.2 u
      split <;> omega
    · exact keep
theorem ZsP.pass {n : Nat} {ins : Nat → Option (List Nat)} {c : Int} {L : List Int} (h : ZsP n c L) : ∀ {k : Nat}, k ≤ n → ZsP n (c + (k : Int)) (Zbl ins L k).1
  | 0, _ => by
    show ZsP n (c + ((0 : Nat) : Int)) L
    rw [show c + ((0 : Nat) : Int) = c by omega]; exact h
  | k + 1, hk => by
    rw [ZcH]
    have := (h.pass (ins := ins) (k := k) (by omega)).step (ins := ins) (v := k) (by omega)
    rw [show c + ((k + 1 : Nat) : Int) = c + (k : Int) + 1 by omega]
    exact this
theorem ZnN {ins : Nat → Option (List Nat)} {L : List Int} : ∀ {k j : Nat}, j ≤ k → (Zbl ins L j).2 = true → (Zbl ins L k).2 = true
  | 0, j, h, e => by have : j = 0 := by omega
                     subst this; exact e
  | k + 1, j, h, e => by
    by_cases q : j = k + 1
    · subst q; exact e
    · have := ZnN (k := k) (j := j) (by omega) e
      rw [ZcH]
      unfold ZrF
      split
      · exact this
      · split
        · rfl
        · exact this
theorem Zmk {ins : Nat → Option (List Nat)} {L : List Int} : ∀ {k : Nat}, (Zbl ins L k).2 = false → (Zbl ins L k).1 = L ∧ ∀ v, v < k → ∀ l, ins v = some l → (L[v]?).getD 0 = ZaT L l + 1
  | 0, _ => ⟨rfl, fun v hv => by omega⟩
  | k + 1, h => by
    rw [ZcH] at h ⊢
    have hk : (Zbl ins L k).2 = false := by
      cases q : (Zbl ins L k).2 with
      | false => rfl
      | true =>
        have : (Zbl ins L (k + 1)).2 = true := ZnN (j := k) (by omega) q
        rw [ZcH, h] at this
        cases this
    obtain ⟨e, ih⟩ := Zmk hk
    unfold ZrF at h ⊢
    cases hi : ins k with
    | none =>
      simp only [hi] at h ⊢
      refine ⟨e, fun v hv l hl => ?_⟩
      by_cases q : v = k
      · subst q; rw [hi] at hl; cases hl
      · exact ih v (by omega) l hl
    | some l =>
      simp only [hi] at h ⊢
      by_cases q : ((Zbl ins L k).1[k]?).getD 0 ≠ ZaT (Zbl ins L k).1 l + 1
      · rw [if_pos q] at h; cases h
      · rw [if_neg q]
        refine ⟨e, fun v hv l' hl' => ?_⟩
        by_cases q2 : v = k
        · subst q2
          rw [hi] at hl'
          injection hl' with hl'
          subst hl'
          rw [e] at q
          exact Decidable.of_not_not q
        · exact ih v (by omega) l' hl'
theorem Zuv {n : Nat} {ins : Nat → Option (List Nat)} {L : List Int} (h : (Zbl ins L n).2 = false) (h0 : ∀ u : Nat, 0 ≤ (L[u]?).getD 0) : Rkd n ins (fun v => ((L[v]?).getD 0).toNat) := by
  intro v l u hv hi hu
  have h1 := (Zmk h).2 v hv l hi
  have h2 := (Zmm L l).2 u hu
  have h3 := h0 u
  show ((L[u]?).getD 0).toNat < ((L[v]?).getD 0).toNat
  omega
def ZaD (ins : Nat → Option (List Nat)) (n : Nat) : Nat → List Int
  | 0 => List.replicate n 0
  | k + 1 => (Zbl ins (ZaD ins n k) n).1
theorem ZnO (ins : Nat → Option (List Nat)) (n : Nat) : ∀ k, ZsP n ((k * n : Nat) : Int) (ZaD ins n k)
  | 0 => ⟨by simp [ZaD], fun u => by
    have : ((List.replicate n (0 : Int))[u]?).getD 0 = 0 := by
      rw [List.getElem?_replicate]; split <;> rfl
    show 0 ≤ ((List.replicate n (0 : Int))[u]?).getD 0 ∧ ((List.replicate n (0 : Int))[u]?).getD 0 ≤ _
    rw [this]; omega⟩
  | k + 1 => by
    have := (ZnO ins n k).pass (ins := ins) (k := n) (Nat.le_refl _)
    rw [show (((k + 1) * n : Nat) : Int) = ((k * n : Nat) : Int) + (n : Int) by rw [Nat.succ_mul]; omega]
    exact this
def Right (n : Nat) (ins : Nat → Option (List Nat)) (r : Nat → Nat) (F : Nat → Int) (j : Nat) (L : List Int) : Prop := ∀ v, v < n → r v < j → (L[v]?).getD 0 = F v
theorem Zu6 {n : Nat} {ins : Nat → Option (List Nat)} {r : Nat → Nat} (hr : Rkd n ins r) (hb : InB n ins) (hrn : ∀ v, v < n → r v < n) : ∀ j, j ≤ n → ∃ F : Nat → Int, ∀ v, v < n → r v < j → match ins v with
    | none => F v = 0
    | some l => F v = l.foldl (fun m u => max m (F u)) 0 + 1 := by
  intro j
  induction j with
  | zero => intro _; exact ⟨fun _ => 0, fun v _ h => by omega⟩
  | succ j ih =>
    intro hj
    obtain ⟨F, hF⟩ := ih (by omega)
    have hfold : ∀ (G : Nat → Int) (l : List Nat) (m : Int), (∀ u ∈ l, G u = F u) → l.foldl (fun m u => max m (G u)) m = l.foldl (fun m u => max m (F u)) m := by
      intro G l
      induction l with
      | nil => intro m _; rfl
      | cons a t iht =>
        intro m h
        rw [List.foldl_cons, List.foldl_cons, h a List.mem_cons_self, iht _ fun u hu => h u (List.mem_cons_of_mem _ hu)]
    refine ⟨fun v => if r v < j then F v else match ins v with
      | none => 0
      | some l => l.foldl (fun m u => max m (F u)) 0 + 1, fun v hv hrv => ?_⟩
    have hF2 := hF v hv
    cases hi : ins v with
    | none =>
      simp only [hi] at hF2 ⊢
      split
      · exact hF2 (by assumption)
      · rfl
    | some l =>
      simp only [hi] at hF2 ⊢
      have hl : ∀ u ∈ l, (if r u < j then F u else match ins u with | none => 0 | some l => l.foldl (fun m u => max m (F u)) 0 + 1) = F u := fun u hu => by
        have := hr v l u hv hi hu
        rw [if_pos (by omega)]
      rw [hfold _ l 0 hl]
      split
      · exact hF2 (by assumption)
      · rfl
theorem ZlG {L : List Int} {F : Nat → Int} : ∀ {l : List Nat} {m : Int}, (∀ u ∈ l, (L[u]?).getD 0 = F u) → l.foldl (fun m u => max m ((L[u]?).getD 0)) m = l.foldl (fun m u => max m (F u)) m
  | [], m, _ => rfl
  | a :: t, m, h => by
    rw [List.foldl_cons, List.foldl_cons, h a List.mem_cons_self, ZlG fun u hu => h u (List.mem_cons_of_mem _ hu)]
theorem ZsG {n : Nat} {ins : Nat → Option (List Nat)} {r : Nat → Nat} (hr : Rkd n ins r) (hb : InB n ins) {F : Nat → Int}
    (hF : ∀ v, v < n → match ins v with
      | none => F v = 0
      | some l => F v = l.foldl (fun m u => max m (F u)) 0 + 1) {L : List Int} (hL : L.length = n) {j : Nat} (h : Right n ins r F j L) (hs : ∀ v, v < n → ins v = none → (L[v]?).getD 0 = 0) :
    ∀ k, k ≤ n → (Zbl ins L k).1.length = n ∧ Right n ins r F j (Zbl ins L k).1 ∧ (∀ v, v < n → ins v = none → ((Zbl ins L k).1[v]?).getD 0 = 0) ∧ (∀ v, v < k → r v < j + 1 → ((Zbl ins L k).1[v]?).getD 0 = F v) := by
  intro k
  induction k with
  | zero => intro _; exact ⟨hL, h, hs, fun v hv => by omega⟩
  | succ k ih =>
    intro hk
    obtain ⟨h1, h2, h3, h4⟩ := ih (by omega)
    rw [ZcH]
    generalize hS : Zbl ins L k = S at h1 h2 h3 h4 ⊢
    have hFk := hF k (by omega)
    unfold ZrF
    cases hi : ins k with
    | none =>
      simp only [hi] at hFk ⊢
      refine ⟨h1, h2, h3, fun v hv hrv => ?_⟩
      by_cases q : v = k
      · subst q; rw [h3 v (by omega) hi, hFk]
      · exact h4 v (by omega) hrv
    | some l =>
      simp only [hi] at hFk ⊢
      have hm : r k < j + 1 → ZaT S.1 l + 1 = F k := fun hrk => by
        rw [hFk]
        unfold ZaT
        rw [ZlG fun u hu => h2 u (hb k l u (by omega) hi hu) (by have := hr k l u (by omega) hi hu; omega)]
      have hset : ∀ u, ((if (S.1[k]?).getD 0 ≠ ZaT S.1 l + 1 then (S.1.set k (ZaT S.1 l + 1), true) else S).1[u]?).getD 0 = if u = k then ZaT S.1 l + 1 else (S.1[u]?).getD 0 := fun u => by
        by_cases q : (S.1[k]?).getD 0 ≠ ZaT S.1 l + 1
        · rw [if_pos q]
          exact Zrn (by rw [h1]; omega) u
        · rw [if_neg q]
          split
          · rename_i e; rw [e]; exact Decidable.of_not_not q
          · rfl
      refine ⟨?_, fun v hv hrv => ?_, fun v hv hvi => ?_, fun v hv hrv => ?_⟩
      · split
        · simp [h1]
        · exact h1
      · rw [hset]
        split
        · rename_i e; rw [hm (by rw [← e]; omega), e]
        · exact h2 v hv hrv
      · rw [hset, if_neg (fun e => by rw [e, hi] at hvi; cases hvi)]
        exact h3 v hv hvi
      · rw [hset]
        split
        · rename_i e; rw [hm (by rw [← e]; exact hrv), e]
        · exact h4 v (by omega) hrv
theorem ZsH {n : Nat} {ins : Nat → Option (List Nat)} {r : Nat → Nat} (hr : Rkd n ins r) (hb : InB n ins) (hrn : ∀ v, v < n → r v < n) : (Zbl ins (ZaD ins n n) n).2 = false := by
  obtain ⟨F, hF⟩ := Zu6 hr hb hrn n (Nat.le_refl _)
  have hF' : ∀ v, v < n → match ins v with
      | none => F v = 0
      | some l => F v = l.foldl (fun m u => max m (F u)) 0 + 1 := fun v hv => hF v hv (hrn v hv)
  have key : ∀ j, (ZaD ins n j).length = n ∧ Right n ins r F j (ZaD ins n j) ∧ ∀ v, v < n → ins v = none → ((ZaD ins n j)[v]?).getD 0 = 0 := by
    intro j
    induction j with
    | zero => exact ⟨by simp [ZaD], fun v _ h => by omega, fun v hv _ => by
        show ((List.replicate n (0 : Int))[v]?).getD 0 = 0
        rw [List.getElem?_replicate]; split <;> rfl⟩
    | succ j ih =>
      obtain ⟨a, b, c⟩ := ih
      obtain ⟨p, q, s, t⟩ := ZsG hr hb hF' a b c n (Nat.le_refl _)
      exact ⟨p, fun v hv hrv => t v hv hrv, s⟩
  obtain ⟨a, b, c⟩ := key n
  cases hq : (Zbl ins (ZaD ins n n) n).2 with
  | false => rfl
  | true =>
    exfalso
    have : ∀ k, k ≤ n → Zbl ins (ZaD ins n n) k = (ZaD ins n n, false) := by
      intro k
      induction k with
      | zero => intro _; rfl
      | succ k ih =>
        intro hk
        rw [ZcH, ih (by omega)]
        unfold ZrF
        cases hi : ins k with
        | none => rfl
        | some l =>
          have hFk := hF' k (by omega)
          simp only [hi] at hFk
          show (if ((ZaD ins n n)[k]?).getD 0 ≠ ZaT (ZaD ins n n) l + 1 then _ else _) = _
          rw [if_neg]
          refine fun q => q ?_
          rw [b k (by omega) (hrn k (by omega)), hFk]
          unfold ZaT
          rw [ZlG fun u hu => b u (hb k l u (by omega) hi hu) (hrn u (hb k l u (by omega) hi hu))]
    rw [this n (Nat.le_refl _)] at hq
    cases hq
/-
  Plain laws: what a list's numbers are, sorted and each once.
-/
theorem Zxa {l : List Int} {x : Int} : x ∈ srt l ↔ x ∈ l := List.mem_mergeSort
theorem Zxr (l : List Int) : (srt l).length = l.length := List.length_mergeSort _
theorem ZtY {l : List Int} {x : Int} : x ∈ Zij l ↔ x ∈ l := by
  unfold Zij Lib.compactUpTo
  rw [List.mem_map]
  constructor
  · grind
  · intro h
    obtain ⟨j, hj, e⟩ := List.getElem_of_mem h
    have key : ∀ (n j : Nat), j ≤ n → (hj : j < l.length) → l[j] = x → ∃ a, a ∈ (List.range l.toArray.size).filter (Lib.keeps l.toArray) ∧ l.toArray[a]! = x := by
      intro n
      induction n with
      | zero =>
        intro j hn hj e
        have : j = 0 := by omega
        subst this
        refine ⟨0, List.mem_filter.2 ⟨List.mem_range.2 (by simpa using hj), by unfold Lib.keeps; simp⟩, ?_⟩
        grind
      | succ n ih =>
        intro j hn hj e
        have e2 : l.toArray[j]! = x := by grind
        by_cases hk : Lib.keeps l.toArray j = true
        · grind
        · unfold Lib.keeps at hk
          grind
    exact key j j (Nat.le_refl _) hj e
/-
  Plain ground: the sources that a net depends on; values; sorted lists (no program in sight).
-/
inductive Src (ins : Nat → Option (List Nat)) : Nat → Nat → Prop
  | base {v : Nat} : ins v = none → Src ins v v
  | step {v u s : Nat} {l : List Nat} : ins v = some l → u ∈ l → Src ins u s → Src ins v s
theorem ZoT {ins : Nat → Option (List Nat)} {v s : Nat} (h : ins v = none) : Src ins v s ↔ s = v := by
  constructor
  · intro q
    cases q with
    | base _ => rfl
    | step h2 _ _ => rw [h] at h2; cases h2
  · rintro rfl
    exact .base h
theorem Zlm {ins : Nat → Option (List Nat)} {v s : Nat} {l : List Nat} (h : ins v = some l) : Src ins v s ↔ ∃ u, u ∈ l ∧ Src ins u s := by
  constructor
  · intro q
    cases q with
    | base h2 => rw [h] at h2; cases h2
    | step h2 hu hs =>
      rw [h] at h2
      injection h2 with h2
      subst h2
      exact ⟨_, hu, hs⟩
  · rintro ⟨u, hu, hs⟩
    exact .step h hu hs
theorem ZyR {ins : Nat → Option (List Nat)} {v s : Nat} (h : Src ins v s) : ins s = none := by
  induction h with
  | base h => exact h
  | step _ _ _ ih => exact ih
theorem Zut {n : Nat} {ins : Nat → Option (List Nat)} (hb : InB n ins) {v s : Nat} (h : Src ins v s) : v < n → s < n := by
  induction h with
  | base h => exact id
  | step hi hu _ ih => exact fun hv => ih (hb _ _ _ hv hi hu)
theorem ZyQ {n : Nat} {ins : Nat → Option (List Nat)} (hb : InB n ins) {r : Nat → Nat} (hr : Rkd n ins r) (hne : ∀ v l, v < n → ins v = some l → l ≠ []) {v : Nat} (hv : v < n) : ∃ s, Src ins v s := by
  generalize hm : r v = m
  induction m using Nat.strongRecOn generalizing v with
  | _ m ih =>
    cases hi : ins v with
    | none => exact ⟨v, .base hi⟩
    | some l =>
      cases l with
      | nil => exact absurd rfl (hne v [] hv hi)
      | cons u t =>
        have hu : u ∈ u :: t := List.mem_cons_self
        obtain ⟨s, hs⟩ := ih (r u) (by rw [← hm]; exact hr v _ u hv hi hu) (hb v _ u hv hi hu) rfl
        exact ⟨s, .step hi hu hs⟩
def ZnP (k : Nat) (b : Bool) : List Int := if b = true then [(k : Int)] else []
theorem Zlj (l : List Bool) (m : Nat) : (cat ZnP m l).length ≤ l.length := by
  have := Zfp (f := ZnP) (c := 1) (l := l) (m := m) (fun i x _ => by unfold ZnP; split <;> simp)
  omega
noncomputable def ZvY (n : Nat) (ins : Nat → Option (List Nat)) (v : Nat) : List Bool := (List.range n).map fun s => tr (Src ins v s)
noncomputable def Zdg (n : Nat) (ins : Nat → Option (List Nat)) (v : Nat) : List Int := cat ZnP 0 (ZvY n ins v)
theorem mem_listed {l : List Bool} {m : Nat} {x : Int} : x ∈ cat ZnP m l ↔ ∃ k : Nat, l[k]? = some true ∧ x = ((m + k : Nat) : Int) := by
  rw [ZcI]
  constructor
  · rintro ⟨k, b, hb, hx⟩
    unfold ZnP at hx
    cases b with
    | false => cases hx
    | true => exact ⟨k, hb, by simpa using hx⟩
  · rintro ⟨k, hk, rfl⟩
    exact ⟨k, true, hk, by simp [ZnP]⟩
theorem Zr4 {n : Nat} {ins : Nat → Option (List Nat)} {v k : Nat} : (ZvY n ins v)[k]? = some true ↔ k < n ∧ Src ins v k := by
  unfold ZvY
  rw [List.getElem?_map]
  by_cases h : k < n
  · rw [List.getElem?_range h]
    simp [Xn, h]
  · rw [List.getElem?_eq_none (by simpa using h)]
    simp [h]
theorem ZfJ {n : Nat} {ins : Nat → Option (List Nat)} (hb : InB n ins) {v : Nat} (hv : v < n) {x : Int} : x ∈ Zdg n ins v ↔ ∃ s : Nat, x = (s : Int) ∧ Src ins v s := by
  unfold Zdg
  rw [mem_listed]
  constructor
  · rintro ⟨k, hk, e⟩
    exact ⟨k, by rw [e]; congr 1; omega, (Zr4.1 hk).2⟩
  · rintro ⟨s, e, hs⟩
    exact ⟨s, Zr4.2 ⟨Zut hb hs hv, hs⟩, by rw [e]; congr 1; omega⟩
theorem Zlq (n : Nat) (ins : Nat → Option (List Nat)) (v : Nat) : (Zdg n ins v).length ≤ n := by
  have := Zlj (ZvY n ins v) 0
  unfold Zdg
  unfold ZvY at this ⊢
  simpa using this
theorem ZnM : ∀ (l : List Bool) (m : Nat), (cat ZnP m l).Pairwise (· < ·) ∧ ∀ x ∈ cat ZnP m l, (m : Int) ≤ x := by
  intro l
  induction l with
  | nil => intro m; exact ⟨List.Pairwise.nil, fun x hx => by cases hx⟩
  | cons b r ih =>
    intro m
    obtain ⟨h1, h2⟩ := ih (m + 1)
    show (ZnP m b ++ cat ZnP (m + 1) r).Pairwise (· < ·) ∧ ∀ x ∈ ZnP m b ++ cat ZnP (m + 1) r, (m : Int) ≤ x
    cases b with
    | false =>
      refine ⟨h1, fun x hx => ?_⟩
      have := h2 x hx
      omega
    | true =>
      refine ⟨List.Pairwise.cons (fun x hx => ?_) h1, fun x hx => ?_⟩
      · have := h2 x hx
        omega
      · rcases List.mem_cons.1 hx with rfl | hx
        · exact Int.le_refl _
        · have := h2 x hx
          omega
theorem Zlp (n : Nat) (ins : Nat → Option (List Nat)) (v : Nat) : (Zdg n ins v).Pairwise (· < ·) := (ZnM _ 0).1
theorem Zqp : ∀ {a b : List Int}, a.Pairwise (· < ·) → b.Pairwise (· < ·) → (∀ x, x ∈ a ↔ x ∈ b) → a = b
  | [], [], _, _, _ => rfl
  | [], y :: b, _, _, h => by have := (h y).2 List.mem_cons_self; cases this
  | x :: a, [], _, _, h => by have := (h x).1 List.mem_cons_self; cases this
  | x :: a, y :: b, ha, hb, h => by
    obtain ⟨a1, a2⟩ := List.pairwise_cons.1 ha
    obtain ⟨b1, b2⟩ := List.pairwise_cons.1 hb
    have exy : x = y := by
      rcases List.mem_cons.1 ((h x).1 List.mem_cons_self) with e | q
      · exact e
      · rcases List.mem_cons.1 ((h y).2 List.mem_cons_self) with e | q2
        · exact e.symm
        · have := a1 y q2
          have := b1 x q
          omega
    subst exy
    rw [Zqp a2 b2 fun z => ?_]
    constructor
    · intro hz
      rcases List.mem_cons.1 ((h z).1 (List.mem_cons_of_mem _ hz)) with e | q
      · have := a1 z hz; omega
      · exact q
    · intro hz
      rcases List.mem_cons.1 ((h z).2 (List.mem_cons_of_mem _ hz)) with e | q
      · have := b1 z hz; omega
      · exact q
theorem ZsL (l : List Int) : (srt l).Pairwise (· ≤ ·) := by
  have := List.pairwise_mergeSort (le := fun x y : Int => decide (x ≤ y)) (fun a b c h1 h2 => by simp only [decide_eq_true_eq] at *; omega) (fun a b => by simp only [Bool.or_eq_true, decide_eq_true_eq]; omega) l
  unfold srt
  exact this.imp fun h => by simpa using h
theorem Zs9 {l : List Int} (h : l.Pairwise (· ≤ ·)) : (Zij l).Pairwise (· < ·) := by
  unfold Zij Lib.compactUpTo
  rw [List.pairwise_map]
  have h1 : ((List.range l.toArray.size).filter (Lib.keeps l.toArray)).Pairwise (· < ·) := List.Pairwise.filter _ List.pairwise_lt_range
  refine List.Pairwise.imp_of_mem ?_ h1
  intro i j hi hj hij
  have hi2 := List.mem_range.1 (List.mem_filter.1 hi).1
  have hj2 := List.mem_range.1 (List.mem_filter.1 hj).1
  have hk := (List.mem_filter.1 hj).2
  rw [List.size_toArray] at hi2 hj2
  unfold Lib.keeps at hk
  have hk := of_decide_eq_true hk
  have mono : ∀ a b : Nat, (hab : a ≤ b) → (hb : b < l.length) → l[a]'(by omega) ≤ l[b] := fun a b hab hb => by
    by_cases q : a = b
    · subst q; exact Int.le_refl _
    · exact List.pairwise_iff_getElem.1 h a b (by omega) hb (by omega)
  have e1 : l.toArray[i]! = l[i] := by rw [getElem!_pos _ i (by simpa using hi2)]; simp
  have e2 : l.toArray[j]! = l[j] := by rw [getElem!_pos _ j (by simpa using hj2)]; simp
  have e3 : l.toArray[j - 1]! = l[j - 1] := by rw [getElem!_pos _ (j - 1) (by simp only [List.size_toArray]; omega)]; simp
  rw [e1, e2]
  rw [e2, e3] at hk
  have m1 := mono i (j - 1) (by omega) (by omega)
  have m2 := mono (j - 1) j (by omega) hj2
  rcases hk with q | q
  · omega
  · omega
theorem ZA0 {l r : List Int} (hr : r.Pairwise (· < ·)) (h : ∀ x, x ∈ l ↔ x ∈ r) : Zij (srt l) = r := Zqp (Zs9 (ZsL l)) hr fun x => by rw [ZtY, Zxa, h]
def ZBS (n : Nat) (ins : Nat → Option (List Nat)) (tt : Nat → List Int → Int) (a W : Nat → Int) : Prop := ∀ v, v < n → match ins v with
  | none => W v = a v
  | some l => W v = tt v (l.map W)
theorem Zx4 {n : Nat} {ins : Nat → Option (List Nat)} {r : Nat → Nat} (hr : Rkd n ins r) (hb : InB n ins) (hrn : ∀ v, v < n → r v < n) (tt : Nat → List Int → Int) (a : Nat → Int) : ∃ W, ZBS n ins tt a W := by
  have key : ∀ j, ∃ W : Nat → Int, ∀ v, v < n → r v < j → match ins v with
      | none => W v = a v
      | some l => W v = tt v (l.map W) := by
    intro j
    induction j with
    | zero => exact ⟨fun _ => 0, fun v _ h => by omega⟩
    | succ j ih =>
      obtain ⟨W, hW⟩ := ih
      refine ⟨fun v => if r v < j then W v else match ins v with
        | none => a v
        | some l => tt v (l.map W), fun v hv hrv => ?_⟩
      have hW2 := hW v hv
      cases hi : ins v with
      | none =>
        simp only [hi] at hW2 ⊢
        split
        · exact hW2 (by assumption)
        · rfl
      | some l =>
        simp only [hi] at hW2 ⊢
        have e : l.map (fun v => if r v < j then W v else match ins v with
          | none => a v
          | some l => tt v (l.map W)) = l.map W := List.map_congr_left fun u hu => by
            have := hr v l u hv hi hu
            rw [if_pos (by omega)]
        rw [e]
        split
        · exact hW2 (by assumption)
        · rfl
  obtain ⟨W, hW⟩ := key n
  exact ⟨W, fun v hv => hW v hv (hrn v hv)⟩
/-
  Plain ground: marking the sources of a net by depth (no program in sight).
-/
abbrev MS := List Bool × List Bool
def dfs (ins : Nat → Option (List Nat)) : Nat → Nat → MS → MS
  | 0, _, s => s
  | k + 1, v, s => if isK s.2 v = true then s else match ins v with
    | none => (s.1.set v true, s.2.set v true)
    | some l => l.foldl (fun s u => dfs ins k u s) (s.1, s.2.set v true)
def ZqZ (n : Nat) (ins : Nat → Option (List Nat)) (r : Nat → Nat) (c : Nat) (s : MS) : Prop := ∀ u, u < n → isK s.2 u = true → r u < c → ∀ x, Src ins u x → isK s.1 x = true
structure Did (n : Nat) (ins : Nat → Option (List Nat)) (S : Nat → Prop) (s s' : MS) : Prop where
  l1 : s'.1.length = n
  l2 : s'.2.length = n
  mks : ∀ x, isK s'.1 x = true ↔ isK s.1 x = true ∨ S x
  up : ∀ u, isK s.2 u = true → isK s'.2 u = true
  new : ∀ u, u < n → isK s'.2 u = true → isK s.2 u = true ∨ ∀ x, Src ins u x → isK s'.1 x = true
theorem Did.seen {n : Nat} {ins : Nat → Option (List Nat)} {S : Nat → Prop} {s s' : MS} (h : Did n ins S s s') {r : Nat → Nat} {c : Nat} (q : ZqZ n ins r c s) : ZqZ n ins r c s' := by
  intro u hu hk hr x hx
  rcases h.new u hu hk with q1 | q1
  · exact (h.mks x).2 (.inl (q u hu q1 hr x hx))
  · exact q1 x hx
theorem Zwm {n : Nat} {ins : Nat → Option (List Nat)} {r : Nat → Nat} (hr : Rkd n ins r) (hb : InB n ins) : ∀ (k v : Nat) (s : MS), v < n → r v < k → s.1.length = n → s.2.length = n → ZqZ n ins r (r v + 1) s → Did n ins (Src ins v) s (dfs ins k v s)
  | 0, v, s, hv, hk, h1, h2, hs => by omega
  | k + 1, v, s, hv, hk, h1, h2, hs => by
    unfold dfs
    by_cases q : isK s.2 v = true
    · rw [if_pos q]
      exact ⟨h1, h2, fun x => ⟨.inl, fun w => w.elim id fun w => hs v hv q (by omega) x w⟩, fun u w => w, fun u hu w => .inl w⟩
    · rw [if_neg q]
      cases hi : ins v with
      | none =>
        simp only
        refine ⟨by simp [h1], by simp [h2], fun x => ?_, fun u w => ?_, fun u hu w => ?_⟩
        · show isK (s.1.set v true) x = true ↔ _
          rw [ZfA (by omega), ZoT hi]
          exact Or.comm
        · exact (ZfA (by omega) u).2 (.inr w)
        · rcases (ZfA (by omega) u).1 w with rfl | w
          · refine .inr fun x hx => ?_
            have := (ZoT hi).1 hx
            subst this
            exact (ZfA (by omega) x).2 (.inl rfl)
          · exact .inl w
      | some l =>
        simp only
        have key : ∀ (t : List Nat) (s0 : MS) (S : Nat → Prop), (∀ u ∈ t, u ∈ l) → Did n ins S (s.1, s.2.set v true) s0 → Did n ins (fun x => S x ∨ ∃ u, u ∈ t ∧ Src ins u x) (s.1, s.2.set v true) (t.foldl (fun s u => dfs ins k u s) s0) := by
          intro t
          induction t with
          | nil =>
            intro s0 S _ hD
            rw [List.foldl_nil]
            exact ⟨hD.l1, hD.l2, fun x => by rw [hD.mks x]; constructor <;> intro w <;> rcases w with w | w <;> first | exact .inl w | exact .inr (.inl w) | (rcases w with w | ⟨u, hu, _⟩; exact .inr w; cases hu), hD.up, hD.new⟩
          | cons u t ih =>
            intro s0 S ht hD
            have hu := ht u List.mem_cons_self
            have hru := hr v l u hv hi hu
            have hbu := hb v l u hv hi hu
            have hsv : ZqZ n ins r (r v) (s.1, s.2.set v true) := fun w hw hk hrw x hx => by
              rcases (ZfA (kn := s.2) (by omega) w).1 hk with rfl | q1
              · omega
              · exact hs w hw q1 (by omega) x hx
            have hs0 := hD.seen hsv
            have hd := Zwm hr hb k u s0 hbu (by omega) hD.l1 hD.l2 (fun w hw hk hrw => hs0 w hw hk (by omega))
            rw [List.foldl_cons]
            have := ih (dfs ins k u s0) (fun x => S x ∨ Src ins u x) (fun w hw => ht w (List.mem_cons_of_mem _ hw)) ⟨hd.l1, hd.l2, fun x => by rw [hd.mks x, hD.mks x, or_assoc], fun w hw => hd.up w (hD.up w hw), fun w hw hk => by
              rcases hd.new w hw hk with q1 | q1
              · rcases hD.new w hw q1 with q2 | q2
                · exact .inl q2
                · exact .inr fun x hx => (hd.mks x).2 (.inl (q2 x hx))
              · exact .inr q1⟩
            refine ⟨this.l1, this.l2, fun x => ?_, this.up, this.new⟩
            rw [this.mks x]
            constructor
            · rintro (w | (w | w) | ⟨y, hy, w⟩)
              · exact .inl w
              · exact .inr (.inl w)
              · exact .inr (.inr ⟨u, List.mem_cons_self, w⟩)
              · exact .inr (.inr ⟨y, List.mem_cons_of_mem _ hy, w⟩)
            · rintro (w | w | ⟨y, hy, w⟩)
              · exact .inl w
              · exact .inr (.inl (.inl w))
              · rcases List.mem_cons.1 hy with rfl | hy
                · exact .inr (.inl (.inr w))
                · exact .inr (.inr ⟨y, hy, w⟩)
        have := key l (s.1, s.2.set v true) (fun _ => False) (fun u hu => hu) ⟨h1, by simp [h2], fun x => by simp, fun u w => w, fun u hu w => .inl w⟩
        refine ⟨this.l1, this.l2, fun x => ?_, fun u w => this.up u ((ZfA (kn := s.2) (by omega) u).2 (.inr w)), fun u hu w => ?_⟩
        · rw [this.mks x, Zlm hi]
          simp
        · rcases this.new u hu w with q1 | q1
          · rcases (ZfA (kn := s.2) (by omega) u).1 q1 with rfl | q1
            · refine .inr fun x hx => (this.mks x).2 (.inr (.inr ((Zlm hi).1 hx)))
            · exact .inl q1
          · exact .inr q1
theorem Ztl {n : Nat} {ins : Nat → Option (List Nat)} {r : Nat → Nat} (hr : Rkd n ins r) (hb : InB n ins) {k v : Nat} (hv : v < n) (hk : r v < k) : (dfs ins k v (List.replicate n false, List.replicate n false)).1 = ZvY n ins v := by
  have h0 : ∀ u, isK (List.replicate n false) u = false := fun u => by
    unfold isK
    rw [List.getElem?_replicate]
    split <;> rfl
  have h := Zwm hr hb k v (List.replicate n false, List.replicate n false) hv hk (by simp) (by simp) (fun u hu w => by rw [h0 u] at w; cases w)
  apply List.ext_getElem?
  intro i
  by_cases hi : i < n
  · have h1 := h.mks i
    rw [h0 i] at h1
    have hil : i < (dfs ins k v (List.replicate n false, List.replicate n false)).1.length := by rw [h.l1]; exact hi
    have hx := List.getElem?_eq_getElem hil
    unfold ZvY
    rw [List.getElem?_map, List.getElem?_range hi, hx]
    show some _ = some (tr (Src ins v i))
    congr 1
    unfold isK at h1
    rw [hx] at h1
    symm
    apply Znz
    simpa using h1
  · rw [List.getElem?_eq_none (by rw [h.l1]; omega), List.getElem?_eq_none (by simp [ZvY]; omega)]
/-
  Plain ground: values of nets by depth, kept as they are found (no program in sight).
-/
abbrev knA (kn : List Int) (v : Nat) : Int := (kn[v]?).getD (-1)
structure Zyi (n : Nat) (W : Nat → Int) (kn : List Int) : Prop where
  len : kn.length = n
  val : ∀ u, u < n → 0 ≤ knA kn u → knA kn u = W u
theorem ZtN {kn : List Int} {v : Nat} {x : Int} (hv : v < kn.length) (u : Nat) : knA (kn.set v x) u = if u = v then x else knA kn u := by
  unfold knA
  rw [List.getElem?_set]
  by_cases h : v = u
  · subst h; simp [hv]
  · rw [if_neg h, if_neg (fun q => h q.symm)]
theorem along {n : Nat} {ins : Nat → Option (List Nat)} {s : List Bool × List Int} (h : Ord n ins s) {α τ ρ : Type} (pk : List α → Int → τ) (F : Nat → α) {step : τ → Option (τ ⊕ ρ)} {good : List α → ρ} {z : List α} (hz : z.length = n) (hn : n ≤ 1048576)
    (hstep : ∀ (k v : Nat) (out : List α), s.2[k]? = some (v : Int) → k < s.2.length → k ≤ 1048576 → v < n → out.length = n → (∀ l, ins v = some l → ∀ u ∈ l, out[u]? = some (F u)) → step (pk out (k : Int)) = some (.inl (pk (out.set v (F v)) ((k + 1 : Nat) : Int))))
    (hend : ∀ out : List α, out.length = n → step (pk out (s.2.length : Int)) = some (.inr (good out))) :
    ∃ out, Zn step (pk z 0) = some (good out) ∧ out.length = n ∧ ∀ v : Nat, (v : Int) ∈ s.2 → out[v]? = some (F v) := by
  have hlen : s.2.length ≤ n := h.few
  obtain ⟨r, e, out, rfl, h1, h2⟩ : ∃ r, Zn step (pk z 0) = some r ∧ ∃ out, r = good out ∧ out.length = n ∧ ∀ v : Nat, (v : Int) ∈ s.2 → out[v]? = some (F v) := by
    refine Xa s.2.length (fun k v => ∃ out, v = pk out (k : Int) ∧ out.length = n ∧ ∀ w : Nat, (w : Int) ∈ s.2.take k → out[w]? = some (F w)) _ ⟨z, rfl, hz, fun w hw => by simp at hw⟩ ?_ ?_
    · rintro k _ hk ⟨out, rfl, hl, hF⟩
      have hx : s.2[k]? = some s.2[k] := List.getElem?_eq_getElem hk
      obtain ⟨v, ev, hv, hnew, hin⟩ := h.bel k _ hx
      rw [ev] at hx
      left
      refine ⟨_, hstep k v out hx hk (by omega) hv hl (fun l hl2 u hu => hF u (hin l hl2 u hu)), _, rfl, by simp [hl], fun w hw => ?_⟩
      rw [List.take_add_one, hx] at hw
      rw [List.getElem?_set]
      by_cases q : v = w
      · subst q
        rw [if_pos rfl, if_pos (by omega)]
      · rw [if_neg q]
        refine hF w ?_
        rcases List.mem_append.1 hw with w1 | w1
        · exact w1
        · have : (w : Int) = (v : Int) := by simpa using w1
          omega
    · rintro _ ⟨out, rfl, hl, hF⟩
      rw [hend out hl]
      exact ⟨_, rfl, out, rfl, hl, fun w hw => hF w (by rw [List.take_length]; exact hw)⟩
  exact ⟨out, e, h1, h2⟩
/-
  Plain laws: the gate that drives each net; its inputs.
-/
abbrev insts (b : Ze) : List Zd := Zc.Instances (Ze.Design b)
abbrev Yc (b : Ze) : Nat := (Zc.YK (Ze.Design b)).length
def kindOf (b : Ze) (x : Zd) : Int := match (Zt.Cells (Ze.Library b))[(Zd.Cell x).toNat]? with
  | some c => Zm.Kind c
  | none => 0
structure ZuX (b : Ze) (x : Zd) (c : Zm) : Prop where
  at_ : atI (Zt.Cells (Ze.Library b)) (Zd.Cell x) = some c
  kind : kindOf b x = Zm.Kind c
  mem : c ∈ Zt.Cells (Ze.Library b)
  ok : ZhR c
  len : (Zd.YK x).length = (Zm.YR c).length
  two : 2 ≤ (Zd.YK x).length
  few : (Zd.YK x).length ≤ 5
theorem ZjP {b : Ze} (h : Va b) {x : Zd} (hx : x ∈ insts b) : ∃ c, ZuX b x c := by
  obtain ⟨h0, ⟨c, hc, hn⟩, _⟩ := h.ok.1.2.2.1 x hx
  have hm := List.mem_of_getElem? hc
  have hk := h.ok.1.1.2.1 c hm
  have h5 := h.ok.1.few.nets x hx
  exact ⟨c, ZcU h0.1 hc, by unfold kindOf; rw [hc], hm, hk, hn, by have := hk.2.1.1; omega, h5⟩
theorem Zpa {b : Ze} {i : Nat} {x : Zd} {c : Zm} (hx : (insts b)[i]? = some x) (h : ZuX b x c) : VE b (i : Int) = some c := by
  unfold VE
  rw [Zo, hx, Bq, h.at_]
  rfl
theorem last_at {b : Ze} (h : Va b) {x : Zd} (hx : x ∈ insts b) : atI (Zd.YK x) (Wq (((Zd.YK x).length : Int) - 1)) = some (YQ x) ∧ 0 ≤ YQ x ∧ YQ x < (Yc b : Int) := by
  have h5 := h.ok.1.few.nets x hx
  obtain ⟨h1, h2, h3⟩ := (h.ok.1.2.2.1 x hx).last h.ok.1.1 (by omega)
  exact ⟨h1, h2, by unfold Yc; omega⟩
theorem ZlT {b : Ze} (h : Va b) {i j : Nat} {x y : Zd} (hx : (insts b)[i]? = some x) (hy : (insts b)[j]? = some y) (e : YQ x = YQ y) : i = j := by
  obtain ⟨_, l0, l1⟩ := last_at h (List.mem_of_getElem? hx)
  obtain ⟨v, hv⟩ : ∃ v : Nat, YQ x = (v : Int) := ⟨(YQ x).toNat, by omega⟩
  have h1 := h.ok.1.2.2.2.2 _ (List.mem_of_getElem? (Zfq (s := Zvd (Ze.Design b)) (show v < (Zc.YK (Ze.Design b)).length by unfold Yc at l1; omega)))
  have get : ∀ {k : Nat} {z : Zd}, (insts b)[k]? = some z → (Zvd (Ze.Design b))[k]? = some (YQ z) := fun {k z} hz => by
    have hk := (List.getElem?_eq_some_iff.1 hz).1
    unfold Zvd
    rw [List.getElem?_append_left (by rw [List.length_map]; exact hk), List.getElem?_map, hz]
    rfl
  rcases Nat.lt_trichotomy i j with hlt | q | hlt
  · have := Zhv (p := fun x => decide (x = (v : Int))) hlt (get hx) (get hy) (by simp [hv]) (by simp [← e, hv])
    omega
  · exact q
  · have := Zhv (p := fun x => decide (x = (v : Int))) hlt (get hy) (get hx) (by simp [← e, hv]) (by simp [hv])
    omega
theorem Zuc {b : Ze} (h : Va b) {i : Nat} {x : Zd} {p : Z8} (hx : (insts b)[i]? = some x) (hp : p ∈ Zc.Xi (Ze.Design b)) (hd : Z8.Dir p = 1) (e : YQ x = Z8.Net p) : False := by
  obtain ⟨_, l0, l1⟩ := last_at h (List.mem_of_getElem? hx)
  obtain ⟨v, hv⟩ : ∃ v : Nat, YQ x = (v : Int) := ⟨(YQ x).toNat, by omega⟩
  have h1 := h.ok.1.2.2.2.2 _ (List.mem_of_getElem? (Zfq (s := Zvd (Ze.Design b)) (show v < (Zc.YK (Ze.Design b)).length by unfold Yc at l1; omega)))
  unfold Zvd at h1
  rw [List.countP_append] at h1
  have c1 : 0 < (((Zc.Instances (Ze.Design b)).map YQ).countP fun x => decide (x = (v : Int))) := List.countP_pos_iff.2 ⟨YQ x, List.mem_map_of_mem (List.mem_of_getElem? hx), by simp [hv]⟩
  have c2 : 0 < ((((Zc.Xi (Ze.Design b)).filter (fun p => decide (Z8.Dir p = 1))).map Z8.Net).countP fun x => decide (x = (v : Int))) :=
    List.countP_pos_iff.2 ⟨Z8.Net p, List.mem_map_of_mem (List.mem_filter.2 ⟨hp, by simp [hd]⟩), by simp [← e, hv]⟩
  omega
def gP (b : Ze) (v : Nat) (x : Zd) : Bool := decide (YQ x = (v : Int)) && decide (kindOf b x = 1)
def gF (b : Ze) (v : Nat) : Int := XI (gP b v) (insts b)
theorem ZlD {α : Type} {p : α → Bool} {l : List α} (h : ∀ x ∈ l, p x = false) : XI p l = -1 := by
  unfold XI
  rw [List.findIdx?_eq_none_iff.2 h]
theorem Zql {α : Type} {p : α → Bool} {l : List α} {k : Nat} {x : α} (hx : l[k]? = some x) : XI p (l.take (k + 1)) = if 0 ≤ XI p (l.take k) then XI p (l.take k) else if p x = true then (k : Int) else -1 := by
  have hk := (List.getElem?_eq_some_iff.1 hx).1
  rw [Yp hx]
  unfold XI
  rw [List.findIdx?_append]
  cases h : (l.take k).findIdx? p with
  | some i => simp
  | none =>
    rw [if_neg (by show ¬ (0 : Int) ≤ -1; omega), List.length_take, Nat.min_eq_left (by omega)]
    by_cases q : p x = true
    · simp [List.findIdx?_cons, q]
    · simp [List.findIdx?_cons, q]
theorem ZyA {b : Ze} (h : Va b) {i v : Nat} {x : Zd} (hx : (insts b)[i]? = some x) (hl : YQ x = (v : Int)) (hk : kindOf b x = 1) : gF b v = (i : Int) :=
  ZgV hx (by simp [gP, hl, hk]) fun j y hj hy => by
    cases hb : gP b v y with
    | false => rfl
    | true =>
      unfold gP at hb
      simp only [Bool.and_eq_true, decide_eq_true_eq] at hb
      have := ZlT h hx hy (by rw [hl, hb.1])
      omega
theorem ZtB {b : Ze} {v : Nat} (h : ∀ (i : Nat) (x : Zd), (insts b)[i]? = some x → YQ x = (v : Int) → kindOf b x ≠ 1) : gF b v = -1 :=
  ZlD fun x hx => by
    obtain ⟨i, hi⟩ := List.mem_iff_getElem?.1 hx
    have := h i x hi
    unfold gP
    simp only [Bool.and_eq_false_iff, decide_eq_false_iff_not]
    by_cases q : YQ x = (v : Int)
    · exact .inr (this q)
    · exact .inl q
structure Zp5 (b : Ze) (v i : Nat) (x : Zd) : Prop where
  at_ : (insts b)[i]? = some x
  last : YQ x = (v : Int)
  kind : kindOf b x = 1
  gF : gF b v = (i : Int)
theorem ZbU {b : Ze} (h : Va b) (v : Nat) : gF b v = -1 ∨ ∃ i x, Zp5 b v i x := by
  by_cases q : ∃ (i : Nat) (x : Zd), (insts b)[i]? = some x ∧ YQ x = (v : Int) ∧ kindOf b x = 1
  · obtain ⟨i, x, h1, h2, h3⟩ := q
    exact .inr ⟨i, x, h1, h2, h3, ZyA h h1 h2 h3⟩
  · exact .inl (ZtB fun i x hx hl hk => q ⟨i, x, hx, hl, hk⟩)
def inL (x : Zd) : List Int := (Zd.YK x).take ((Zd.YK x).length - 1)
theorem Zrt {x : Zd} (h2 : 2 ≤ (Zd.YK x).length) (h5 : (Zd.YK x).length ≤ 5) :
    List.take (Int.toNat (Wq ((↑(List.length (Zd.YK x)) : Int) - (1 : Int))) - Int.toNat (0 : Int)) (List.drop (Int.toNat (0 : Int)) (Zd.YK x)) = inL x ∧ (0 : Int) ≤ Wq ((↑(List.length (Zd.YK x)) : Int) - (1 : Int)) ∧
      Wq ((↑(List.length (Zd.YK x)) : Int) - (1 : Int)) ≤ (↑(List.length (Zd.YK x)) : Int) := by
  rw [Zky (by omega) (by omega)]
  refine ⟨?_, by omega, by omega⟩
  unfold inL
  simp
theorem Zg9 {x : Zd} : (inL x).length = (Zd.YK x).length - 1 := by unfold inL; rw [List.length_take]; omega
theorem Zos {b : Ze} (h : Va b) {x : Zd} (hx : x ∈ insts b) {n : Int} (hn : n ∈ inL x) : 0 ≤ n ∧ n < (Yc b : Int) := by
  have := (h.ok.1.2.2.1 x hx).2.2 n (List.mem_of_mem_take hn)
  unfold Zn4 at this
  unfold Yc
  omega
def ins (b : Ze) (v : Nat) : Option (List Nat) := match (insts b)[(gF b v).toNat]? with
  | some x => if gF b v < 0 then none else some ((inL x).map Int.toNat)
  | none => none
theorem Zb2 {b : Ze} {v : Nat} (h : gF b v = -1) : ins b v = none := by
  unfold ins
  split
  · rw [if_pos (by omega)]
  · rfl
theorem Zan {b : Ze} {v i : Nat} {x : Zd} (h : Zp5 b v i x) : ins b v = some ((inL x).map Int.toNat) := by
  unfold ins
  rw [h.gF, Int.toNat_natCast, h.at_]
  simp only
  rw [if_neg (by omega)]
theorem Ze0 {b : Ze} (h : Va b) (n : Nat) : InB (Yc b) (ins b) := by
  intro v l u hv hi hu
  rcases ZbU h v with q | ⟨i, x, g⟩
  · rw [Zb2 q] at hi; cases hi
  · rw [Zan g] at hi
    injection hi with hi
    subst hi
    obtain ⟨n, hn, rfl⟩ := List.mem_map.1 hu
    have := Zos h (List.mem_of_getElem? g.at_) hn
    omega
theorem ZpF {d : Zc} {y : Pl} (hy : y ∈ Xq d) : (∃ (i j : Nat) (x : Zd) (n : Int), (Zc.Instances d)[i]? = some x ∧ (Zd.YK x)[j]? = some n ∧ y = ((i : Int), (j : Int), n, decide ((j : Int) = Wq (((Zd.YK x).length : Int) - 1)), ())) ∨
    (∃ (j : Nat) (p : Z8), (Zc.Xi d)[j]? = some p ∧ y = ((-1 : Int), (j : Int), Z8.Net p, decide (Z8.Dir p = 1), ())) := by
  unfold Xq at hy
  rcases List.mem_append.1 hy with hy | hy
  · obtain ⟨i, x, hi, hz⟩ := ZcI.1 hy
    unfold Zfc at hz
    obtain ⟨j, n, hj, hn⟩ := ZcI.1 hz
    simp only [List.mem_singleton, Nat.zero_add] at hn
    exact .inl ⟨i, j, x, n, hi, hj, hn⟩
  · obtain ⟨j, p, hj, hp⟩ := ZcI.1 hy
    simp only [Zf8, List.mem_singleton, Nat.zero_add] at hp
    exact .inr ⟨j, p, hj, hp⟩
theorem Zvr {b : Ze} (h : Va b) {q : Nat} {y : Pl} (hy : (Xq (Ze.Design b))[q]? = some y) : ZhH (Ze.Library b) (Ze.Design b) (q : Int) = some (y, true) := by
  obtain ⟨a1, a2, _⟩ := ZoR h.sm
  have hf := h.ok.1.few
  have hpl := ZdT hf
  have hq := (List.getElem?_eq_some_iff.1 hy).1
  unfold ZhH
  rw [Zga _ _ a1 a2, Bq, if_pos (Yt h.ok.1), Zat _ hf, Bq, Vx, Bq, Zky (by omega) (by omega), if_pos (Yt ⟨by omega, by omega⟩), Zo, hy]
  rfl
theorem Zhx {b : Ze} (h : Va b) {v : Nat} (hv : v < Yc b) : J5 b (v : Int) = some (gF b v) := by
  have hf := h.ok.1.few
  have hsm := (ZoR h.sm).2.1
  obtain ⟨q, y, hq, hp, e, hu⟩ := Zyw h.ok.1 hsm hv
  unfold J5
  rw [Zkv _ _ hf, Bq, show XI (fun x : Pl => decide (x.2.2.1 = (v : Int)) && x.2.2.2.1) (Xq (Ze.Design b)) = Zyv (Ze.Design b) (v : Int) from rfl, e, Zvr h hq, Bq]
  unfold Zvc at hp
  simp only [Bool.and_eq_true, decide_eq_true_eq] at hp
  rcases ZpF (List.mem_of_getElem? hq) with ⟨i, j, x, n, hi, hj, rfl⟩ | ⟨j, p, hj, rfl⟩
  · simp only [decide_eq_true_eq] at hp
    obtain ⟨c, hc⟩ := ZjP h (List.mem_of_getElem? hi)
    have hl : YQ x = (v : Int) := by
      obtain ⟨l1, _⟩ := last_at h (List.mem_of_getElem? hi)
      rw [← hp.2, Zo, hj] at l1
      injection l1 with l1
      rw [← l1, hp.1]
    show (if ((i : Int)) < 0 then _ else _) = _
    rw [if_neg (by omega)]
    show (atI (Zc.Instances (Ze.Design b)) (i : Int)).bind _ = _
    rw [Zo, hi, Bq, hc.at_, Bq]
    by_cases k1 : Zm.Kind c = 1
    · rw [if_pos k1, ZyA h hi hl (by rw [hc.kind, k1])]
    · rw [if_neg k1, ZtB fun i2 x2 h2 l2 k2 => ?_]
      have := ZlT h hi h2 (by rw [hl, l2])
      subst this
      rw [hi] at h2
      injection h2 with h2
      subst h2
      rw [hc.kind] at k2
      exact k1 k2
  · simp only [decide_eq_true_eq] at hp
    show (if (-1 : Int) < 0 then _ else _) = _
    rw [if_pos (by omega), ZtB fun i2 x2 h2 l2 k2 => Zuc h h2 (List.mem_of_getElem? hj) hp.2 (by rw [l2, hp.1])]
theorem Zhd {b : Ze} (h : Va b) {i : Nat} {x : Zd} (hx : (insts b)[i]? = some x) : Jv b (i : Int) = some (inL x) := by
  obtain ⟨c, hc⟩ := ZjP h (List.mem_of_getElem? hx)
  obtain ⟨e1, e2, e3⟩ := Zrt hc.two hc.few
  unfold Jv
  rw [Zo, hx, Bq, Zh e2, Zh e3, e1]
/-
  Plain laws: the logic of a block: its gates and an order of its nets; levels.
-/
theorem Qt {b : Ze} (h : Va b) : Yc b ≤ 30 := h.ok.1.2.1.2.1
def gates (b : Ze) : List Int := (List.range (Yc b)).map (gF b)
theorem JI (b : Ze) : (gates b).length = Yc b := by simp [gates]
theorem Zeu (b : Ze) {v : Nat} (hv : v < Yc b) : (gates b)[v]? = some (gF b v) := by
  unfold gates
  rw [List.getElem?_map, List.getElem?_range hv]
  rfl
def Zax (b : Ze) (k : Nat) : List Int := (List.range (Yc b)).map fun v => XI (gP b v) ((insts b).take k)
theorem Zd6 (b : Ze) (k : Nat) : (Zax b k).length = Yc b := by simp [Zax]
theorem Zpi {b : Ze} (h : Va b) {k : Nat} {x : Zd} (hx : (insts b)[k]? = some x) : Zax b (k + 1) = if kindOf b x = 1 then (Zax b k).set (YQ x).toNat (k : Int) else Zax b k := by
  obtain ⟨_, l0, l1⟩ := last_at h (List.mem_of_getElem? hx)
  have e1 : ∀ v, XI (gP b v) ((insts b).take (k + 1)) = if kindOf b x = 1 ∧ v = (YQ x).toNat then (k : Int) else XI (gP b v) ((insts b).take k) := fun v => by
    rw [Zql hx]
    by_cases q : kindOf b x = 1 ∧ v = (YQ x).toNat
    · rw [if_pos q]
      have hl : YQ x = (v : Int) := by rw [q.2]; omega
      have hno : XI (gP b v) ((insts b).take k) = -1 := ZlD fun y hy => by
        obtain ⟨j, hj⟩ := List.mem_iff_getElem?.1 hy
        rw [List.getElem?_take] at hj
        split at hj
        · rename_i hjk
          cases hb : gP b v y with
          | false => rfl
          | true =>
            unfold gP at hb
            simp only [Bool.and_eq_true, decide_eq_true_eq] at hb
            have := ZlT h hx hj (by rw [hl, hb.1])
            omega
        · cases hj
      rw [hno, if_neg (by omega), if_pos (by simp [gP, hl, q.1])]
    · rw [if_neg q]
      by_cases q2 : 0 ≤ XI (gP b v) ((insts b).take k)
      · rw [if_pos q2]
      · rw [if_neg q2, if_neg]
        · unfold XI at q2 ⊢
          split
          · rename_i i hi
            rw [hi] at q2
            exact absurd (by simp) q2
          · rfl
        · intro hb
          unfold gP at hb
          simp only [Bool.and_eq_true, decide_eq_true_eq] at hb
          exact q ⟨hb.2, by omega⟩
  apply List.ext_getElem?
  intro v
  by_cases hv : v < Yc b
  · have e2 : ∀ k, (Zax b k)[v]? = some (XI (gP b v) ((insts b).take k)) := fun k => by
      unfold Zax
      rw [List.getElem?_map, List.getElem?_range hv]
      rfl
    rw [e2, e1]
    by_cases k1 : kindOf b x = 1
    · rw [if_pos k1, List.getElem?_set]
      by_cases q : (YQ x).toNat = v
      · rw [if_pos q, if_pos ⟨k1, q.symm⟩, if_pos (by rw [Zd6]; omega)]
      · rw [if_neg q, if_neg (fun z => q z.2.symm), e2]
    · rw [if_neg k1, if_neg (fun z => k1 z.1), e2]
  · rw [List.getElem?_eq_none (by rw [Zd6]; omega)]
    symm
    apply List.getElem?_eq_none
    split
    · rw [List.length_set, Zd6]; omega
    · rw [Zd6]; omega
theorem Zrv {kn : List Bool} {u : Nat} (hu : u < kn.length) : kn[u]? = some (isK kn u) := by
  unfold isK
  rw [List.getElem?_eq_getElem hu]
  cases kn[u] <;> rfl
theorem Zqv {b : Ze} (h : Va b) {v i : Nat} {x : Zd} (hv : v < Yc b) (g : Zp5 b v i x) {kn : List Bool} {ord : List Int} (hk : kn.length = Yc b) (ho : ord.length ≤ Yc b) :
    Zn (fun w => QN (v : Int) ord kn x w.1) ((0 : Int), ()) = some (if rdy (ins b) kn v = true then .inl (((v + 1 : Nat) : Int), ord ++ [(v : Int)], List.set kn v true, ()) else .inl (((v + 1 : Nat) : Int), ord, kn, ())) := by
  have hn := Qt h
  have hm := List.mem_of_getElem? g.at_
  obtain ⟨c, hc⟩ := ZjP h hm
  obtain ⟨e1, e2, e3⟩ := Zrt hc.two hc.few
  have hil := Zg9 (x := x)
  have h5 := hc.few
  have := Je (l := inL x) (show Len (inL x) by unfold Len; omega) (fun _ y => isK kn y.toNat = true) (step := fun w => QN (v : Int) ord kn x w.1)
    (bad := .inl (((v + 1 : Nat) : Int), ord, kn, ())) (good := .inl (((v + 1 : Nat) : Int), ord ++ [(v : Int)], List.set kn v true, ()))
    (fun k y hy hkl _ => by
      have hyn := Zos h hm (List.mem_of_getElem? hy)
      have hat : atI kn y = some (isK kn y.toNat) := ZcU hyn.1 (Zrv (by omega))
      simp only [QN, e1, show (k : Int) < ((inL x).length : Int) from by omega, if_true, Zo, hy, Bq, hat]
      constructor
      · intro q; rw [if_pos q]
      · intro q; rw [if_neg q, if_pos (by omega), Xj (by omega)])
    (fun _ => by
      simp only [QN, e1, Int.lt_irrefl, if_false]
      rw [if_neg (by omega), Zh (by simp only [List.length_cons, List.length_nil]; omega), Xj (by omega), Int.toNat_natCast])
  rw [this]
  congr 1
  have hr : Ze6 (inL x) (fun _ y => isK kn y.toNat = true) ↔ rdy (ins b) kn v = true := by
    rw [ZaW]
    unfold rdy
    rw [Zan g]
    simp only [List.all_map, List.all_eq_true, Function.comp]
  by_cases q : rdy (ins b) kn v = true
  · rw [if_pos q, X9 (hr.2 q)]
  · rw [if_neg q, Xy (fun z => q (hr.1 z))]
theorem Zsu {b : Ze} (h : Va b) {s : List Bool × List Int} (hs : Ord (Yc b) (ins b) s) :
    Zn (fun v => Jb b (gates b) s.2 (Yc b : Int) v.1 v.2.1 v.2.2.1) ((0 : Int), s.2, s.1, ()) =
      some (if (Zav (ins b) s (Yc b)).2.length = s.2.length then .inr (.inr (.inr (none, false))) else .inl ((Zav (ins b) s (Yc b)).2, (Zav (ins b) s (Yc b)).1, ())) := by
  have hn := Qt h
  refine Ya (Yc b) (fun k v => v = ((k : Int), (Zav (ins b) s k).2, (Zav (ins b) s k).1, ())) _ rfl ?_ ?_
  · rintro k _ hk rfl
    left
    have hO := hs.pass (k := k) (by omega)
    refine ⟨_, ?_, rfl⟩
    rw [ZcJ]
    generalize Zav (ins b) s k = t at hO
    have hlen := hO.len
    have hfew := hO.few
    simp only [Jb, show (k : Int) < (Yc b : Int) from by omega, if_true, Zo, Zrv (show k < t.1.length by omega), Bq, Zeu b hk, Xj (show k ≤ 1048576 by omega)]
    unfold stp
    cases hkk : isK t.1 k with
    | true => rfl
    | false =>
      simp only [Bool.false_eq_true, if_false, true_and]
      rcases ZbU h k with q | ⟨i, x, g⟩
      · rw [q, if_pos (by omega), Zh (by simp only [List.length_cons, List.length_nil]; omega), if_pos (by unfold rdy; rw [Zb2 q]), Int.toNat_natCast]
      · obtain ⟨c, hc⟩ := ZjP h (List.mem_of_getElem? g.at_)
        obtain ⟨e1, e2, e3⟩ := Zrt hc.two hc.few
        rw [g.gF, if_neg (by omega), Zo, g.at_, Bq, Zh e2, Zh e3, Zqv h hk g hlen hfew]
        by_cases q : rdy (ins b) t.1 k = true
        · rw [if_pos q, if_pos q]
        · rw [if_neg q, if_neg q]
  · rintro _ rfl
    simp only [Jb, Int.lt_irrefl, if_false]
    by_cases q : (Zav (ins b) s (Yc b)).2.length = s.2.length
    · rw [if_pos q, if_pos (by omega)]
    · rw [if_neg q, if_neg (by omega)]
theorem Zmo {b : Ze} (h : Va b) : ∃ r, ZdF b = some r ∧ ((∃ s, Ord (Yc b) (ins b) s ∧ s.2.length = Yc b ∧ r = (some (b, gates b, s.2, ()), true)) ∨ (¬ Logical (Yc b) (ins b) ∧ r = (none, false))) := by
  have hn := Qt h
  have hw : (Ze.QZ b).length = Yc b := h.ok.2.1
  have h14 := h.ok.1.few.insts
  unfold ZdF
  rw [Zh (by omega), Zh (by omega), Zh (by omega), Zh (by omega), hw, Int.toNat_natCast]
  refine Xa (Yc b) (fun k v => v = ((k : Int), List.replicate k (-1 : Int) ++ List.replicate (Yc b - k) (0 : Int), ())) _ (by rw [List.replicate_zero, List.nil_append]; rfl) ?_ ?_
  · rintro k _ hk rfl
    left
    refine ⟨_, ?_, rfl⟩
    have e : List.replicate (Yc b - k) (0 : Int) = 0 :: List.replicate (Yc b - (k + 1)) 0 := by
      rw [show Yc b - k = (Yc b - (k + 1)) + 1 by omega, List.replicate_succ]
    have hat : (List.replicate k (-1 : Int) ++ List.replicate (Yc b - k) (0 : Int))[k]? = some 0 := by
      rw [List.getElem?_append_right (by simp), e]; simp
    simp only [Zbg, hw, Int.toNat_natCast, List.length_replicate, show (k : Int) < (Yc b : Int) from by omega, if_true, Zo, hat, Bq, Xj (show k ≤ 1048576 by omega)]
    congr 3
    rw [e, List.set_append_right _ _ (by simp), List.length_replicate, Nat.sub_self, List.set_cons_zero, List.replicate_succ', List.append_assoc]
    rfl
  · rintro _ rfl
    simp only [Zbg, hw, Int.toNat_natCast, List.length_replicate, Int.lt_irrefl, if_false, Nat.sub_self, List.replicate_zero, List.append_nil]
    have e0 : List.replicate (Yc b) (-1 : Int) = Zax b 0 := by
      unfold Zax
      rw [List.take_zero]
      apply List.ext_getElem?
      intro v
      rw [List.getElem?_replicate, List.getElem?_map]
      by_cases hv : v < Yc b
      · rw [if_pos hv, List.getElem?_range hv]; rfl
      · rw [if_neg hv, List.getElem?_eq_none (by simpa using hv)]; rfl
    rw [e0]
    suffices hq : ∃ r, Zn (fun v => QO b v.1 v.2.1) ((0 : Int), Zax b 0, ()) = some (.inr r) ∧ ((∃ s, Ord (Yc b) (ins b) s ∧ s.2.length = Yc b ∧ r = (some (b, gates b, s.2, ()), true)) ∨ (¬ Logical (Yc b) (ins b) ∧ r = (none, false))) by
      obtain ⟨r, e, q⟩ := hq
      exact ⟨r, e, q⟩
    suffices hq : ∃ r', Zn (fun v => QO b v.1 v.2.1) ((0 : Int), Zax b 0, ()) = some r' ∧ ∃ r, r' = .inr r ∧ ((∃ s, Ord (Yc b) (ins b) s ∧ s.2.length = Yc b ∧ r = (some (b, gates b, s.2, ()), true)) ∨ (¬ Logical (Yc b) (ins b) ∧ r = (none, false))) by
      obtain ⟨_, e, r, rfl, q⟩ := hq
      exact ⟨r, e, q⟩
    refine Xa (insts b).length (fun k v => v = ((k : Int), Zax b k, ())) _ rfl ?_ ?_
    · rintro k _ hk rfl
      left
      refine ⟨_, ?_, rfl⟩
      have hx : (insts b)[k]? = some (insts b)[k] := List.getElem?_eq_getElem hk
      generalize (insts b)[k] = x at hx
      obtain ⟨c, hc⟩ := ZjP h (List.mem_of_getElem? hx)
      obtain ⟨l0, l1, l2⟩ := last_at h (List.mem_of_getElem? hx)
      have hk14 : k ≤ 1048576 := by
        have : (insts b).length ≤ 14 := h14
        omega
      have hg : (Zax b k)[(YQ x).toNat]? = some ((Zax b k)[(YQ x).toNat]'(by rw [Zd6]; omega)) := List.getElem?_eq_getElem _
      simp only [QO, show (k : Int) < ((Zc.Instances (Ze.Design b)).length : Int) from by have : k < (Zc.Instances (Ze.Design b)).length := hk; omega, if_true, Zo, hx, Bq, Zpa hx hc, ← hc.kind, l0, ZcU l1 hg, Xj hk14, Zpi h hx]
      split
      · rfl
      · rfl
    · rintro _ rfl
      have eg : Zax b (insts b).length = gates b := by
        unfold Zax gates gF
        rw [List.take_length]
      simp only [QO, Int.lt_irrefl, if_false, eg, JI, Int.toNat_natCast]
      rw [Zh (by omega), Zh (by omega), Zh (by omega), Zh (by omega)]
      suffices hq : ∃ r', Zn (fun v => Zbf b (gates b) v.1 v.2.1) (([] : List Int), List.replicate (Yc b) false, ()) = some r' ∧ ∃ r, r' = .inr (.inr r) ∧ ((∃ s, Ord (Yc b) (ins b) s ∧ s.2.length = Yc b ∧ r = (some (b, gates b, s.2, ()), true)) ∨ (¬ Logical (Yc b) (ins b) ∧ r = (none, false))) by
        obtain ⟨_, e, r, rfl, q⟩ := hq
        refine ⟨_, ?_, r, rfl, q⟩
        rw [e]
      refine VR (fun v => Ord (Yc b) (ins b) (v.2.1, v.1)) (fun v => Yc b - v.1.length) _ (Ord.start _ _) ?_
      rintro ⟨c0, l2', ⟨⟩⟩ hO
      simp only at hO
      simp only [Zbf, JI, Zaz, Bq]
      have hfew := hO.few
      simp only at hfew
      by_cases q : (c0.length : Int) < (Yc b : Int)
      · rw [if_pos q]
        have := Zsu h hO
        simp only at this
        rw [this]
        by_cases q2 : (Zav (ins b) (l2', c0) (Yc b)).2.length = c0.length
        · rw [if_pos q2]
          refine .inr ⟨_, rfl, _, rfl, .inr ⟨?_, rfl⟩⟩
          rintro ⟨r, hr⟩
          have := progress (Ze0 h 0) hr hO (by simp only; omega)
          simp only at this
          omega
        · rw [if_neg q2]
          refine .inl ⟨_, rfl, hO.pass (Nat.le_refl _), ?_⟩
          have := Zli (ins b) (l2', c0) (Yc b) 0 (Nat.zero_le _)
          rw [Zms] at this
          simp only at this ⊢
          omega
      · rw [if_neg q]
        exact .inr ⟨_, rfl, _, rfl, .inl ⟨(l2', c0), hO, by simp only; omega, rfl⟩⟩
theorem ZyG {n : Nat} {c : Int} {L : List Int} (h : ZsP n c L) {u : Nat} (hu : u < n) : L[u]? = some ((L[u]?).getD 0) := by
  rw [List.getElem?_eq_getElem (by rw [h.1]; exact hu)]
  rfl
theorem ZtS {b : Ze} (h : Va b) {v i : Nat} {x : Zd} (hv : v < Yc b) (g : Zp5 b v i x) {c : Int} {s : List Int × Bool} (hL : ZsP (Yc b) c s.1) (hc : c ≤ 1048576) :
    Zn (fun w => QB s.2 (v : Int) s.1 (inL x) w.1 w.2.1) ((0 : Int), (0 : Int), ()) = some (.inl ((ZrF (ins b) s v).2, ((v + 1 : Nat) : Int), (ZrF (ins b) s v).1, ())) := by
  have hn := Qt h
  have hm := List.mem_of_getElem? g.at_
  obtain ⟨cc, hcc⟩ := ZjP h hm
  have hil := Zg9 (x := x)
  have h5 := hcc.few
  have key := YO (l := inL x) (fun k => (ZaT s.1 (((inL x).take k).map Int.toNat), (k : Int), ())) (step := fun w => QB s.2 (v : Int) s.1 (inL x) w.1 w.2.1) (good := .inl ((ZrF (ins b) s v).2, ((v + 1 : Nat) : Int), (ZrF (ins b) s v).1, ()))
    (fun k y hy hk => by
      have hyn := Zos h hm (List.mem_of_getElem? hy)
      simp only [QB, show (k : Int) < ((inL x).length : Int) from by omega, if_true, Zo, hy, Bq, ZcU hyn.1 (ZyG hL (show y.toNat < Yc b by omega)), Xj (show k ≤ 1048576 by omega)]
      rw [Yp hy, List.map_append]
      unfold ZaT
      rw [List.foldl_append]
      rfl)
    (by
      have hat : atI s.1 (v : Int) = some ((s.1[v]?).getD 0) := by rw [Zo]; exact ZyG hL hv
      simp only [QB, Int.lt_irrefl, if_false, List.take_length, hat, Bq, Xj (show v ≤ 1048576 by omega)]
      have hm1 := Zmm s.1 ((inL x).map Int.toNat)
      have hm2 := Zpz s.1 ((inL x).map Int.toNat) c (by have := hL.2 0; omega) fun u _ => (hL.2 u).2
      rw [XG (by omega) (by omega)]
      unfold ZrF
      rw [Zan g]
      simp only
      by_cases q : (s.1[v]?).getD 0 = ZaT s.1 ((inL x).map Int.toNat) + 1
      · rw [if_pos q, if_neg (fun z => z q)]
      · rw [if_neg q, if_pos q, Int.toNat_natCast])
  exact key
theorem Zqt {b : Ze} (h : Va b) (r : Nat) (hr : r ≤ 31) {L : List Int} (hL : ZsP (Yc b) ((r * Yc b : Nat) : Int) L) :
    Zn (fun v => Vy b (r : Int) v.1 v.2.1 v.2.2.1) (false, (0 : Int), L, ()) = some (if (Zbl (ins b) L (Yc b)).2 = true then .inl (((r + 1 : Nat) : Int), (Zbl (ins b) L (Yc b)).1, ()) else .inr ((Zbl (ins b) L (Yc b)).1, true)) := by
  have hn := Qt h
  have hrn : r * Yc b ≤ 31 * 30 := Nat.mul_le_mul hr hn
  refine Ya (Yc b) (fun k v => v = ((Zbl (ins b) L k).2, (k : Int), (Zbl (ins b) L k).1, ())) _ rfl ?_ ?_
  · rintro k _ hk rfl
    left
    refine ⟨_, ?_, rfl⟩
    have hLk := hL.pass (ins := ins b) (k := k) (by omega)
    rw [ZcH]
    generalize Zbl (ins b) L k = t at hLk
    simp only [Vy, show (k : Int) < ((Zc.YK (Ze.Design b)).length : Int) from by show (k : Int) < (Yc b : Int); omega, if_true, Zhx h hk, Bq]
    rcases ZbU h k with q | ⟨i, x, g⟩
    · rw [q, if_pos (by omega), Xj (by omega)]
      unfold ZrF
      rw [Zb2 q]
    · rw [g.gF, if_neg (by omega), Zhd h g.at_, Bq, ZtS h hk g hLk (by omega)]
  · rintro _ rfl
    simp only [Vy, show ¬ (Yc b : Int) < ((Zc.YK (Ze.Design b)).length : Int) from by show ¬ (Yc b : Int) < (Yc b : Int); omega, if_false, Xj (show r ≤ 1048576 by omega)]
    split
    · rfl
    · rfl
theorem Zpt {b : Ze} (h : Va b) : ∃ L, Zdc b = some (L, tr (Logical (Yc b) (ins b))) := by
  have hn := Qt h
  unfold Zdc
  rw [show (Zc.YK (Ze.Design b)).length = Yc b from rfl, Zh (by omega), Zh (by omega), Zh (by omega), Zh (by omega), Int.toNat_natCast]
  suffices hq : ∃ r, Zn (fun v => Vz b v.1 v.2.1) ((0 : Int), List.replicate (Yc b) (0 : Int), ()) = some r ∧ ∃ L, r = (L, tr (Logical (Yc b) (ins b))) by
    obtain ⟨_, e, L, rfl⟩ := hq
    exact ⟨L, e⟩
  refine Xa (Yc b + 1) (fun k v => v = ((k : Int), ZaD (ins b) (Yc b) k, ()) ∧ ∀ j, j < k → (Zbl (ins b) (ZaD (ins b) (Yc b) j) (Yc b)).2 = true) _ ⟨rfl, fun j hj => by omega⟩ ?_ ?_
  · rintro k _ hk ⟨rfl, hch⟩
    have hL := ZnO (ins b) (Yc b) k
    simp only [Vz, show (k : Int) ≤ ((Zc.YK (Ze.Design b)).length : Int) from by show (k : Int) ≤ (Yc b : Int); omega, if_true]
    rw [Zqt h k (by omega) hL]
    cases q : (Zbl (ins b) (ZaD (ins b) (Yc b) k) (Yc b)).2 with
    | true =>
      refine .inl ⟨_, rfl, rfl, fun j hj => ?_⟩
      by_cases e : j = k
      · subst e; exact q
      · exact hch j (by omega)
    | false =>
      exact .inr ⟨_, rfl, _, congrArg (Prod.mk _) (Yt (p := Logical (Yc b) (ins b)) ⟨_, Zuv q fun u => (hL.2 u).1⟩).symm⟩
  · rintro _ ⟨rfl, hch⟩
    simp only [Vz]
    rw [if_neg (by show ¬ ((Yc b + 1 : Nat) : Int) ≤ (Yc b : Int); omega)]
    refine ⟨_, rfl, [], ?_⟩
    rw [Yl]
    rintro ⟨r, hr⟩
    obtain ⟨r0, _, hc⟩ := Zmo h
    rcases hc with ⟨s, hs, hsn, _⟩ | ⟨hno, _⟩
    · obtain ⟨_, r2, hr2, hb⟩ := hs.rank hsn
      have := ZsH hr2 (Ze0 h 0) fun v hv => (hb v hv).1
      rw [hch (Yc b) (by omega)] at this
      cases this
    · exact hno ⟨r, hr⟩
theorem Zo3 (b : Ze) (hb : sm Yz b) : Zda b = some (tr (Zdv b ∧ Logical (Yc b) (ins b))) := by
  unfold Zda
  rw [Zej b hb, Bq]
  by_cases q : Zdv b
  · obtain ⟨L, e⟩ := Zpt ⟨q, hb⟩
    rw [if_pos (Yt q), e, Bq]
    congr 1
    exact Zdl ⟨fun z => ⟨q, z⟩, fun z => z.2⟩
  · rw [if_neg (fun z => q ((Xn _).1 z)), Yl (fun z => q z.1)]
noncomputable def Zkl (b : Ze) : Int := if tr (Zdv b) = true then (if tr (Logical (Yc b) (ins b)) = true then 0 else 7) else 1
theorem ZnK (b : Ze) (hb : sm Yz b) : Zds b = some (Zkl b) := by
  unfold Zds Zkl
  rw [Zej b hb, Bq, Zo3 b hb, Bq]
  by_cases q : Zdv b
  · rw [if_pos (Yt q), if_pos (Yt q)]
    by_cases q2 : Logical (Yc b) (ins b)
    · rw [if_pos (Yt ⟨q, q2⟩), if_pos (Yt q2)]
    · rw [if_neg (fun z => q2 ((Xn _).1 z).2), if_neg (fun z => q2 ((Xn _).1 z))]
  · rw [if_neg (fun z => q ((Xn _).1 z)), if_neg (fun z => q ((Xn _).1 z))]
theorem ZnL {b : Ze} : Zkl b = 0 ↔ Zdv b ∧ Logical (Yc b) (ins b) := by
  unfold Zkl
  by_cases q : Zdv b
  · rw [if_pos (Yt q)]
    by_cases q2 : Logical (Yc b) (ins b)
    · rw [if_pos (Yt q2)]; exact ⟨fun _ => ⟨q, q2⟩, fun _ => rfl⟩
    · rw [if_neg (fun z => q2 ((Xn _).1 z))]; exact ⟨fun z => absurd z (by omega), fun z => absurd z.2 q2⟩
  · rw [if_neg (fun z => q ((Xn _).1 z))]; exact ⟨fun z => absurd z (by omega), fun z => absurd z.1 q⟩
structure Lgc (b : Ze) (s : List Bool × List Int) : Prop where
  blk : Va b
  ord : Ord (Yc b) (ins b) s
  all : s.2.length = Yc b
theorem Zst (b : Ze) (hb : sm Yz b) (nets : List Int) (hl : nets.length ≤ 1048576) :
    (Zkl b ≠ 0 ∧ VW b nets = some (none, Zkl b)) ∨ ∃ s, Lgc b s ∧ Zkl b = 0 ∧ (Ze7 nets 0 ((Yc b : Int) - 1) ∧ VW b nets = some (some (b, gates b, s.2, ()), 0) ∨ ¬ Ze7 nets 0 ((Yc b : Int) - 1) ∧ VW b nets = some (none, 2)) := by
  unfold VW
  rw [ZlM b hb, Bq]
  by_cases q : Zdv b
  · rw [if_pos (Yt q)]
    have h : Va b := ⟨q, hb⟩
    have hn := Qt h
    obtain ⟨r, e, hc⟩ := Zmo h
    rw [e, Bq]
    rcases hc with ⟨s, hs, hsn, rfl⟩ | ⟨hno, rfl⟩
    · right
      refine ⟨s, ⟨h, hs, hsn⟩, ZnL.2 ⟨q, ?_⟩, ?_⟩
      · obtain ⟨_, r, hr, _⟩ := hs.rank hsn
        exact ⟨r, hr⟩
      · simp only [if_true, Bq]
        rw [show Y3 (YA.gate (b, gates b, s.2, ())) = some ((gates b).length : Int) from rfl, Bq, JI, XG (by omega) (by omega), Zeq _ _ _ hl, Bq]
        by_cases q2 : Ze7 nets 0 ((Yc b : Int) - 1)
        · exact .inl ⟨q2, by rw [if_pos (Yt q2)]⟩
        · exact .inr ⟨q2, by rw [if_neg (fun z => q2 ((Xn _).1 z))]⟩
    · left
      have e2 : Zkl b = 7 := by
        unfold Zkl
        rw [if_pos (Yt q), if_neg (fun z => hno ((Xn _).1 z))]
      rw [e2]
      exact ⟨by omega, rfl⟩
  · left
    have e2 : Zkl b = 1 := by
      unfold Zkl
      rw [if_neg (fun z => q ((Xn _).1 z))]
    rw [if_neg (fun z => q ((Xn _).1 z)), e2]
    exact ⟨by omega, rfl⟩
/-
  Plain laws: sources, assignments, chances.
-/
def srcs (b : Ze) : List Int := cat ZnP 0 ((gates b).map fun g => decide (g < 0))
theorem Zr0 (b : Ze) : (srcs b).Pairwise (· < ·) := (ZnM _ 0).1
theorem Zr1 (b : Ze) : (srcs b).length ≤ Yc b := by
  have := Zlj ((gates b).map fun g => decide (g < 0)) 0
  rw [List.length_map, JI] at this
  exact this
theorem ZoE {b : Ze} (h : Va b) {x : Int} : x ∈ srcs b ↔ ∃ v : Nat, x = (v : Int) ∧ v < Yc b ∧ ins b v = none := by
  unfold srcs
  rw [mem_listed]
  constructor
  · rintro ⟨k, hk, e⟩
    rw [List.getElem?_map] at hk
    have hkn : k < Yc b := by
      by_cases q : k < Yc b
      · exact q
      · rw [List.getElem?_eq_none (by rw [JI]; omega)] at hk; cases hk
    rw [Zeu b hkn] at hk
    simp only [Option.map_some, Option.some.injEq, decide_eq_true_eq] at hk
    refine ⟨k, by rw [e]; congr 1; omega, hkn, ?_⟩
    rcases ZbU h k with q | ⟨i, y, g⟩
    · exact Zb2 q
    · rw [g.gF] at hk; omega
  · rintro ⟨v, e, hv, hi⟩
    refine ⟨v, ?_, by rw [e]; congr 1; omega⟩
    rw [List.getElem?_map, Zeu b hv]
    simp only [Option.map_some, Option.some.injEq, decide_eq_true_eq]
    rcases ZbU h v with q | ⟨i, y, g⟩
    · omega
    · rw [Zan g] at hi; cases hi
theorem ZmG {b : Ze} (h : Va b) {ρ : Type} {step : List Int × Int × Unit → Option ((List Int × Int × Unit) ⊕ ρ)} {good : ρ}
    (hs : ∀ (k : Nat) (out : List Int), k < Yc b → step (out, (k : Int), ()) = if gF b k < 0 then (Zu ((out.length + [(k : Int)].length) * 8 ≤ 140737488355328) (some (.inl (out ++ [(k : Int)], ((k + 1 : Nat) : Int), ())))) else some (.inl (out, ((k + 1 : Nat) : Int), ())))
    (hx : step (srcs b, (Yc b : Int), ()) = some (.inr good)) : Zn step (([] : List Int), (0 : Int), ()) = some good := by
  have hn := Qt h
  refine Jp (l := (gates b).map fun g => decide (g < 0)) ZnP [] (fun k x hk hkl => ?_) ?_
  · rw [List.length_map, JI] at hkl
    rw [List.getElem?_map, Zeu b hkl] at hk
    simp only [Option.map_some, Option.some.injEq] at hk
    subst hk
    have hl := Zlj (((gates b).map fun g => decide (g < 0)).take k) 0
    rw [List.length_take] at hl
    rw [List.nil_append, hs k _ hkl]
    unfold ZnP at *
    by_cases q : gF b k < 0
    · rw [if_pos q, Zh (by simp only [List.length_cons, List.length_nil]; omega), if_pos (decide_eq_true q)]
    · rw [if_neg q, if_neg (by simpa using q), List.append_nil]
  · rw [List.length_map, JI, List.nil_append]
    exact hx
theorem Zg8 {b : Ze} (h : Va b) (ord : List Int) : Vi (b, gates b, ord, ()) = some (srcs b) := by
  have hn := Qt h
  unfold Vi
  have e : YA.gate (b, gates b, ord, ()) = gates b := rfl
  refine ZmG h (fun k out hk => ?_) ?_
  · simp only [VL, e, JI, show (k : Int) < (Yc b : Int) from by omega, if_true, Zo, Zeu b hk, Bq, Xj (show k ≤ 1048576 by omega)]
  · simp only [VL, e, JI, Int.lt_irrefl, if_false]
theorem Zjb {b : Ze} (h : Va b) : J6 b = some (srcs b) := by
  have hn := Qt h
  unfold J6
  refine ZmG h (fun k out hk => ?_) ?_
  · simp only [J7, show (k : Int) < ((Zc.YK (Ze.Design b)).length : Int) from by show (k : Int) < (Yc b : Int); omega, if_true, Zhx h hk, Bq, Xj (show k ≤ 1048576 by omega)]
  · simp only [J7, show ¬ (Yc b : Int) < ((Zc.YK (Ze.Design b)).length : Int) from by show ¬ (Yc b : Int) < (Yc b : Int); omega, if_false]
theorem ZtC (a b : Int) (h1 : 0 ≤ a) : Int.gcd b (a.tmod b) = Int.gcd a b := by
  rw [Int.tmod_eq_emod_of_nonneg h1, Int.gcd_comm, Int.emod_def]
  simp
theorem Zpj {step : Int × Int × Unit → Option ((Int × Int × Unit) ⊕ Int)} (hs : ∀ a b, step (a, b, ()) = if b = 0 then some (.inr a) else Zu (b ≠ 0) (some (.inl (b, Int.tmod a b, ())))) {a b : Int} (h1 : 0 ≤ a) (h2 : 0 ≤ b) : Zn step (a, b, ()) = some (Int.gcd a b : Int) := by
  refine ZmY (fun v => 0 ≤ v.1 ∧ 0 ≤ v.2.1 ∧ Int.gcd v.1 v.2.1 = Int.gcd a b) (fun v => v.2.1.toNat) _ ⟨h1, h2, rfl⟩ ?_
  rintro ⟨x, y, ⟨⟩⟩ ⟨g1, g2, g3⟩
  simp only at g1 g2 g3
  rw [hs]
  split
  · rename_i hs
    subst hs
    right
    rw [← g3, Int.gcd_zero_right]
    congr 2; omega
  · rename_i hs
    rw [Zh hs]
    have b1 := Int.tmod_nonneg y g1
    have b2 := Int.tmod_lt_of_pos x (show 0 < y by omega)
    exact .inl ⟨_, rfl, ⟨g2, b1, by rw [← g3]; exact ZtC x y g1⟩, by dsimp only; omega⟩
theorem Zpm {a b : Int} (h1 : 0 ≤ a) (h2 : 0 ≤ b) : Zop a b = some (Int.gcd a b : Int) := Zpj (fun a b => rfl) h1 h2
theorem ZmK {a b : Int} (h1 : 0 ≤ a) (h2 : 0 ≤ b) : ZiO a b = some (Int.gcd a b : Int) := Zpj (fun a b => rfl) h1 h2
def Zo2 (f : ZH) : Prop := (1 ≤ ZH.Den f ∧ ZH.Den f ≤ 1000000) ∧ (0 ≤ ZH.Num f ∧ ZH.Num f ≤ ZH.Den f) ∧ Int.gcd (ZH.Num f) (ZH.Den f) = 1
theorem Zi8 (f : ZH) : Zb0 f = some (tr (Zo2 f)) := by
  unfold Zb0
  refine Xk (Jo _ _ _) (fun q1 => Xk (Jo _ _ _) (fun q2 => ?_))
  rw [Zpm q2.1 (by omega), Bq]
  exact Zdz (by rw [decide_eq_true_eq]; omega)
theorem ZjJ (f : ZH) : Zci f = some (tr (Zo2 f)) := by
  unfold Zci
  refine Xk (Vx _ _ _) (fun q1 => Xk (Vx _ _ _) (fun q2 => ?_))
  rw [ZmK (by omega) q2.1, Bq, Int.gcd_comm]
  exact Zdz (by rw [decide_eq_true_eq]; omega)
def Zp4 (a : Zg) : Prop := Zo2 (Zg.High a) ∧ ZH.Den (Zg.High a) ≤ 10 ∧ (0 ≤ Zg.Zaw a ∧ Zg.Zaw a ≤ 1000)
theorem Zfz (a : Zg) : YW a = some (!tr (Zp4 a)) := by
  unfold YW
  rw [Zi8, Bq]
  by_cases q : Zo2 (Zg.High a)
  · rw [if_pos (Yt q)]
    by_cases q2 : (10 : Int) < ZH.Den (Zg.High a)
    · rw [if_pos q2, Yl (fun z => by have := z.2.1; omega)]; rfl
    · rw [if_neg q2, Jo, Bq]
      congr 2
      exact Zdl ⟨fun z => ⟨q, by omega, z⟩, fun z => z.2.2⟩
  · rw [if_neg (fun z => q ((Xn _).1 z)), Yl (fun z => q z.1)]; rfl
def Zct (b : Ze) (list : List Zg) : Prop := list.length = (srcs b).length ∧ ∀ a ∈ list, Zp4 a
theorem ZhL {b : Ze} (h : Va b) (ord : List Int) (list : List Zg) (hl : list.length ≤ 1048576) : QE (b, gates b, ord, ()) list = some (tr (Zct b list)) := by
  unfold QE
  rw [Zg8 h, Bq]
  refine Zd5 (XE (Q := ∀ a ∈ list, Zp4 a) (fun q => ?_)) ?_
  · rw [Y1 (by unfold Len; omega) (fun a => !tr (Zp4 a)) (fun a _ => Zfz a), Bq]
    refine Zdz ?_
    rw [Bool.not_eq_true', List.any_eq_false]
    constructor
    · intro hh a ha
      have := hh a ha
      simp only [Bool.not_eq_true', Bool.not_eq_false] at this
      exact (Xn _).1 this
    · intro hh a ha
      simp [Yt (hh a ha)]
  · unfold Zct
    rw [show (list.length : Int) = ((srcs b).length : Int) ↔ list.length = (srcs b).length from by omega]
theorem ZhQ (b : Ze) (hb : sm Yz b) (list : List Zg) (hl : list.length ≤ 1048576) : Zap b list = some (tr (Zkl b = 0 ∧ Zct b list)) := by
  unfold Zap
  rw [ZnK b hb, Bq]
  by_cases q : Zkl b = 0
  · have h : Va b := ⟨(ZnL.1 q).1, hb⟩
    rw [if_pos q, Zjb h, Bq]
    refine Zd5 (XE (Q := ∀ a ∈ list, Zp4 a) (fun q2 => ?_)) ?_
    · rw [Je (l := list) (show Len list by unfold Len; omega) (fun _ a => Zp4 a) (bad := false) (good := true)
        (fun k a ha hk _ => by
          simp only [Jf, show (k : Int) < (list.length : Int) from by omega, if_true, Zo, ha, Bq, ZjJ]
          by_cases q1 : Zo2 (Zg.High a)
          · rw [if_pos (Yt q1)]
            by_cases q2 : (10 : Int) < ZH.Den (Zg.High a)
            · rw [if_pos q2]
              exact ⟨fun z => by have := z.2.1; omega, fun _ => rfl⟩
            · rw [if_neg q2, Vx, Bq]
              constructor
              · intro z; rw [if_pos (Yt z.2.2)]
              · intro z; rw [if_neg (fun w => z ⟨q1, by omega, (Xn _).1 w⟩)]
          · rw [if_neg (fun z => q1 ((Xn _).1 z))]
            exact ⟨fun z => absurd z.1 q1, fun _ => rfl⟩)
        (fun _ => by simp only [Jf, Int.lt_irrefl, if_false]), ZmA]
      exact congrArg some (Zdl ZaW)
    · unfold Zct
      rw [show (list.length : Int) = ((srcs b).length : Int) ↔ list.length = (srcs b).length from by omega]
      exact ⟨fun z => ⟨q, z⟩, fun z => z.2⟩
  · rw [if_neg q, Yl (fun z => q z.1)]
theorem ZlW (x y : Int) : keq (.int .i64) x y = decide (x = y) := by
  by_cases h : x = y
  · subst h; simp [keq]
  · simp [keq, h]
theorem ZrI {v : Ty} (x : Int) (y : v.den) : ∀ m : List (Int × v.den), ZgK (.int .i64) v (ZnR (.int .i64) v m x y) x = some y
  | [] => by simp [ZnR, ZgK, ZlW]
  | d :: m => by
    unfold ZnR
    split
    · simp [ZgK, ZlW]
    · rename_i h
      unfold ZgK
      rw [if_neg h, ZrI x y m]
theorem Zml {v : Ty} {x x' : Int} (hx : x' ≠ x) (y : v.den) : ∀ m : List (Int × v.den), ZgK (.int .i64) v (ZnR (.int .i64) v m x y) x' = ZgK (.int .i64) v m x'
  | [] => by simp [ZnR, ZgK, ZlW, hx]
  | d :: m => by
    unfold ZnR
    split
    · rename_i h
      rw [ZlW, decide_eq_true_eq] at h
      simp only [ZgK, ZlW]
      rw [← h, if_neg (by simpa using hx), if_neg (by simpa using hx)]
    · unfold ZgK
      rw [Zml hx y m]
def Zp2 {v : Ty} (keys : List Int) (vals : List v.den) : Nat → List (Int × v.den)
  | 0 => []
  | k + 1 => match keys[k]?, vals[k]? with
    | some x, some y => ZnR (.int .i64) v (Zp2 keys vals k) x y
    | _, _ => Zp2 keys vals k
theorem Zov {v : Ty} {keys : List Int} {vals : List v.den} (hk : keys.Pairwise (· < ·)) (hl : vals.length = keys.length) : ∀ (k : Nat), k ≤ keys.length → ∀ (j : Nat) (x : Int), keys[j]? = some x → ZgK (.int .i64) v (Zp2 keys vals k) x = if j < k then vals[j]? else none
  | 0, _, j, x, hx => by rw [if_neg (by omega)]; rfl
  | k + 1, hkl, j, x, hx => by
    have hx2 : keys[k]? = some keys[k] := List.getElem?_eq_getElem (by omega)
    have hy2 : vals[k]? = some vals[k] := List.getElem?_eq_getElem (by omega)
    unfold Zp2
    rw [hx2, hy2]
    simp only
    have hj := (List.getElem?_eq_some_iff.1 hx)
    by_cases q : j = k
    · subst q
      rw [hx2] at hx
      injection hx with hx
      rw [← hx, ZrI, if_pos (by omega), hy2]
    · have hne : x ≠ keys[k] := by
        obtain ⟨hj1, hj2⟩ := hj
        rw [← hj2]
        rcases Nat.lt_or_gt_of_ne q with w | w
        · have := List.pairwise_iff_getElem.1 hk j k hj1 (by omega) w; omega
        · have := List.pairwise_iff_getElem.1 hk k j (by omega) hj1 w; omega
      rw [Zml hne, Zov hk hl k (by omega) j x hx]
      by_cases w : j < k
      · rw [if_pos w, if_pos (by omega)]
      · rw [if_neg w, if_neg (by omega)]
theorem ZlX {v : Ty} {keys : List Int} {vals : List v.den} {x : Int} (hx : x ∉ keys) : ∀ k, ZgK (.int .i64) v (Zp2 keys vals k) x = none
  | 0 => rfl
  | k + 1 => by
    unfold Zp2
    split
    · rename_i y z h1 h2
      rw [Zml (fun e => hx (by rw [e]; exact List.mem_of_getElem? h1)), ZlX hx k]
    · exact ZlX hx k
theorem Zwr {keys : List Int} (hk : keys.Pairwise (· < ·)) {j : Nat} {x : Int} (hx : keys[j]? = some x) : XI (fun y => decide (y = x)) keys = (j : Int) :=
  ZgV hx (by simp) fun i y hi hy => by
    obtain ⟨h1, h2⟩ := List.getElem?_eq_some_iff.1 hx
    obtain ⟨h3, h4⟩ := List.getElem?_eq_some_iff.1 hy
    have := List.pairwise_iff_getElem.1 hk i j h3 h1 hi
    simp only [decide_eq_false_iff_not]
    omega
theorem ZtO (l : List Int) (x : Int) (hl : l.length ≤ 1048576) : ZfV l x = some (XI (fun y => decide (y = x)) l) := by
  unfold ZfV
  refine Zam (out := fun i => i) (show Len l by unfold Len; omega) (fun k y hy => ?_) ?_
  · have hk := (List.getElem?_eq_some_iff.1 hy).1
    simp only [ZcR, show (k : Int) < (l.length : Int) from by omega, if_true, Zo, hy, Bq, decide_eq_true_eq]
    split <;> rfl
  · simp only [ZcR, Int.lt_irrefl, if_false]
def ZB3 : Zg := (((0 : Int), (0 : Int), ()), (0 : Int), ())
def JG (b : Ze) (list : List Zg) (x : Int) : Zg := (list[(XI (fun y => decide (y = x)) (srcs b)).toNat]?).getD ZB3
abbrev chm (b : Ze) (list : List Zg) : List (Int × ZH × Int × Unit) := Zp2 (v := Zy) (srcs b) list (srcs b).length
abbrev chn (b : Ze) (s : List Bool × List Int) (list : List Zg) : YI := ((b, gates b, s.2, ()), chm b list, ())
theorem Zla {b : Ze} {list : List Zg} (ha : Zct b list) {x : Int} (hx : x ∈ srcs b) : ∃ j : Nat, (srcs b)[j]? = some x ∧ list[j]? = some (JG b list x) ∧ Zp4 (JG b list x) ∧ XI (fun y => decide (y = x)) (srcs b) = (j : Int) := by
  obtain ⟨j, hj⟩ := List.mem_iff_getElem?.1 hx
  have hl := (List.getElem?_eq_some_iff.1 hj).1
  have e := Zwr (Zr0 b) hj
  have h2 : list[j]? = some (list[j]'(by rw [ha.1]; exact hl)) := List.getElem?_eq_getElem _
  have h3 : JG b list x = list[j]'(by rw [ha.1]; exact hl) := by
    unfold JG
    rw [e, Int.toNat_natCast, h2]
    rfl
  exact ⟨j, hj, by rw [h3]; exact h2, by rw [h3]; exact ha.2 _ (List.getElem_mem _), e⟩
theorem Zlg {b : Ze} (h : Va b) {list : List Zg} (ha : Zct b list) {x : Int} (hx : x ∈ srcs b) : ZcS b list x = some (JG b list x) := by
  have hn := Qt h
  have hs := Zr1 b
  obtain ⟨j, h1, h2, _, h4⟩ := Zla ha hx
  unfold ZcS
  rw [Zjb h, Bq, ZtO _ _ (by omega), Bq, h4, Zo, h2]
  rfl
theorem Zn9 {b : Ze} {list : List Zg} (ha : Zct b list) {x : Int} (hx : x ∈ srcs b) : ZgK (.int .i64) Zy (chm b list) x = some (JG b list x) := by
  obtain ⟨j, h1, h2, _, _⟩ := Zla ha hx
  have hl := (List.getElem?_eq_some_iff.1 h1).1
  rw [Zov (v := Zy) (Zr0 b) ha.1 _ (Nat.le_refl _) j x h1, if_pos hl, h2]
theorem Zpb {b : Ze} {s : List Bool × List Int} (h : Lgc b s) (list : List Zg) (hl : list.length ≤ 1048576) {nets : List Int} (he : VW b nets = some (some (b, gates b, s.2, ()), 0)) :
    ZcZ b list nets = some (if tr (Zct b list) = true then (some (chn b s list), 0) else (none, 5)) := by
  have hn := Qt h.blk
  have hs := Zr1 b
  unfold ZcZ
  rw [he, Bq, if_pos rfl, Bq, ZhL h.blk _ _ hl, Bq]
  by_cases q : Zct b list
  · rw [if_pos (Yt q), if_pos (Yt q), Zg8 h.blk, Bq]
    refine YO (l := srcs b) (fun k => ((k : Int), Zp2 (v := Zy) (srcs b) list k, ())) (fun k x hx hk => ?_) ?_
    · have hy : list[k]? = some (list[k]'(by rw [q.1]; exact hk)) := List.getElem?_eq_getElem _
      simp only [Zay, show (k : Int) < ((srcs b).length : Int) from by omega, if_true, Zo, hx, hy, Bq, Xj (show k ≤ 1048576 by omega)]
      have e : Zp2 (v := Zy) (srcs b) list (k + 1) = ZnR (.int .i64) Zy (Zp2 (v := Zy) (srcs b) list k) x (list[k]'(by rw [q.1]; exact hk)) := by
        conv => lhs; unfold Zp2
        rw [hx, hy]
      rw [e]
      rfl
    · simp only [Zay, Int.lt_irrefl, if_false]
  · rw [if_neg (fun z => q ((Xn _).1 z)), if_neg (fun z => q ((Xn _).1 z))]
theorem sml {l : List Zg} (hl : sm (.sl Zy) l) : l.length ≤ 1048576 := ZN hl
theorem ZuC {n : Nat} {ins : Nat → Option (List Nat)} (hb : InB n ins) {v : Nat} (hv : v < n) (h : ins v = none) : Zdg n ins v = [(v : Int)] :=
  Zqp (Zlp n ins v) (by simp) fun x => by
    rw [ZfJ hb hv]
    constructor
    · rintro ⟨s, e, hs⟩
      rw [(ZoT h).1 hs] at e
      simp [e]
    · intro hx
      exact ⟨v, by simpa using hx, .base h⟩
theorem ZiQ {b : Ze} (h : Va b) {v : Nat} (hv : v < Yc b) {x : Int} (hx : x ∈ Zdg (Yc b) (ins b) v) : x ∈ srcs b := by
  obtain ⟨s, e, hs⟩ := (ZfJ (Ze0 h 0) hv).1 hx
  exact (ZoE h).2 ⟨s, e, Zut (Ze0 h 0) hs hv, ZyR hs⟩
theorem Zq8 {l : List Nat} {F : Nat → List Int} {x : Int} {m : Nat} : x ∈ cat (fun _ u => F u) m l ↔ ∃ u ∈ l, x ∈ F u := by
  rw [ZcI]
  constructor
  · rintro ⟨k, u, hu, hx⟩
    exact ⟨u, List.mem_of_getElem? hu, hx⟩
  · rintro ⟨u, hu, hx⟩
    obtain ⟨k, hk⟩ := List.mem_iff_getElem?.1 hu
    exact ⟨k, u, hk, hx⟩
theorem Zor {b : Ze} (h : Va b) {x : Zd} (hx : x ∈ insts b) {k : Nat} {y : Int} (hy : (inL x)[k]? = some y) : ∃ u : Nat, y = (u : Int) ∧ u < Yc b ∧ ((inL x).map Int.toNat)[k]? = some u := by
  have hyn := Zos h hx (List.mem_of_getElem? hy)
  refine ⟨y.toNat, by omega, by omega, ?_⟩
  rw [List.getElem?_map, hy]
  rfl
theorem Zh2 {b : Ze} (h : Va b) {v i : Nat} {x : Zd} (hv : v < Yc b) (g : Zp5 b v i x) (ord : List Int) : VK (b, gates b, ord, ()) (v : Int) = some (inL x) := by
  obtain ⟨c, hc⟩ := ZjP h (List.mem_of_getElem? g.at_)
  obtain ⟨e1, e2, e3⟩ := Zrt hc.two hc.few
  unfold VK
  rw [show YA.gate (b, gates b, ord, ()) = gates b from rfl, Zo, Zeu b hv, Bq, g.gF, Zo, show Zc.Instances (Ze.Design (YA.Block (b, gates b, ord, ()))) = insts b from rfl, g.at_, Bq, Zh e2, Zh e3, e1]
theorem ZmP {b : Ze} {s : List Bool × List Int} (h : Lgc b s) : ∃ out, QM (b, gates b, s.2, ()) = some out ∧ out.length = Yc b ∧ ∀ v, v < Yc b → out[v]? = some (Zdg (Yc b) (ins b) v) := by
  have hn := Qt h.blk
  have hB := Ze0 h.blk 0
  obtain ⟨hall, r, hr, _⟩ := h.ord.rank h.all
  have hne : ∀ v l, v < Yc b → ins b v = some l → l ≠ [] := fun v l hv hi => by
    rcases ZbU h.blk v with q | ⟨i, x, g⟩
    · rw [Zb2 q] at hi; cases hi
    · rw [Zan g] at hi
      injection hi with hi
      obtain ⟨c, hc⟩ := ZjP h.blk (List.mem_of_getElem? g.at_)
      have h2 := hc.two
      have := Zg9 (x := x)
      rw [← hi]
      intro e
      have := congrArg List.length e
      rw [List.length_map, List.length_nil] at this
      omega
  unfold QM
  rw [show YA.gate (b, gates b, s.2, ()) = gates b from rfl, JI, Zh (by omega), Zh (by omega), Zh (by omega), Zh (by omega), Int.toNat_natCast]
  obtain ⟨out, e, h1, h2⟩ := along h.ord (α := List Int) (fun o k => (k, o, ())) (fun v => Zdg (Yc b) (ins b) v) (step := fun v => Qd (b, gates b, s.2, ()) v.1 v.2.1) (good := fun o => o) (z := List.replicate (Yc b) []) (by simp) (by omega)
    (fun k v out hk hkl hkm hv ho hin => by
      have hord : YA.order (b, gates b, s.2, ()) = s.2 := rfl
      have hgate : YA.gate (b, gates b, s.2, ()) = gates b := rfl
      have hov : out[v]? = some (out[v]'(by omega)) := List.getElem?_eq_getElem _
      simp only [Qd, hord, hgate, show (k : Int) < (s.2.length : Int) from by omega, if_true, Zo, hk, Bq, Zeu b hv, hov, Xj hkm, Int.toNat_natCast]
      rcases ZbU h.blk v with q | ⟨i, x, g⟩
      · rw [q, if_pos (by omega), ZuC hB hv (Zb2 q)]
      · have hx := List.mem_of_getElem? g.at_
        obtain ⟨c, hc⟩ := ZjP h.blk hx
        have h5 := hc.few
        have hil := Zg9 (x := x)
        rw [g.gF, if_neg (by omega), Zh2 h.blk hv g, Bq]
        have hi := Zan g
        have hsl : ∀ k, (cat (fun _ u => Zdg (Yc b) (ins b) u) 0 (((inL x).map Int.toNat).take k)).length ≤ 150 := fun k => by
          refine Nat.le_trans (Zfp (c := 30) (fun _ u _ => by have := Zlq (Yc b) (ins b) u; omega)) ?_
          rw [List.length_take, List.length_map]
          omega
        have := YO (l := inL x) (fun j => (cat (fun _ u => Zdg (Yc b) (ins b) u) 0 (((inL x).map Int.toNat).take j), (j : Int), out, ())) (step := fun w => Qc (k : Int) (v : Int) (inL x) w.1 w.2.1 w.2.2.1)
          (good := .inl (((k + 1 : Nat) : Int), out.set v (Zdg (Yc b) (ins b) v), ()))
          (fun j y hy hj => by
            obtain ⟨u, rfl, hu, hum⟩ := Zor h.blk hx hy
            have hou := hin _ hi u (List.mem_of_getElem? hum)
            simp only [Qc, show (j : Int) < ((inL x).length : Int) from by omega, if_true, Zo, hy, hou, Bq, Xj (show j ≤ 1048576 by omega), Int.toNat_natCast]
            have hl1 := hsl j
            have hl2 := Zlq (Yc b) (ins b) u
            rw [Zh (by omega), Zq9 hum, show out.set u (Zdg (Yc b) (ins b) u) = out from by
              apply List.ext_getElem?
              intro w
              rw [List.getElem?_set]
              split
              · rename_i e; subst e; rw [if_pos (by omega), hou]
              · rfl])
          (by
            have hfl : ((inL x).map Int.toNat).take (inL x).length = (inL x).map Int.toNat := List.take_of_length_le (by rw [List.length_map]; omega)
            have hl1 := hsl (inL x).length
            rw [hfl] at hl1 ⊢
            have hpos : 0 < (cat (fun _ u => Zdg (Yc b) (ins b) u) 0 ((inL x).map Int.toNat)).length := by
              obtain ⟨s0, hs0⟩ := ZyQ hB hr hne hv
              obtain ⟨u, hu, hsu⟩ := (Zlm hi).1 hs0
              exact List.length_pos_of_mem (Zq8.2 ⟨u, hu, (ZfJ hB (hB v _ u hv hi hu)).2 ⟨s0, rfl, hsu⟩⟩)
            simp only [Qc, Int.lt_irrefl, if_false, Xj hkm, Zo, hov, Int.toNat_natCast]
            have e1 : Zxq (cat (fun _ u => Zdg (Yc b) (ins b) u) 0 ((inL x).map Int.toNat)) = some (srt (cat (fun _ u => Zdg (Yc b) (ins b) u) 0 ((inL x).map Int.toNat))) := by
              unfold Zxq; rw [if_pos (by omega)]
            have e2 : Zly (srt (cat (fun _ u => Zdg (Yc b) (ins b) u) 0 ((inL x).map Int.toNat))) = some (Zij (srt (cat (fun _ u => Zdg (Yc b) (ins b) u) 0 ((inL x).map Int.toNat)))) := by
              unfold Zly; rw [if_pos (by rw [Zxr]; exact hpos)]
            rw [e1, Bq, e2, Bq, Bq, ZA0 (Zlp (Yc b) (ins b) v) fun z => ?_]
            rw [Zq8, ZfJ hB hv]
            constructor
            · rintro ⟨u, hu, hz⟩
              obtain ⟨s0, e, hs0⟩ := (ZfJ hB (hB v _ u hv hi hu)).1 hz
              exact ⟨s0, e, .step hi hu hs0⟩
            · rintro ⟨s0, e, hs0⟩
              obtain ⟨u, hu, hsu⟩ := (Zlm hi).1 hs0
              exact ⟨u, hu, (ZfJ hB (hB v _ u hv hi hu)).2 ⟨s0, e, hsu⟩⟩)
        exact this)
    (fun out ho => by
      simp only [Qd, show YA.order (b, gates b, s.2, ()) = s.2 from rfl, Int.lt_irrefl, if_false])
  exact ⟨out, e, h1, fun v hv => h2 v (hall v hv)⟩
/-
  Plain laws: the sources of a net by marks; bounds of densities.
-/
theorem ZtW {b : Ze} {k : Nat} {f : Ze → Int → List Bool → List Bool → Option (List Bool × List Bool)} {l : List Int} (hl : l.length ≤ 1048576) (F : Nat → MS → MS) (J : MS → Prop)
    (hf : ∀ (j : Nat) (y : Int) (s : MS), l[j]? = some y → J s → f b y s.1 s.2 = some (F y.toNat s) ∧ J (F y.toNat s)) (s : MS) (hs : J s) :
    Zn (fun v => Xm b f l v.1 v.2.1 v.2.2.1) ((0 : Int), s.1, s.2, ()) = some ((l.map Int.toNat).foldl (fun s u => F u s) s) ∧ J ((l.map Int.toNat).foldl (fun s u => F u s) s) := by
  obtain ⟨r, e, hr⟩ := Xa (step := fun v => Xm b f l v.1 v.2.1 v.2.2.1) (v := ((0 : Int), s.1, s.2, ())) l.length
    (fun j v => v = ((j : Int), (((l.take j).map Int.toNat).foldl (fun s u => F u s) s).1, (((l.take j).map Int.toNat).foldl (fun s u => F u s) s).2, ()) ∧ J (((l.take j).map Int.toNat).foldl (fun s u => F u s) s))
    (fun r => r = (l.map Int.toNat).foldl (fun s u => F u s) s ∧ J r) ⟨rfl, hs⟩ (by
      rintro j _ hj ⟨rfl, hJ⟩
      left
      have hy : l[j]? = some l[j] := List.getElem?_eq_getElem hj
      generalize l[j] = y at hy
      obtain ⟨h1, h2⟩ := hf j y _ hy hJ
      have e : ((l.take (j + 1)).map Int.toNat).foldl (fun s u => F u s) s = F y.toNat (((l.take j).map Int.toNat).foldl (fun s u => F u s) s) := by
        rw [Yp hy, List.map_append, List.foldl_append]
        rfl
      refine ⟨_, ?_, rfl, by rw [e]; exact h2⟩
      rw [e]
      simp only [Xm, show (j : Int) < (l.length : Int) from by omega, if_true, Zo, hy, Bq, h1, Xj (show j ≤ 1048576 by omega)]) (by
      rintro _ ⟨rfl, hJ⟩
      rw [List.take_length] at hJ ⊢
      simp only [Xm, Int.lt_irrefl, if_false]
      exact ⟨_, rfl, rfl, hJ⟩)
  obtain ⟨rfl, hJ⟩ := hr
  exact ⟨e, hJ⟩
theorem Ztk (ins : Nat → Option (List Nat)) {n : Nat} : ∀ (k v : Nat) (s : MS), s.1.length = n → s.2.length = n → (dfs ins k v s).1.length = n ∧ (dfs ins k v s).2.length = n
  | 0, _, _, h1, h2 => ⟨h1, h2⟩
  | k + 1, v, s, h1, h2 => by
    unfold dfs
    split
    · exact ⟨h1, h2⟩
    · split
      · exact ⟨by simp [h1], by simp [h2]⟩
      · rename_i l _
        have key : ∀ (t : List Nat) (s0 : MS), s0.1.length = n → s0.2.length = n → (t.foldl (fun s u => dfs ins k u s) s0).1.length = n ∧ (t.foldl (fun s u => dfs ins k u s) s0).2.length = n := by
          intro t
          induction t with
          | nil => intro s0 a c; exact ⟨a, c⟩
          | cons u t ih =>
            intro s0 a c
            obtain ⟨a2, c2⟩ := Ztk ins k u s0 a c
            rw [List.foldl_cons]
            exact ih _ a2 c2
        exact key l (s.1, s.2.set v true) h1 (by simp [h2])
theorem Zwt {b : Ze} (h : Va b) {r : Nat → Nat} (hr : Rkd (Yc b) (ins b) r) : ∀ (k v : Nat) (s : MS), v < Yc b → r v < k → s.1.length = Yc b → s.2.length = Yc b → Xc k b (v : Int) s.1 s.2 = some (dfs (ins b) k v s)
  | 0, _, _, _, hk, _, _ => by omega
  | k + 1, v, s, hv, hk, h1, h2 => by
    have hn := Qt h
    show Xh (Xc k) b (v : Int) s.1 s.2 = _
    unfold Xh dfs
    rw [Zo, Zrv (show v < s.2.length by omega), Bq]
    by_cases q : isK s.2 v = true
    · rw [if_pos q, if_pos q]
    · rw [if_neg q, if_neg q, Zhx h hv, Bq]
      rcases ZbU h v with w | ⟨i, x, g⟩
      · rw [w, if_pos (by omega), Zo, Zrv (show v < s.1.length by omega), Bq, Zb2 w]
        simp only [Int.toNat_natCast]
      · have hx := List.mem_of_getElem? g.at_
        obtain ⟨c, hc⟩ := ZjP h hx
        have h5 := hc.few
        have hil := Zg9 (x := x)
        rw [g.gF, if_neg (by omega), Zhd h g.at_, Bq, Zan g, Int.toNat_natCast]
        simp only
        have := ZtW (b := b) (k := k) (f := Xc k) (l := inL x) (by omega) (fun u s => dfs (ins b) k u s) (fun s => s.1.length = Yc b ∧ s.2.length = Yc b)
          (fun j y s hy hs => by
            obtain ⟨u, rfl, hu, hum⟩ := Zor h hx hy
            rw [Int.toNat_natCast]
            have hru := hr v _ u hv (Zan g) (List.mem_of_getElem? hum)
            exact ⟨Zwt h hr k u s hu (by omega) hs.1 hs.2, Ztk (ins b) k u s hs.1 hs.2⟩) (s.1, s.2.set v true) ⟨h1, by simp [h2]⟩
        exact this.1
theorem ZmZ {σ ρ : Type} {f g : σ → Option (σ ⊕ ρ)} (h : ∀ v r, f v = some r → g v = some r) {v : σ} {r : ρ} (hf : Zn f v = some r) : Zn g v = some r := by
  obtain ⟨n, hn⟩ := Zaa.1 hf
  refine Zaa.2 ⟨n, ?_⟩
  clear hf
  induction n generalizing v with
  | zero => simp [iterM] at hn
  | succ n ih =>
    simp only [iterM] at hn ⊢
    split at hn
    · cases hn
    · rename_i v' e
      rw [h _ _ e]
      exact ih hn
    · rename_i r' e
      rw [h _ _ e]
      exact hn
theorem ZtX {b : Ze} {k : Nat} : (∀ v m s r, Xc k b v m s = some r → Xc (k + 1) b v m s = some r) := by
  induction k with
  | zero => intro v m s r h; cases h
  | succ k ih =>
    intro v m s r h
    change Xh (Xc k) b v m s = some r at h
    show Xh (Xc (k + 1)) b v m s = some r
    unfold Xh at h ⊢
    obtain ⟨x0, e0, h⟩ := Option.bind_eq_some_iff.1 h
    rw [e0, Bq]
    split
    · rename_i q; rw [if_pos q] at h; exact h
    · rename_i q
      rw [if_neg q] at h
      obtain ⟨g, e1, h⟩ := Option.bind_eq_some_iff.1 h
      rw [e1, Bq]
      split
      · rename_i q2; rw [if_pos q2] at h; exact h
      · rename_i q2
        rw [if_neg q2] at h
        obtain ⟨l, e2, h⟩ := Option.bind_eq_some_iff.1 h
        rw [e2, Bq]
        refine ZmZ (fun v r hv => ?_) h
        simp only [Xm] at hv ⊢
        split
        · rename_i q3
          rw [if_pos q3] at hv
          obtain ⟨x1, e3, hv⟩ := Option.bind_eq_some_iff.1 hv
          obtain ⟨r0, e4, hv⟩ := Option.bind_eq_some_iff.1 hv
          rw [e3, Bq, ih _ _ _ _ e4, Bq]
          exact hv
        · rename_i q3
          rw [if_neg q3] at hv
          exact hv
theorem Zqy {b : Ze} {v : Int} {m s : List Bool} {r : MS} {k : Nat} (h : Xc k b v m s = some r) : ∀ j, Xc (k + j) b v m s = some r
  | 0 => h
  | j + 1 => ZtX _ _ _ _ (Zqy h j)
theorem Zsn {b : Ze} (h : Va b) {r : Nat → Nat} (hr : Rkd (Yc b) (ins b) r) {k v : Nat} {s : MS} (hv : v < Yc b) (hk : r v < k) (h1 : s.1.length = Yc b) (h2 : s.2.length = Yc b) : ZeT b (v : Int) s.1 s.2 = some (dfs (ins b) k v s) := by
  have e := Zwt h hr k v s hv hk h1 h2
  refine ZqF ⟨k, e⟩ fun j r' h' => ?_
  have a := Zqy e j
  have c := Zqy h' k
  rw [Nat.add_comm] at c
  rw [a] at c
  injection c with c
  exact c.symm
theorem Zpu (l : List Bool) (hl : l.length ≤ 1048576) : Zdd l = some (cat ZnP 0 l) := by
  unfold Zdd
  refine Jp (l := l) ZnP [] (fun k x hx hk => ?_) ?_
  · have h1 := Zlj (l.take k) 0
    rw [List.length_take] at h1
    simp only [List.nil_append, ZaL, show (k : Int) < (l.length : Int) from by omega, if_true, Zo, hx, Bq, Xj (show k ≤ 1048576 by omega)]
    by_cases q : x = true
    · rw [if_pos q, Zh (by simp only [List.length_cons, List.length_nil]; omega)]
      unfold ZnP
      rw [if_pos q]
    · rw [if_neg q]
      unfold ZnP
      rw [if_neg q, List.append_nil]
  · simp only [ZaL, Int.lt_irrefl, if_false, List.nil_append]
theorem ZfC {b : Ze} {s : List Bool × List Int} (h : Lgc b s) {v : Nat} (hv : v < Yc b) : VP b (v : Int) = some (Zdg (Yc b) (ins b) v) := by
  have hn := Qt h.blk
  obtain ⟨_, r, hr, _⟩ := h.ord.rank h.all
  unfold VP
  rw [show (Zc.YK (Ze.Design b)).length = Yc b from rfl, Zh (by omega), Zh (by omega), Zh (by omega), Zh (by omega), Int.toNat_natCast]
  have e := Zsn h.blk hr (k := r v + 1) (s := (List.replicate (Yc b) false, List.replicate (Yc b) false)) hv (by omega) (by simp) (by simp)
  have e2 := Ztl hr (Ze0 h.blk 0) (k := r v + 1) hv (by omega)
  rw [show ZeT b (v : Int) (List.replicate (Yc b) false) (List.replicate (Yc b) false) = some (dfs (ins b) (r v + 1) v (List.replicate (Yc b) false, List.replicate (Yc b) false)) from e, Bq, e2, Zpu _ (by unfold ZvY; simp; omega)]
  rfl
def Zwh (b : Ze) (list : List Zg) (l : List Int) : Int := l.foldl (fun m x => Wq (m + Zg.Zaw (JG b list x))) 0
theorem Zoo {b : Ze} {s : List Bool × List Int} {list : List Zg} (ha : Zct b list) {l : List Int} (hl : l.length ≤ 1048576) (hin : ∀ x ∈ l, x ∈ srcs b) : JC (chn b s list) l = some (Zwh b list l) := by
  unfold JC
  refine YO (l := l) (fun k => (Zwh b list (l.take k), (k : Int), ())) (fun k x hx hk => ?_) ?_
  · have e : ZgK (Ty.int IntKind.i64) Zy (YI.of (chn b s list)) x = some (JG b list x) := Zn9 ha (hin x (List.mem_of_getElem? hx))
    simp only [VJ, show (k : Int) < (l.length : Int) from by omega, if_true, Zo, hx, Bq, e, Xj (show k ≤ 1048576 by omega)]
    rw [Yp hx]
    unfold Zwh
    rw [List.foldl_append]
    rfl
  · simp only [VJ, Int.lt_irrefl, if_false, List.take_length]
theorem ZoS {b : Ze} {s : List Bool × List Int} (h : Lgc b s) {list : List Zg} (ha : Zct b list) {v : Nat} (hv : v < Yc b) : ZdO b list (v : Int) = some (Zwh b list (Zdg (Yc b) (ins b) v)) := by
  have hn := Qt h.blk
  have hl := Zlq (Yc b) (ins b) v
  unfold ZdO
  rw [ZfC h hv, Bq]
  refine YO (l := Zdg (Yc b) (ins b) v) (fun k => (Zwh b list ((Zdg (Yc b) (ins b) v).take k), (k : Int), ())) (fun k x hx hk => ?_) ?_
  · have e := Zlg h.blk ha (ZiQ h.blk hv (List.mem_of_getElem? hx))
    simp only [Zbx, show (k : Int) < ((Zdg (Yc b) (ins b) v).length : Int) from by omega, if_true, Zo, hx, Bq, e, Xj (show k ≤ 1048576 by omega)]
    rw [Yp hx]
    unfold Zwh
    rw [List.foldl_append]
    rfl
  · simp only [Zbx, Int.lt_irrefl, if_false, List.take_length]
/-
  Plain ground: sums over the rows of a function, by pairs (no program in sight).
-/
def sumTo (g : Nat → Int) : Nat → Int
  | 0 => 0
  | k + 1 => sumTo g k + g k
theorem sumTo_congr {g h : Nat → Int} : ∀ {k : Nat}, (∀ i, i < k → g i = h i) → sumTo g k = sumTo h k
  | 0, _ => rfl
  | k + 1, e => by
    show sumTo g k + g k = sumTo h k + h k
    rw [sumTo_congr fun i hi => e i (by omega), e k (by omega)]
theorem ZmN (g : Nat → Int) (a : Nat) : ∀ b, sumTo g (a + b) = sumTo g a + sumTo (fun i => g (a + i)) b
  | 0 => by show sumTo g a = sumTo g a + 0; omega
  | b + 1 => by
    show sumTo g (a + b) + g (a + b) = sumTo g a + (sumTo (fun i => g (a + i)) b + g (a + b))
    rw [ZmN g a b]
    omega
theorem Zn1 (g h : Nat → Int) : ∀ k, sumTo (fun i => g i + h i) k = sumTo g k + sumTo h k
  | 0 => rfl
  | k + 1 => by
    show sumTo (fun i => g i + h i) k + (g k + h k) = (sumTo g k + g k) + (sumTo h k + h k)
    rw [Zn1 g h k]
    omega
theorem ZmO (g : Nat → Int) (c : Int) : ∀ k, sumTo (fun i => g i * c) k = sumTo g k * c
  | 0 => by show (0 : Int) = 0 * c; rw [Int.zero_mul]
  | k + 1 => by
    show sumTo (fun i => g i * c) k + g k * c = (sumTo g k + g k) * c
    rw [ZmO g c k, Int.add_mul]
theorem Zlo {g : Nat → Int} {c : Int} : ∀ {k : Nat}, (∀ i, i < k → 0 ≤ g i ∧ g i ≤ c) → 0 ≤ sumTo g k ∧ sumTo g k ≤ (k : Int) * c
  | 0, _ => by show (0 : Int) ≤ 0 ∧ (0 : Int) ≤ ((0 : Nat) : Int) * c; simp
  | k + 1, h => by
    obtain ⟨h1, h2⟩ := Zlo (g := g) (c := c) (k := k) fun i hi => h i (by omega)
    have h3 := h k (by omega)
    show 0 ≤ sumTo g k + g k ∧ sumTo g k + g k ≤ ((k + 1 : Nat) : Int) * c
    have e : ((k + 1 : Nat) : Int) * c = (k : Int) * c + c := by
      rw [show ((k + 1 : Nat) : Int) = (k : Int) + 1 by omega, Int.add_mul, Int.one_mul]
    rw [e]
    omega
def Qv (i p : Nat) : Nat := i / 2 ^ p % 2
theorem Zsc (i : Nat) : Qv i 0 = i % 2 := by unfold Qv; rw [Nat.pow_zero, Nat.div_one]
theorem Zsb (i p : Nat) : Qv i (p + 1) = Qv (i / 2) p := by
  unfold Qv
  rw [Nat.pow_succ, Nat.mul_comm, Nat.div_div_eq_div_mul]
theorem Zlu {i k : Nat} (h : i < 2 ^ k) : Qv i k = 0 ∧ Qv (2 ^ k + i) k = 1 := by
  have hp : 0 < 2 ^ k := Nat.two_pow_pos k
  unfold Qv
  constructor
  · rw [Nat.div_eq_of_lt h]
  · rw [Nat.add_div_left _ hp, Nat.div_eq_of_lt h]
theorem Zo7 {i q k : Nat} (h : q < k) : Qv (2 ^ k + i) q = Qv i q := by
  have hp : 0 < 2 ^ q := Nat.two_pow_pos q
  have e : 2 ^ k = 2 ^ q * (2 * 2 ^ (k - q - 1)) := by
    rw [show 2 * 2 ^ (k - q - 1) = 2 ^ (k - q) by rw [← Nat.pow_succ']; congr 1; omega, ← Nat.pow_add]
    congr 1
    omega
  unfold Qv
  rw [e, Nat.mul_add_div hp]
  omega
theorem Zsa {i q : Nat} (h : Qv i q = 0) : Qv (i + 2 ^ q) q = 1 := by
  have hp : 0 < 2 ^ q := Nat.two_pow_pos q
  unfold Qv at *
  rw [Nat.add_div_right _ hp]
  omega
theorem Zww {i q k : Nat} (hq : q < k) (hi : i < 2 ^ k) (h : Qv i q = 0) : i + 2 ^ q < 2 ^ k := by
  induction k generalizing i with
  | zero => omega
  | succ k ih =>
    have hs : 2 ^ (k + 1) = 2 ^ k + 2 ^ k := by rw [Nat.pow_succ]; omega
    by_cases e : q = k
    · subst e
      by_cases q2 : i < 2 ^ q
      · omega
      · exfalso
        obtain ⟨j, rfl⟩ : ∃ j, i = 2 ^ q + j := ⟨i - 2 ^ q, by omega⟩
        rw [(Zlu (i := j) (by omega)).2] at h
        omega
    · by_cases q2 : i < 2 ^ k
      · have := ih (by omega) q2 h
        omega
      · obtain ⟨j, rfl⟩ : ∃ j, i = 2 ^ k + j := ⟨i - 2 ^ k, by omega⟩
        rw [Zo7 (by omega)] at h
        have := ih (by omega) (by omega) h
        omega
theorem ZuB (g : Nat → Int) {q k : Nat} (h : q < k) : sumTo g (2 ^ k) = sumTo (fun i => if Qv i q = 0 then g i + g (i + 2 ^ q) else 0) (2 ^ k) := by
  induction k generalizing g with
  | zero => omega
  | succ k ih =>
    have hs : 2 ^ (k + 1) = 2 ^ k + 2 ^ k := by rw [Nat.pow_succ]; omega
    rw [hs, ZmN, ZmN]
    by_cases e : q = k
    · subst e
      have e1 : sumTo (fun i => if Qv i q = 0 then g i + g (i + 2 ^ q) else 0) (2 ^ q) = sumTo g (2 ^ q) + sumTo (fun i => g (2 ^ q + i)) (2 ^ q) := by
        rw [← Zn1]
        refine sumTo_congr fun i hi => ?_
        rw [if_pos (Zlu hi).1, Nat.add_comm i]
      have e2 : sumTo (fun i => if Qv (2 ^ q + i) q = 0 then g (2 ^ q + i) + g (2 ^ q + i + 2 ^ q) else 0) (2 ^ q) = 0 := by
        have : sumTo (fun i => if Qv (2 ^ q + i) q = 0 then g (2 ^ q + i) + g (2 ^ q + i + 2 ^ q) else 0) (2 ^ q) = sumTo (fun _ => 0 * 0) (2 ^ q) := by
          refine sumTo_congr fun i hi => ?_
          rw [if_neg (by rw [(Zlu hi).2]; omega)]
          rfl
        rw [this, ZmO, Int.mul_zero]
      rw [e1, e2]
      omega
    · have hq : q < k := by omega
      have e1 := ih g hq
      have e2 := ih (fun i => g (2 ^ k + i)) hq
      rw [e1, e2]
      congr 1
      refine sumTo_congr fun i hi => ?_
      rw [Zo7 hq]
      split
      · show g (2 ^ k + i) + g (2 ^ k + (i + 2 ^ q)) = g (2 ^ k + i) + g (2 ^ k + i + 2 ^ q)
        rw [Nat.add_assoc]
      · rfl
def fac (x : Int × Int) (i : Nat) : Int := if i % 2 = 1 then x.1 else x.2 - x.1
def wOf : List (Int × Int) → Nat → Int
  | [], _ => 1
  | x :: t, i => fac x i * wOf t (i / 2)
def wWo : List (Int × Int) → Nat → Nat → Int
  | [], _, _ => 1
  | _ :: t, i, 0 => wOf t (i / 2)
  | x :: t, i, q + 1 => fac x i * wWo t (i / 2) q
def Z7 : List (Int × Int) → Int
  | [] => 1
  | x :: t => x.2 * Z7 t
theorem ZwC : ∀ {fs : List (Int × Int)} {q i : Nat} {x : Int × Int}, fs[q]? = some x → Qv i q = 0 → wOf fs i + wOf fs (i + 2 ^ q) = wWo fs i q * x.2
  | [], q, i, x, h, _ => by cases q <;> cases h
  | y :: t, 0, i, x, h, hb => by
    have e : y = x := by simpa using h
    subst e
    rw [Zsc] at hb
    show fac y i * wOf t (i / 2) + fac y (i + 2 ^ 0) * wOf t ((i + 2 ^ 0) / 2) = wOf t (i / 2) * y.2
    rw [show (i + 2 ^ 0) / 2 = i / 2 by rw [Nat.pow_zero]; omega]
    unfold fac
    rw [if_neg (by omega), if_pos (by rw [Nat.pow_zero]; omega), ← Int.add_mul, Int.mul_comm]
    congr 1
    omega
  | y :: t, q + 1, i, x, h, hb => by
    rw [Zsb] at hb
    have ih := ZwC (fs := t) (q := q) (i := i / 2) (x := x) (by simpa using h) hb
    have e1 : (i + 2 ^ (q + 1)) / 2 = i / 2 + 2 ^ q := by rw [Nat.pow_succ]; omega
    have e2 : fac y (i + 2 ^ (q + 1)) = fac y i := by
      unfold fac
      rw [show (i + 2 ^ (q + 1)) % 2 = i % 2 by rw [Nat.pow_succ]; omega]
    show fac y i * wOf t (i / 2) + fac y (i + 2 ^ (q + 1)) * wOf t ((i + 2 ^ (q + 1)) / 2) = fac y i * wWo t (i / 2) q * x.2
    rw [e1, e2, ← Int.mul_add, ih, Int.mul_assoc]
theorem Zxl {fs : List (Int × Int)} {q : Nat} {x : Int × Int} (hx : fs[q]? = some x) (f : Nat → Int) (ch : Nat → Prop) [DecidablePred ch]
    (h0 : ∀ i, i < 2 ^ fs.length → Qv i q = 0 → (ch i ↔ f i ≠ f (i + 2 ^ q)) ∧ (ch (i + 2 ^ q) ↔ f i ≠ f (i + 2 ^ q))) :
    sumTo (fun i => if ch i then wOf fs i else 0) (2 ^ fs.length) = sumTo (fun i => if Qv i q = 0 ∧ f i ≠ f (i + 2 ^ q) then wWo fs i q else 0) (2 ^ fs.length) * x.2 := by
  have hq : q < fs.length := (List.getElem?_eq_some_iff.1 hx).1
  rw [ZuB _ hq, ← ZmO]
  refine sumTo_congr fun i hi => ?_
  by_cases hb : Qv i q = 0
  · obtain ⟨c1, c2⟩ := h0 i hi hb
    rw [if_pos hb]
    by_cases hc : f i ≠ f (i + 2 ^ q)
    · rw [if_pos (c1.2 hc), if_pos (c2.2 hc), if_pos ⟨hb, hc⟩]
      exact ZwC hx hb
    · rw [if_neg (fun q => hc (c1.1 q)), if_neg (fun q => hc (c2.1 q)), if_neg (fun q => hc q.2), Int.zero_mul]
      rfl
  · rw [if_neg hb, if_neg (fun q => hb q.1), Int.zero_mul]
def Zx6 (fs : List (Int × Int)) : Prop := ∀ x ∈ fs, 0 ≤ x.1 ∧ x.1 ≤ x.2 ∧ 1 ≤ x.2 ∧ x.2 ≤ 10
theorem Zrj {x : Int × Int} (h : 0 ≤ x.1 ∧ x.1 ≤ x.2 ∧ 1 ≤ x.2 ∧ x.2 ≤ 10) (i : Nat) : 0 ≤ fac x i ∧ fac x i ≤ 10 := by unfold fac; split <;> omega
theorem ZrJ {a b c : Int} (ha : 0 ≤ a ∧ a ≤ 10) (hb : 0 ≤ b ∧ b ≤ c) : 0 ≤ a * b ∧ a * b ≤ 10 * c := ⟨Int.mul_nonneg ha.1 hb.1, Int.mul_le_mul ha.2 hb.2 hb.1 (by omega)⟩
theorem ZuN : ∀ {fs : List (Int × Int)} (h : Zx6 fs) (i : Nat), 0 ≤ wOf fs i ∧ wOf fs i ≤ 10 ^ fs.length
  | [], _, _ => by show (0 : Int) ≤ 1 ∧ (1 : Int) ≤ 10 ^ 0; decide
  | x :: t, h, i => by
    have := ZrJ (Zrj (h x List.mem_cons_self) i) (ZuN (fs := t) (fun y hy => h y (List.mem_cons_of_mem _ hy)) (i / 2))
    rw [List.length_cons, Int.pow_succ, Int.mul_comm (10 ^ t.length)]
    exact this
theorem ZwA : ∀ {fs : List (Int × Int)} (h : Zx6 fs) (i q : Nat), 0 ≤ wWo fs i q ∧ wWo fs i q ≤ 10 ^ fs.length
  | [], _, _, _ => by show (0 : Int) ≤ 1 ∧ (1 : Int) ≤ 10 ^ 0; decide
  | x :: t, h, i, 0 => by
    have := ZuN (fs := t) (fun y hy => h y (List.mem_cons_of_mem _ hy)) (i / 2)
    rw [List.length_cons, Int.pow_succ]
    show 0 ≤ wOf t (i / 2) ∧ wOf t (i / 2) ≤ _
    omega
  | x :: t, h, i, q + 1 => by
    have := ZrJ (Zrj (h x List.mem_cons_self) i) (ZwA (fs := t) (fun y hy => h y (List.mem_cons_of_mem _ hy)) (i / 2) q)
    rw [List.length_cons, Int.pow_succ, Int.mul_comm (10 ^ t.length)]
    exact this
theorem Zth : ∀ {fs : List (Int × Int)} (h : Zx6 fs), 1 ≤ Z7 fs ∧ Z7 fs ≤ 10 ^ fs.length
  | [], _ => by show (1 : Int) ≤ 1 ∧ (1 : Int) ≤ 10 ^ 0; decide
  | x :: t, h => by
    have hx := h x List.mem_cons_self
    have ht := Zth (fs := t) fun y hy => h y (List.mem_cons_of_mem _ hy)
    have := ZrJ (a := x.2) (by omega) (b := Z7 t) (c := 10 ^ t.length) (by omega)
    rw [List.length_cons, Int.pow_succ, Int.mul_comm (10 ^ t.length)]
    refine ⟨?_, this.2⟩
    show 1 ≤ x.2 * Z7 t
    have := Int.mul_le_mul (a := 1) (b := 1) (c := x.2) (d := Z7 t) (by omega) (by omega) (by omega) (by omega)
    omega
/-
  Plain ground: bits of rows (no program in sight).
-/
theorem Zq5 {x : Nat} (hx : x < 4611686018427387904) : (BitVec.ofInt 64 (x : Int)).toNat = x := by
  rw [BitVec.toNat_ofInt]
  omega
theorem Zo8 {x y : Nat} (hx : x < 4611686018427387904) (hy : y < 4611686018427387904) : Go.bits .and .i64 (x : Int) (y : Int) = ((x &&& y : Nat) : Int) := by
  show Wq (((BitVec.ofInt 64 (x : Int) &&& BitVec.ofInt 64 (y : Int)).toNat : Nat) : Int) = _
  have := Nat.and_le_left (n := x) (m := y)
  rw [BitVec.toNat_and, Zq5 hx, Zq5 hy, XG (by omega) (by omega)]
theorem Zlv {x y : Nat} (hx : x < 4611686018427387904) (hy : y < 4611686018427387904) : Go.bits .or .i64 (x : Int) (y : Int) = ((x ||| y : Nat) : Int) := by
  show Wq (((BitVec.ofInt 64 (x : Int) ||| BitVec.ofInt 64 (y : Int)).toNat : Nat) : Int) = _
  have : x ||| y < 2 ^ 62 := Nat.or_lt_two_pow (by omega) (by omega)
  rw [BitVec.toNat_or, Zq5 hx, Zq5 hy, XG (by omega) (by omega)]
theorem Zxo (x p : Nat) (hp : p ≤ 64) : Int.fdiv (x : Int) (2 ^ (min p 64)) = ((x / 2 ^ p : Nat) : Int) := by
  rw [Nat.min_eq_left hp, Int.fdiv_eq_ediv_of_nonneg _ (Int.pow_nonneg (by decide)), Int.natCast_ediv, Int.natCast_pow]
  rfl
theorem Zym {x p : Nat} (hx : x < 4611686018427387904) (hp : p ≤ 64) : Go.bits .and .i64 (Int.fdiv (x : Int) (2 ^ (min p 64))) 1 = ((Qv x p : Nat) : Int) := by
  have h1 : x / 2 ^ p ≤ x := Nat.div_le_self _ _
  rw [Zxo x p hp, show (1 : Int) = ((1 : Nat) : Int) from rfl, Zo8 (by omega) (by decide), Nat.and_one_is_mod]
  rfl
theorem Zwv {a b p : Nat} (h : a < 2 ^ p) : a ||| 2 ^ p * b = a + 2 ^ p * b := by
  rw [Nat.or_comm, ← Nat.two_pow_add_eq_or_of_lt h, Nat.add_comm]
theorem Zxn {x p : Nat} (h : Qv x p = 0) : x ||| 2 ^ p = x + 2 ^ p := by
  have hp : 0 < 2 ^ p := Nat.two_pow_pos p
  have hs : 2 ^ (p + 1) = 2 * 2 ^ p := by rw [Nat.pow_succ]; omega
  have e1 : x = 2 ^ p * (x / 2 ^ p) + x % 2 ^ p := (Nat.div_add_mod x (2 ^ p)).symm
  have hm : x % 2 ^ p < 2 ^ p := Nat.mod_lt _ hp
  unfold Qv at h
  obtain ⟨c, hc⟩ : ∃ c, x / 2 ^ p = 2 * c := ⟨x / 2 ^ p / 2, by omega⟩
  have e2 : x = 2 ^ (p + 1) * c + x % 2 ^ p := by
    rw [hc] at e1
    rw [hs]
    have : 2 ^ p * (2 * c) = 2 * 2 ^ p * c := by rw [← Nat.mul_assoc, Nat.mul_comm (2 ^ p) 2]
    omega
  have e3 : x % 2 ^ p ||| 2 ^ p = x % 2 ^ p + 2 ^ p := by
    have := Zwv (b := 1) hm
    rwa [Nat.mul_one] at this
  have e4 : 2 ^ (p + 1) * c ||| (x % 2 ^ p + 2 ^ p) = 2 ^ (p + 1) * c + (x % 2 ^ p + 2 ^ p) := (Nat.two_pow_add_eq_or_of_lt (by omega) c).symm
  have e5 : 2 ^ (p + 1) * c ||| x % 2 ^ p = 2 ^ (p + 1) * c + x % 2 ^ p := (Nat.two_pow_add_eq_or_of_lt (by omega) c).symm
  rw [e2, ← e5, Nat.or_assoc]
  have e6 : (2 ^ (p + 1) * c ||| x % 2 ^ p) % 2 ^ p = x % 2 ^ p := by rw [e5, ← e2]
  rw [e3, e4, e5]
  omega
def idxOf : List Nat → Nat
  | [] => 0
  | x :: t => x + 2 * idxOf t
theorem Zrs : ∀ {l : List Nat}, (∀ x ∈ l, x < 2) → idxOf l < 2 ^ l.length
  | [], _ => by decide
  | x :: t, h => by
    have h1 := Zrs fun y hy => h y (List.mem_cons_of_mem _ hy)
    have h2 := h x List.mem_cons_self
    rw [List.length_cons, Nat.pow_succ]
    show x + 2 * idxOf t < _
    omega
theorem Zon : ∀ (l : List Nat) (x : Nat), idxOf (l ++ [x]) = idxOf l + 2 ^ l.length * x
  | [], x => by show x + 2 * 0 = 0 + 2 ^ 0 * x; omega
  | y :: t, x => by
    show y + 2 * idxOf (t ++ [x]) = y + 2 * idxOf t + 2 ^ (t.length + 1) * x
    have : 2 ^ (t.length + 1) * x = 2 * (2 ^ t.length * x) := by rw [Nat.pow_succ, Nat.mul_comm (2 ^ t.length) 2, Nat.mul_assoc]
    rw [Zon t x, this]
    omega
/-
  Plain laws: values of nets, functions.
-/
def ZqV (b : Ze) (v : Nat) : List Int := match (insts b)[(gF b v).toNat]? with
  | some x => match (Zt.Cells (Ze.Library b))[(Zd.Cell x).toNat]? with
    | some c => Zm.Truth c
    | none => []
  | none => []
def tt (b : Ze) (v : Nat) (l : List Int) : Int := ((ZqV b v)[idxOf (l.map Int.toNat)]?).getD 0
def Bit (n : Int) : Prop := n = 0 ∨ n = 1
theorem Bit.nat {n : Int} (h : Bit n) : n.toNat < 2 ∧ n = (n.toNat : Int) := by
  rcases h with rfl | rfl
  · exact ⟨by decide, rfl⟩
  · exact ⟨by decide, rfl⟩
theorem Zv4 {b : Ze} (h : Va b) {v i : Nat} {x : Zd} (g : Zp5 b v i x) {c : Zm} (hc : ZuX b x c) : ZqV b v = Zm.Truth c ∧ (Zm.Truth c).length = 2 ^ (inL x).length ∧ ∀ y ∈ Zm.Truth c, Bit y := by
  have hcell : (Zt.Cells (Ze.Library b))[(Zd.Cell x).toNat]? = some c := by
    have := hc.at_
    unfold atI at this
    split at this
    · exact this
    · cases this
  have hk := hc.ok.2.2.2.2.2
  unfold ZdY at hk
  have hk1 : Zm.Kind c = 1 := by rw [← hc.kind]; exact g.kind
  rcases hk with ⟨_, _, h1, h2⟩ | ⟨q, _⟩ | ⟨q, _⟩
  · refine ⟨?_, ?_, fun y hy => ?_⟩
    · unfold ZqV
      rw [g.gF, Int.toNat_natCast, g.at_]
      simp only
      rw [hcell]
    · rw [h1, Zg9, hc.len]
    · have := h2 y hy
      unfold Bit
      omega
  · rw [hk1] at q; exact absurd q (by omega)
  · rw [hk1] at q; exact absurd q (by omega)
theorem Zx2 {b : Ze} (h : Va b) {v i : Nat} {x : Zd} (g : Zp5 b v i x) {c : Zm} (hc : ZuX b x c) {l : List Int} (hl : l.length = (inL x).length) (hb : ∀ y ∈ l, Bit y) :
    (Zm.Truth c)[idxOf (l.map Int.toNat)]? = some (tt b v l) ∧ Bit (tt b v l) := by
  obtain ⟨h1, h2, h3⟩ := Zv4 h g hc
  have hlt := Zrs (l := l.map Int.toNat) (fun n hn => by
    obtain ⟨y, hy, rfl⟩ := List.mem_map.1 hn
    exact (hb y hy).nat.1)
  rw [List.length_map, hl] at hlt
  have e : (Zm.Truth c)[idxOf (l.map Int.toNat)]? = some ((Zm.Truth c)[idxOf (l.map Int.toNat)]'(by rw [h2]; exact hlt)) := List.getElem?_eq_getElem _
  have e2 : tt b v l = (Zm.Truth c)[idxOf (l.map Int.toNat)]'(by rw [h2]; exact hlt) := by
    unfold tt
    rw [h1, e]
    rfl
  exact ⟨by rw [e2]; exact e, by rw [e2]; exact h3 _ (List.getElem_mem _)⟩
structure Tak (b : Ze) (a W : Nat → Int) : Prop where
  vals : ZBS (Yc b) (ins b) (tt b) a W
  bit : ∀ v, v < Yc b → Bit (W v)
theorem Tak.src {b : Ze} {a W : Nat → Int} (h : Tak b a W) {v : Nat} (hv : v < Yc b) (hi : ins b v = none) : W v = a v := by
  have := h.vals v hv
  rw [hi] at this
  exact this
theorem Tak.gate {b : Ze} {a W : Nat → Int} (h : Tak b a W) {v : Nat} (hv : v < Yc b) {l : List Nat} (hi : ins b v = some l) : W v = tt b v (l.map W) := by
  have := h.vals v hv
  rw [hi] at this
  exact this
theorem ZyW {b : Ze} {s : List Bool × List Int} (h : Lgc b s) (a : Nat → Int) (ha : ∀ v, Bit (a v)) : ∃ W, Tak b a W := by
  obtain ⟨_, r, hr, hrs⟩ := h.ord.rank h.all
  have hB := Ze0 h.blk 0
  obtain ⟨W, hW⟩ := Zx4 hr hB (fun v hv => (hrs v hv).1) (tt b) a
  refine ⟨W, hW, ?_⟩
  have key : ∀ m v, r v = m → v < Yc b → Bit (W v) := by
    intro m
    induction m using Nat.strongRecOn with
    | _ m ih =>
      intro v hm hv
      have hWv := hW v hv
      rcases ZbU h.blk v with q | ⟨i, x, g⟩
      · rw [Zb2 q] at hWv
        simp only at hWv
        rw [hWv]
        exact ha v
      · rw [Zan g] at hWv
        simp only at hWv
        rw [hWv]
        obtain ⟨c, hc⟩ := ZjP h.blk (List.mem_of_getElem? g.at_)
        refine (Zx2 h.blk g hc (by rw [List.length_map, List.length_map]) fun y hy => ?_).2
        obtain ⟨u, hu, rfl⟩ := List.mem_map.1 hy
        exact ih (r u) (by rw [← hm]; exact hr v _ u hv (Zan g) hu) u rfl (hB v _ u hv (Zan g) hu)
  exact fun v hv => key (r v) v rfl hv
theorem Zxd {acc : List Nat} {y : Int} (hacc : ∀ x ∈ acc, x < 2) (hl : acc.length ≤ 8) (hy : Bit y) :
    Go.bits Go.BinOp.or IntKind.i64 ((idxOf acc : Nat) : Int) (Wq (y * (2 : Int) ^ min acc.length (IntKind.bits IntKind.i64))) = ((idxOf (acc ++ [y.toNat]) : Nat) : Int) := by
  have hb : min acc.length (IntKind.bits IntKind.i64) = acc.length := Nat.min_eq_left (by show acc.length ≤ 64; omega)
  have h1 := Zrs hacc
  have hp : 2 ^ acc.length ≤ 256 := Nat.le_trans (Nat.pow_le_pow_right (by omega) hl) (by decide)
  obtain ⟨h2, h3⟩ := hy.nat
  have e : y * (2 : Int) ^ acc.length = ((2 ^ acc.length * y.toNat : Nat) : Int) := by
    rw [h3, Int.toNat_natCast, Int.natCast_mul, Int.mul_comm]
    simp
  have hle : 2 ^ acc.length * y.toNat ≤ 256 * 1 := Nat.mul_le_mul hp (by omega)
  rw [hb, e, XG (by omega) (by omega), Zlv (by omega) (by omega), Zwv h1, Zon]
theorem Zm8 {b : Ze} {s : List Bool × List Int} (h : Lgc b s) {m : List (Int × Int)} {a W : Nat → Int} (hW : Tak b a W) (hm : ∀ v, v < Yc b → ins b v = none → Option.getD (ZgK (.int .i64) (.int .i64) m (v : Int)) (0 : Int) = a v) :
    ∃ out, Zal (b, gates b, s.2, ()) m = some out ∧ out.length = Yc b ∧ ∀ v, v < Yc b → out[v]? = some (W v) := by
  have hn := Qt h.blk
  have hB := Ze0 h.blk 0
  obtain ⟨hall, _⟩ := h.ord.rank h.all
  unfold Zal
  rw [show YA.gate (b, gates b, s.2, ()) = gates b from rfl, JI, Zh (by omega), Zh (by omega), Zh (by omega), Zh (by omega), Int.toNat_natCast]
  obtain ⟨out, e, h1, h2⟩ := along h.ord (α := Int) (fun o k => (k, o, ())) W (step := fun v => QG (b, gates b, s.2, ()) m v.1 v.2.1) (good := fun o => o) (z := List.replicate (Yc b) 0) (by simp) (by omega)
    (fun k v out hk hkl hkm hv ho hin => by
      have hord : YA.order (b, gates b, s.2, ()) = s.2 := rfl
      have hgate : YA.gate (b, gates b, s.2, ()) = gates b := rfl
      have hov : out[v]? = some (out[v]'(by omega)) := List.getElem?_eq_getElem _
      simp only [QG, hord, hgate, show (k : Int) < (s.2.length : Int) from by omega, if_true, Zo, hk, Bq, Zeu b hv, hov, Xj hkm, Int.toNat_natCast]
      rcases ZbU h.blk v with q | ⟨i, x, g⟩
      · rw [q, if_pos (by omega), hm v hv (Zb2 q), hW.src hv (Zb2 q)]
      · have hx := List.mem_of_getElem? g.at_
        obtain ⟨c, hc⟩ := ZjP h.blk hx
        have h5 := hc.few
        have hil := Zg9 (x := x)
        have hi := Zan g
        rw [g.gF, if_neg (by omega), Zh2 h.blk hv g, Bq]
        have hbits : ∀ y ∈ ((inL x).map Int.toNat).map W, Bit y := fun y hy => by
          obtain ⟨u, hu, rfl⟩ := List.mem_map.1 hy
          exact hW.bit u (hB v _ u hv hi hu)
        have := YO (l := inL x) (fun j => (((idxOf ((((inL x).map Int.toNat).map W).map Int.toNat |>.take j) : Nat) : Int), (j : Int), ())) (step := fun w => QF (b, gates b, s.2, ()) (k : Int) out (v : Int) (i : Int) (inL x) w.1 w.2.1)
          (good := .inl (((k + 1 : Nat) : Int), out.set v (W v), ()))
          (fun j y hy hj => by
            obtain ⟨u, rfl, hu, hum⟩ := Zor h.blk hx hy
            have hou := hin _ hi u (List.mem_of_getElem? hum)
            have hw : ((((inL x).map Int.toNat).map W).map Int.toNat)[j]? = some (W u).toNat := by rw [List.getElem?_map, List.getElem?_map, hum]; rfl
            simp only [QF, show (j : Int) < ((inL x).length : Int) from by omega, if_true, Zo, hy, hou, Bq, Xj (show j ≤ 1048576 by omega), Int.toNat_natCast]
            have hlen : (((((inL x).map Int.toNat).map W).map Int.toNat).take j).length = j := by rw [List.length_take, List.length_map, List.length_map, List.length_map]; omega
            have := Zxd (acc := ((((inL x).map Int.toNat).map W).map Int.toNat).take j) (fun z hz => by
              obtain ⟨y, hy, rfl⟩ := List.mem_map.1 (List.mem_of_mem_take hz)
              exact (hbits y hy).nat.1) (by omega) (hW.bit u hu)
            rw [hlen] at this
            rw [Zh (by omega), this, Yp hw])
          (by
            have hfl : ((((inL x).map Int.toNat).map W).map Int.toNat).take (inL x).length = ((((inL x).map Int.toNat).map W).map Int.toNat) := List.take_of_length_le (by rw [List.length_map, List.length_map, List.length_map]; omega)
            obtain ⟨t1, _⟩ := Zx2 h.blk g hc (l := ((inL x).map Int.toNat).map W) (by rw [List.length_map, List.length_map]) hbits
            rw [hfl]
            simp only [QF, Int.lt_irrefl, if_false, show YA.Block (b, gates b, s.2, ()) = b from rfl, Zpa g.at_ hc, Bq, Zo, t1, hov, Xj hkm, Int.toNat_natCast, hW.gate hv hi])
        exact this)
    (fun out ho => by
      simp only [QG, show YA.order (b, gates b, s.2, ()) = s.2 from rfl, Int.lt_irrefl, if_false])
  exact ⟨out, e, h1, fun v hv => h2 v (hall v hv)⟩
theorem Zry {kn : List Int} {v : Nat} (hv : v < kn.length) : kn[v]? = some (knA kn v) := by
  unfold knA
  rw [List.getElem?_eq_getElem hv]
  rfl
theorem Zwn {b : Ze} (h : Va b) {r : Nat → Nat} (hr : Rkd (Yc b) (ins b) r) {a W : Nat → Int} (hW : Tak b a W) : ∀ (k v : Nat) (kn : List Int), v < Yc b → r v < k → Zyi (Yc b) W kn → (∀ s, Src (ins b) v s → 0 ≤ knA kn s) →
    ∃ kn', Xb k b (v : Int) kn = some (W v, kn') ∧ Zyi (Yc b) W kn' ∧ ∀ u, 0 ≤ knA kn u → 0 ≤ knA kn' u
  | 0, _, _, _, hk, _, _ => by omega
  | k + 1, v, kn, hv, hk, hkn, hs => by
    have hn := Qt h
    have hB := Ze0 h 0
    show ∃ kn', Xg (Xb k) b (v : Int) kn = some (W v, kn') ∧ _
    unfold Xg
    rw [Zo, Zry (show v < kn.length by rw [hkn.len]; exact hv), Bq]
    by_cases q : 0 ≤ knA kn v
    · rw [if_pos q, hkn.val v hv q]
      exact ⟨kn, rfl, hkn, fun u hu => hu⟩
    · rw [if_neg q, Zhx h hv, Bq]
      rcases ZbU h v with w | ⟨i, x, g⟩
      · exact absurd (hs v (.base (Zb2 w))) q
      · have hx := List.mem_of_getElem? g.at_
        obtain ⟨c, hc⟩ := ZjP h hx
        have h5 := hc.few
        have hil := Zg9 (x := x)
        have hi := Zan g
        rw [g.gF, Zhd h g.at_, Bq]
        have hbits : ∀ y ∈ ((inL x).map Int.toNat).map W, Bit y := fun y hy => by
          obtain ⟨u, hu, rfl⟩ := List.mem_map.1 hy
          exact hW.bit u (hB v _ u hv hi hu)
        obtain ⟨r0, e, kn', rfl, hk1, hk2⟩ := Xa (step := fun w => XP b (v : Int) (Xb k) (i : Int) (inL x) w.1 w.2.1 w.2.2.1 w.2.2.2.1) (v := ((0 : Int), (1 : Int), (0 : Int), kn, ())) (inL x).length
          (fun j w => ∃ kn', w = (((idxOf (((((inL x).map Int.toNat).map W).map Int.toNat).take j) : Nat) : Int), ((2 ^ j : Nat) : Int), (j : Int), kn', ()) ∧ Zyi (Yc b) W kn' ∧ ∀ u, 0 ≤ knA kn u → 0 ≤ knA kn' u)
          (fun r => ∃ kn', r = (W v, kn') ∧ Zyi (Yc b) W kn' ∧ ∀ u, 0 ≤ knA kn u → 0 ≤ knA kn' u) ⟨kn, rfl, hkn, fun u hu => hu⟩ (by
            rintro j _ hj ⟨kn1, rfl, hk1, hk2⟩
            left
            have hy : (inL x)[j]? = some (inL x)[j] := List.getElem?_eq_getElem hj
            generalize (inL x)[j] = y at hy
            obtain ⟨u, rfl, hu, hum⟩ := Zor h hx hy
            have hru := hr v _ u hv hi (List.mem_of_getElem? hum)
            obtain ⟨kn2, e2, hk3, hk4⟩ := Zwn h hr hW k u kn1 hu (by omega) hk1 (fun s hsu => hk2 s (hs s (.step hi (List.mem_of_getElem? hum) hsu)))
            have hw : ((((inL x).map Int.toNat).map W).map Int.toNat)[j]? = some (W u).toNat := by rw [List.getElem?_map, List.getElem?_map, hum]; rfl
            have hlen : (((((inL x).map Int.toNat).map W).map Int.toNat).take j).length = j := by rw [List.length_take, List.length_map, List.length_map, List.length_map]; omega
            have hlt := Zrs (l := ((((inL x).map Int.toNat).map W).map Int.toNat).take j) (fun z hz => by
              obtain ⟨y, hy, rfl⟩ := List.mem_map.1 (List.mem_of_mem_take hz)
              exact (hbits y hy).nat.1)
            rw [hlen] at hlt
            have hp : 2 ^ j ≤ 16 := ZpG (by omega)
            obtain ⟨b1, b2⟩ := (hW.bit u hu).nat
            have hle : 2 ^ j * (W u).toNat ≤ 16 * 1 := Nat.mul_le_mul hp (by omega)
            have e3 : ((2 ^ j : Nat) : Int) * W u = ((2 ^ j * (W u).toNat : Nat) : Int) := by rw [b2, Int.toNat_natCast, Int.natCast_mul]
            refine ⟨_, ?_, kn2, rfl, hk3, fun z hz => hk4 z (hk2 z hz)⟩
            simp only [XP, show (j : Int) < ((inL x).length : Int) from by omega, if_true, Zo, hy, Bq, e2, Xj (show j ≤ 1048576 by omega), e3]
            rw [XG (n := ((2 ^ j * (W u).toNat : Nat) : Int)) (by omega) (by omega), XG (by omega) (by omega), XG (by omega) (by omega), Yp hw, Zon, hlen, Int.natCast_add, Nat.pow_succ]
            congr 4
            omega) (by
            rintro _ ⟨kn1, rfl, hk1, hk2⟩
            have hfl : ((((inL x).map Int.toNat).map W).map Int.toNat).take (inL x).length = ((((inL x).map Int.toNat).map W).map Int.toNat) := List.take_of_length_le (by rw [List.length_map, List.length_map, List.length_map]; omega)
            obtain ⟨t1, _⟩ := Zx2 h g hc (l := ((inL x).map Int.toNat).map W) (by rw [List.length_map, List.length_map]) hbits
            have hlv : v < kn1.length := by rw [hk1.len]; exact hv
            have hset : (kn1.set v (W v))[v]? = some (W v) := List.getElem?_set_self hlv
            rw [hfl]
            refine ⟨_, ?_, kn1.set v (W v), rfl, ⟨by rw [List.length_set, hk1.len], fun u hu hz => ?_⟩, fun u hz => ?_⟩
            · simp only [XP, Int.lt_irrefl, if_false, Zo, g.at_, Bq, hc.at_, t1, ← hW.gate hv hi, Zry hlv, Int.toNat_natCast, hset]
            · rw [ZtN hlv] at hz ⊢
              split
              · rename_i e; rw [e]
              · rename_i e
                rw [if_neg e] at hz
                exact hk1.val u hu hz
            · rw [ZtN hlv]
              split
              · have := (hW.bit v hv).nat.2
                omega
              · exact hk2 u hz)
        exact ⟨kn', e, hk1, hk2⟩
theorem Ztq {b : Ze} {k : Nat} : (∀ v kn r, Xb k b v kn = some r → Xb (k + 1) b v kn = some r) := by
  induction k with
  | zero => intro v kn r h; cases h
  | succ k ih =>
    intro v kn r h
    change Xg (Xb k) b v kn = some r at h
    show Xg (Xb (k + 1)) b v kn = some r
    unfold Xg at h ⊢
    obtain ⟨x0, e0, h⟩ := Option.bind_eq_some_iff.1 h
    rw [e0, Bq]
    split
    · rename_i q; rw [if_pos q] at h; exact h
    · rename_i q
      rw [if_neg q] at h
      obtain ⟨g, e1, h⟩ := Option.bind_eq_some_iff.1 h
      rw [e1, Bq]
      obtain ⟨l, e2, h⟩ := Option.bind_eq_some_iff.1 h
      rw [e2, Bq]
      refine ZmZ (fun v r hv => ?_) h
      simp only [XP] at hv ⊢
      split
      · rename_i q3
        rw [if_pos q3] at hv
        obtain ⟨x1, e3, hv⟩ := Option.bind_eq_some_iff.1 hv
        obtain ⟨r0, e4, hv⟩ := Option.bind_eq_some_iff.1 hv
        rw [e3, Bq, ih _ _ _ e4, Bq]
        exact hv
      · rename_i q3
        rw [if_neg q3] at hv
        exact hv
theorem Zqh {b : Ze} {v : Int} {kn : List Int} {r : Int × List Int} {k : Nat} (h : Xb k b v kn = some r) : ∀ j, Xb (k + j) b v kn = some r
  | 0 => h
  | j + 1 => Ztq _ _ _ (Zqh h j)
theorem Zsm {b : Ze} {s : List Bool × List Int} (h : Lgc b s) {a W : Nat → Int} (hW : Tak b a W) {v : Nat} {kn : List Int} (hv : v < Yc b) (hkn : Zyi (Yc b) W kn) (hs : ∀ s, Src (ins b) v s → 0 ≤ knA kn s) : ∃ kn', Zhq b (v : Int) kn = some (W v, kn') := by
  obtain ⟨_, r, hr, _⟩ := h.ord.rank h.all
  obtain ⟨kn', e, _⟩ := Zwn h.blk hr hW (r v + 1) v kn hv (by omega) hkn hs
  refine ⟨kn', ZqF ⟨r v + 1, e⟩ fun j r' h' => ?_⟩
  have a := Zqh e j
  have c := Zqh h' (r v + 1)
  rw [Nat.add_comm] at c
  rw [a] at c
  injection c with c
  exact c.symm
def ZuU (sup : List Int) (row : Nat) (v : Nat) : Int := if (v : Int) ∈ sup then ((Qv row (XI (fun y => decide (y = (v : Int))) sup).toNat : Nat) : Int) else 0
theorem Zq4 (i p : Nat) : Qv i p < 2 := Nat.mod_lt _ (by decide)
theorem Zq0 (sup : List Int) (row v : Nat) : Bit (ZuU sup row v) := by
  unfold ZuU Bit
  split
  · have := Zq4 row (XI (fun y => decide (y = (v : Int))) sup).toNat
    omega
  · exact .inl rfl
theorem ZsV {sup : List Int} (hs : sup.Pairwise (· < ·)) {row p v : Nat} (h : sup[p]? = some (v : Int)) : ZuU sup row v = ((Qv row p : Nat) : Int) := by
  unfold ZuU
  rw [if_pos (List.mem_of_getElem? h), Zwr hs h, Int.toNat_natCast]
noncomputable def Zzz (b : Ze) (sup : List Int) (row : Nat) : Nat → Int := open Classical in if h : ∃ W, Tak b (ZuU sup row) W then Classical.choose h else fun _ => 0
theorem ZrW {b : Ze} {s : List Bool × List Int} (h : Lgc b s) (sup : List Int) (row : Nat) : Tak b (ZuU sup row) (Zzz b sup row) := by
  have hx := ZyW h (ZuU sup row) (Zq0 sup row)
  unfold Zzz
  rw [dif_pos hx]
  exact Classical.choose_spec hx
noncomputable def fnL (b : Ze) (sup : List Int) (v : Nat) : List Int := (List.range (2 ^ sup.length)).map fun row => Zzz b sup row v
theorem ZjU (b : Ze) (sup : List Int) (v : Nat) : (fnL b sup v).length = 2 ^ sup.length := by simp [fnL]
theorem Zwp (b : Ze) (sup : List Int) (v : Nat) {row : Nat} (h : row < 2 ^ sup.length) : (fnL b sup v)[row]? = some (Zzz b sup row v) := by
  unfold fnL
  rw [List.getElem?_map, List.getElem?_range h]
  rfl
theorem ZuW {k : Nat} (h : k ≤ 8) : 2 ^ k ≤ 256 := Nat.le_trans (Nat.pow_le_pow_right (by omega) h) (by decide)
theorem ZsU {m : Nat} (h : m ≤ 8) : Wq ((1 : Int) * (2 : Int) ^ min m (IntKind.bits IntKind.i64)) = ((2 ^ m : Nat) : Int) := by
  have hb : min m (IntKind.bits IntKind.i64) = m := Nat.min_eq_left (by show m ≤ 64; omega)
  have e : (1 : Int) * (2 : Int) ^ m = ((2 ^ m : Nat) : Int) := by simp
  rw [hb, e]
  have h16 := ZuW h
  clear hb e
  generalize 2 ^ m = g at h16 ⊢
  rw [XG (by omega) (by omega)]
theorem Zn8 {x p : Nat} (hx : x ≤ 1048576) (hp : p ≤ 8) : Go.bits Go.BinOp.and IntKind.i64 (Int.fdiv (x : Int) ((2 : Int) ^ min p (IntKind.bits IntKind.i64))) (1 : Int) = ((Qv x p : Nat) : Int) := Zym (by omega) (by omega)
theorem ZkR {b : Ze} {s : List Bool × List Int} (h : Lgc b s) {v : Nat} (hv : v < Yc b) :
    Ja (b, gates b, s.2, ()) (v : Int) = some (if 8 < (Zdg (Yc b) (ins b) v).length then ([], [], false) else (fnL b (Zdg (Yc b) (ins b) v) v, Zdg (Yc b) (ins b) v, true)) := by
  have hn := Qt h.blk
  obtain ⟨out, e, ho, ho2⟩ := ZmP h
  have hinc := Zlp (Yc b) (ins b) v
  unfold Ja
  rw [e, Bq, Zo, ho2 v hv, Bq]
  have hmem : ∀ {p : Nat} {y : Int}, (Zdg (Yc b) (ins b) v)[p]? = some y → ∃ u : Nat, y = (u : Int) ∧ u < Yc b ∧ ins b u = none := fun {p y} hy => (ZoE h.blk).1 (ZiQ h.blk hv (List.mem_of_getElem? hy))
  generalize hsup : Zdg (Yc b) (ins b) v = sup at hinc hmem
  by_cases q : 8 < sup.length
  · rw [if_pos q, if_pos (by omega)]
  · rw [if_neg q, if_neg (by omega), Zh (by omega)]
    have hk : sup.length ≤ 8 := by omega
    have hp := ZuW hk
    refine Ya (2 ^ sup.length) (fun k w => w = ((k : Int), (fnL b sup v).take k, ())) _ rfl ?_ ?_
    · rintro row _ hrow rfl
      left
      refine ⟨_, ?_, rfl⟩
      simp only [Vs, Int.toNat_natCast, ZsU hk]
      rw [if_pos (by omega)]
      let vals : List Int := (List.range sup.length).map fun p => ((Qv row p : Nat) : Int)
      have hvl : vals.length = sup.length := by simp [vals]
      have hva : ∀ p, p < sup.length → vals[p]? = some ((Qv row p : Nat) : Int) := fun p hp => by
        show ((List.range sup.length).map fun p => ((Qv row p : Nat) : Int))[p]? = _
        rw [List.getElem?_map, List.getElem?_range hp]
        rfl
      obtain ⟨out2, e2, hl2, hv2⟩ := Zm8 h (m := Zp2 (v := .int .i64) sup vals sup.length) (ZrW h sup row) (fun u hu hiu => by
        by_cases w : (u : Int) ∈ sup
        · obtain ⟨p, hp⟩ := List.mem_iff_getElem?.1 w
          have hpl := (List.getElem?_eq_some_iff.1 hp).1
          rw [Zov (v := .int .i64) hinc hvl _ (Nat.le_refl _) p _ hp, if_pos hpl, hva p hpl, ZsV hinc hp]
          rfl
        · rw [ZlX (v := .int .i64) w]
          unfold ZuU
          rw [if_neg w]
          rfl)
      refine YO (l := sup) (fun p => ((p : Int), Zp2 (v := .int .i64) sup vals p, ())) (fun p y hy hpl => ?_) ?_
      · simp only [Vr, show (p : Int) < (sup.length : Int) from by omega, if_true, Zo, hy, Bq, Int.toNat_natCast, Zn8 (show row ≤ 1048576 by omega) (show p ≤ 8 by omega), Xj (show p ≤ 1048576 by omega)]
        rw [Zh (by omega)]
        have ek : Zp2 (v := .int .i64) sup vals (p + 1) = ZnR (.int .i64) (.int .i64) (Zp2 (v := .int .i64) sup vals p) y ((Qv row p : Nat) : Int) := by
          conv => lhs; unfold Zp2
          rw [hy, hva p hpl]
        rw [ek]
        rfl
      · simp only [Vr, Int.lt_irrefl, if_false, e2, Bq, Zo, hv2 v hv, Xj (show row ≤ 1048576 by omega)]
        rw [Zh (by rw [List.length_take, ZjU]; simp only [List.length_cons, List.length_nil]; omega), Yp (Zwp b sup v hrow)]
    · rintro _ rfl
      simp only [Vs, Int.toNat_natCast, ZsU hk]
      rw [if_neg (by omega), List.take_of_length_le (by rw [ZjU]; omega)]
theorem Zj3 {k : Nat} (hk : k ≤ 8) : Zdt (k : Int) = some ((2 ^ k : Nat) : Int) := by
  unfold Zdt
  refine Ya k (fun j w => w = (((2 ^ j : Nat) : Int), (j : Int), ())) _ rfl ?_ ?_
  · rintro j _ hj rfl
    left
    have hp := ZuW (show j ≤ 8 by omega)
    refine ⟨_, ?_, rfl⟩
    rw [Nat.pow_succ]
    generalize 2 ^ j = g at hp
    simp only [Zcq]
    rw [if_pos (by omega), XG (by omega) (by omega), Xj (by omega)]
    congr 3
    omega
  · rintro _ rfl
    simp only [Zcq, Int.lt_irrefl, if_false]
def Zwg (row k : Nat) : List Int := (List.range k).map fun p => ((Qv row p : Nat) : Int)
theorem Zq3 (row k : Nat) : (Zwg row k).length = k := by simp [Zwg]
theorem Zs0 (row : Nat) {k p : Nat} (h : p < k) : (Zwg row k)[p]? = some ((Qv row p : Nat) : Int) := by
  unfold Zwg
  rw [List.getElem?_map, List.getElem?_range h]
  rfl
theorem Zx1 (x : Nat) : Int.tmod (x : Int) 2 = ((x % 2 : Nat) : Int) := by
  rw [Int.tmod_eq_emod_of_nonneg (by omega)]
  omega
theorem ZyX (x : Nat) : Int.tdiv (x : Int) 2 = ((x / 2 : Nat) : Int) := by
  rw [Int.tdiv_eq_ediv_of_nonneg (by omega)]
  omega
theorem ZkE (row p : Nat) : row / 2 ^ p / 2 = row / 2 ^ (p + 1) := by rw [Nat.div_div_eq_div_mul, Nat.pow_succ]
theorem Zsl {row k : Nat} (hr : row ≤ 1048576) (hk : k ≤ 8) : ZeS (row : Int) (k : Int) = some (Zwg row k) := by
  unfold ZeS
  refine Ya k (fun j w => w = (((row / 2 ^ j : Nat) : Int), (Zwg row k).take j, (j : Int), ())) _ (by rw [Nat.pow_zero, Nat.div_one]; rfl) ?_ ?_
  · rintro j _ hj rfl
    left
    refine ⟨_, ?_, rfl⟩
    have hle : row / 2 ^ j ≤ row := Nat.div_le_self _ _
    simp only [Zcp, show (j : Int) < (k : Int) from by omega, if_true, Zx1, ZyX, Xj (show j ≤ 1048576 by omega), ZkE]
    have hle2 : row / 2 ^ (j + 1) ≤ row := Nat.div_le_self _ _
    rw [Zh (by rw [List.length_take, Zq3]; simp only [List.length_cons, List.length_nil]; omega), XG (by have := Int.natCast_nonneg (row / 2 ^ (j + 1)); omega) (by omega), Yp (Zs0 row hj)]
    rfl
  · rintro _ rfl
    simp only [Zcp, Int.lt_irrefl, if_false]
    rw [List.take_of_length_le (by rw [Zq3]; omega)]
def ZlY (n : Nat) (sup : List Int) (row k : Nat) : List Int := (List.range n).map fun v : Nat => if (v : Int) ∈ sup.take k then ZuU sup row v else -1
theorem Zhc (n : Nat) (sup : List Int) (row k : Nat) : (ZlY n sup row k).length = n := by simp [ZlY]
theorem ZfB {n : Nat} {sup : List Int} {row k v : Nat} (hv : v < n) : (ZlY n sup row k)[v]? = some (if (v : Int) ∈ sup.take k then ZuU sup row v else -1) := by
  unfold ZlY
  rw [List.getElem?_map, List.getElem?_range hv]
  rfl
theorem Zqs {b : Ze} (h : Va b) {sup : List Int} (hs : sup.Pairwise (· < ·)) (hm : ∀ {p : Nat} {y : Int}, sup[p]? = some y → ∃ u : Nat, y = (u : Int) ∧ u < Yc b) {row : Nat} (hk : sup.length ≤ 8) :
    ZdN b sup (Zwg row sup.length) = some (ZlY (Yc b) sup row sup.length) := by
  have hn := Qt h
  unfold ZdN
  rw [show (Zc.YK (Ze.Design b)).length = Yc b from rfl, Zh (by omega), Zh (by omega), Zh (by omega), Zh (by omega), Int.toNat_natCast]
  refine Ya (Yc b) (fun k v => v = ((k : Int), List.replicate k (-1 : Int) ++ List.replicate (Yc b - k) (0 : Int), ())) _ (by rw [List.replicate_zero, List.nil_append]; rfl) ?_ ?_
  · rintro k _ hk rfl
    left
    refine ⟨_, ?_, rfl⟩
    have e : List.replicate (Yc b - k) (0 : Int) = 0 :: List.replicate (Yc b - (k + 1)) 0 := by
      rw [show Yc b - k = (Yc b - (k + 1)) + 1 by omega, List.replicate_succ]
    have hat : (List.replicate k (-1 : Int) ++ List.replicate (Yc b - k) (0 : Int))[k]? = some 0 := by
      rw [List.getElem?_append_right (by simp), e]; simp
    have hlen : (List.replicate k (-1 : Int) ++ List.replicate (Yc b - k) (0 : Int)).length = Yc b := by simp; omega
    simp only [Zbw, hlen, show (k : Int) < (Yc b : Int) from by omega, if_true, Zo, hat, Bq, Xj (show k ≤ 1048576 by omega), Int.toNat_natCast]
    congr 3
    rw [e, List.set_append_right _ _ (by simp), List.length_replicate, Nat.sub_self, List.set_cons_zero, List.replicate_succ', List.append_assoc]
    rfl
  · rintro _ rfl
    simp only [Zbw, Nat.sub_self, List.replicate_zero, List.append_nil, List.length_replicate, Int.lt_irrefl, if_false]
    have e0 : List.replicate (Yc b) (-1 : Int) = ZlY (Yc b) sup row 0 := by
      apply List.ext_getElem?
      intro v
      by_cases hv : v < Yc b
      · rw [ZfB hv, List.getElem?_replicate, if_pos hv, if_neg (by simp)]
      · rw [List.getElem?_eq_none (by simp; omega), List.getElem?_eq_none (by rw [Zhc]; omega)]
    rw [e0]
    have estep : ∀ {p u : Nat}, p < sup.length → u < Yc b → sup[p]? = some (u : Int) → (ZlY (Yc b) sup row p).set u ((Qv row p : Nat) : Int) = ZlY (Yc b) sup row (p + 1) := fun {p u} hpl hu hy => by
      apply List.ext_getElem?
      intro v
      by_cases hv : v < Yc b
      · rw [List.getElem?_set, ZfB hv]
        by_cases q : u = v
        · subst q
          rw [if_pos rfl, if_pos (by rw [Zhc]; exact hu), ZfB hv, Yp hy, if_pos (by simp), ZsV hs hy]
        · rw [if_neg q, ZfB hv, Yp hy]
          have : ((v : Int) ∈ sup.take p ++ [(u : Int)]) ↔ (v : Int) ∈ sup.take p := by
            rw [List.mem_append, List.mem_singleton]
            exact ⟨fun z => z.elim id fun z => absurd (by omega) q, .inl⟩
          by_cases w : (v : Int) ∈ sup.take p
          · rw [if_pos w, if_pos (this.2 w)]
          · rw [if_neg w, if_neg (fun z => w (this.1 z))]
      · rw [List.getElem?_eq_none (by rw [List.length_set, Zhc]; omega), List.getElem?_eq_none (by rw [Zhc]; omega)]
    exact YO (l := sup) (fun p => ((p : Int), ZlY (Yc b) sup row p, ())) (step := fun w => Jj sup (Zwg row sup.length) w.1 w.2.1) (good := .inr (ZlY (Yc b) sup row sup.length)) (fun p y hy hpl => by
      obtain ⟨u, rfl, hu⟩ := hm hy
      simp only [Jj, show (p : Int) < (sup.length : Int) from by omega, if_true, Zo, hy, Bq, Zs0 row hpl, ZfB hu, Int.toNat_natCast, Xj (show p ≤ 1048576 by omega), estep hpl hu hy])
      (by simp only [Jj, Int.lt_irrefl, if_false])
theorem Znd {b : Ze} {s : List Bool × List Int} (h : Lgc b s) {v : Nat} (hv : v < Yc b) (hk : (Zdg (Yc b) (ins b) v).length ≤ 8) : Zbb b (v : Int) (Zdg (Yc b) (ins b) v) = some (fnL b (Zdg (Yc b) (ins b) v) v) := by
  have hn := Qt h.blk
  have hB := Ze0 h.blk 0
  have hinc := Zlp (Yc b) (ins b) v
  have hsrc : ∀ s, Src (ins b) v s → (s : Int) ∈ Zdg (Yc b) (ins b) v := fun s hs => (ZfJ hB hv).2 ⟨s, rfl, hs⟩
  have hmem : ∀ {p : Nat} {y : Int}, (Zdg (Yc b) (ins b) v)[p]? = some y → ∃ u : Nat, y = (u : Int) ∧ u < Yc b ∧ ins b u = none := fun {p y} hy => (ZoE h.blk).1 (ZiQ h.blk hv (List.mem_of_getElem? hy))
  generalize hsup : Zdg (Yc b) (ins b) v = sup at hinc hmem hk hsrc
  have hp := ZuW hk
  unfold Zbb
  refine Ya (2 ^ sup.length) (fun k w => w = ((fnL b sup v).take k, (k : Int), ())) _ rfl ?_ ?_
  · rintro row _ hrow rfl
    left
    refine ⟨_, ?_, rfl⟩
    have hW := ZrW h sup row
    obtain ⟨kn', e⟩ := Zsm h hW (kn := ZlY (Yc b) sup row sup.length) hv ⟨Zhc _ _ _ _, fun u hu hz => by
      have e1 := ZfB (sup := sup) (row := row) (k := sup.length) hu
      unfold knA at hz ⊢
      rw [e1] at hz ⊢
      simp only [Option.getD_some] at hz ⊢
      by_cases w : (u : Int) ∈ sup.take sup.length
      · rw [if_pos w]
        rw [List.take_length] at w
        obtain ⟨p, hp⟩ := List.mem_iff_getElem?.1 w
        obtain ⟨u', e2, hu', hi⟩ := hmem hp
        have : u = u' := by omega
        subst this
        exact (hW.src hu hi).symm
      · rw [if_neg w] at hz
        omega⟩ (fun s0 hs0 => by
      have hs1 := Zut hB hs0 hv
      unfold knA
      rw [ZfB hs1, if_pos (by rw [List.take_length]; exact hsrc s0 hs0)]
      have := (Zq0 sup row s0).nat
      simp only [Option.getD_some]
      omega)
    simp only [Jz, Zj3 hk, Bq]
    rw [if_pos (by omega), Zsl (by omega) hk, Bq, Zqs h.blk hinc (fun hy => by obtain ⟨u, e1, e2, _⟩ := hmem hy; exact ⟨u, e1, e2⟩) hk, Bq, e, Bq]
    simp only [Xj (show row ≤ 1048576 by omega)]
    rw [Zh (by rw [List.length_take, ZjU]; simp only [List.length_cons, List.length_nil]; omega), Yp (Zwp b sup v hrow)]
  · rintro _ rfl
    simp only [Jz, Zj3 hk, Bq]
    rw [if_neg (by omega), List.take_of_length_le (by rw [ZjU]; omega)]
/-
  Plain laws: weights, sensitivities, densities.
-/
def pr (g : Nat → Int) : Nat → Int
  | 0 => 1
  | k + 1 => pr g k * g k
theorem Zmt (g : Nat → Int) : ∀ k, pr g (k + 1) = g 0 * pr (fun p => g (p + 1)) k
  | 0 => by show 1 * g 0 = g 0 * 1; rw [Int.one_mul, Int.mul_one]
  | k + 1 => by
    show pr g (k + 1) * g (k + 1) = g 0 * (pr (fun p => g (p + 1)) k * g (k + 1))
    rw [Zmt g k, Int.mul_assoc]
theorem Zlk {g h : Nat → Int} : ∀ {k : Nat}, (∀ i, i < k → g i = h i) → pr g k = pr h k
  | 0, _ => rfl
  | k + 1, e => by
    show pr g k * g k = pr h k * h k
    rw [Zlk fun i hi => e i (by omega), e k (by omega)]
theorem ZvL {g : Nat → Int} (h : ∀ i, 0 ≤ g i ∧ g i ≤ 10) : ∀ k, 0 ≤ pr g k ∧ pr g k ≤ 10 ^ k
  | 0 => by show (0 : Int) ≤ 1 ∧ (1 : Int) ≤ 10 ^ 0; decide
  | k + 1 => by
    have h1 := ZvL h k
    have := ZrJ (h k) h1
    show 0 ≤ pr g k * g k ∧ pr g k * g k ≤ 10 ^ (k + 1)
    rw [Int.mul_comm (pr g k), Int.pow_succ, Int.mul_comm (10 ^ k)]
    exact this
theorem ZvK {k : Nat} (h : k ≤ 8) : (10 : Int) ^ k ≤ 100000000 := by
  have : (10 : Nat) ^ k ≤ 10 ^ 8 := Nat.pow_le_pow_right (by omega) h
  have e : ((10 ^ k : Nat) : Int) = (10 : Int) ^ k := by simp
  rw [← e]
  have e2 : (10 : Nat) ^ 8 = 100000000 := by decide
  rw [e2] at this
  omega
theorem Zzx {g : Nat → Int} (h : ∀ i, 0 ≤ g i ∧ g i ≤ 10) {k : Nat} (hk : k + 1 ≤ 8) : Wq (pr g k * g k) = pr g (k + 1) := by
  have := ZvL h (k + 1)
  have h8 := ZvK hk
  show Wq (pr g (k + 1)) = _
  rw [XG (by omega) (by omega)]
def Zlf (fs : List (Int × Int)) (p : Nat) : Int × Int := (fs[p]?).getD (0, 1)
theorem ZjX {fs : List (Int × Int)} (h : Zx6 fs) (p : Nat) : 0 ≤ (Zlf fs p).1 ∧ (Zlf fs p).1 ≤ (Zlf fs p).2 ∧ 1 ≤ (Zlf fs p).2 ∧ (Zlf fs p).2 ≤ 10 := by
  unfold Zlf
  cases e : fs[p]? with
  | none => decide
  | some x => exact h x (List.mem_of_getElem? e)
theorem Zom (i p : Nat) : i / 2 / 2 ^ p = i / 2 ^ (p + 1) := by rw [Nat.div_div_eq_div_mul, Nat.pow_succ, Nat.mul_comm]
theorem ZuO : ∀ (fs : List (Int × Int)) (i : Nat), wOf fs i = pr (fun p => fac (Zlf fs p) (i / 2 ^ p)) fs.length
  | [], _ => rfl
  | x :: t, i => by
    rw [List.length_cons, Zmt]
    show fac x i * wOf t (i / 2) = _
    rw [ZuO t (i / 2), Nat.pow_zero, Nat.div_one]
    congr 1
    refine Zlk fun p hp => ?_
    rw [Zom]
    rfl
theorem ZwB : ∀ (fs : List (Int × Int)) (i q : Nat), wWo fs i q = pr (fun p => if p = q then 1 else fac (Zlf fs p) (i / 2 ^ p)) fs.length
  | [], _, _ => rfl
  | x :: t, i, 0 => by
    rw [List.length_cons, Zmt, if_pos rfl, Int.one_mul]
    show wOf t (i / 2) = _
    rw [ZuO t (i / 2)]
    refine Zlk fun p hp => ?_
    rw [if_neg (by omega), Zom]
    rfl
  | x :: t, i, q + 1 => by
    rw [List.length_cons, Zmt, if_neg (by omega)]
    show fac x i * wWo t (i / 2) q = _
    rw [ZwB t (i / 2) q, Nat.pow_zero, Nat.div_one]
    congr 1
    refine Zlk fun p hp => ?_
    by_cases e : p = q
    · rw [if_pos e, if_pos (by omega)]
    · rw [if_neg e, if_neg (by omega), Zom]
      rfl
theorem Zqe : ∀ (fs : List (Int × Int)), Z7 fs = pr (fun p => (Zlf fs p).2) fs.length
  | [] => rfl
  | x :: t => by
    rw [List.length_cons, Zmt]
    show x.2 * Z7 t = _
    rw [Zqe t]
    rfl
def Zok (a : Zg) : Int × Int := (ZH.Num (Zg.High a), ZH.Den (Zg.High a))
def fsL (b : Ze) (list : List Zg) (sup : List Int) : List (Int × Int) := sup.map fun x => Zok (JG b list x)
theorem Zg6 (b : Ze) (list : List Zg) (sup : List Int) : (fsL b list sup).length = sup.length := by simp [fsL]
theorem Ztz {b : Ze} {list : List Zg} {sup : List Int} {p : Nat} {x : Int} (h : sup[p]? = some x) : (fsL b list sup)[p]? = some (Zok (JG b list x)) := by
  unfold fsL
  rw [List.getElem?_map, h]
  rfl
theorem ZjW {b : Ze} {list : List Zg} {sup : List Int} {p : Nat} {x : Int} (h : sup[p]? = some x) : Zlf (fsL b list sup) p = Zok (JG b list x) := by
  unfold Zlf
  rw [Ztz h]
  rfl
theorem ZkF {b : Ze} {list : List Zg} (ha : Zct b list) {sup : List Int} (hin : ∀ x ∈ sup, x ∈ srcs b) : Zx6 (fsL b list sup) := by
  intro y hy
  obtain ⟨x, hx, rfl⟩ := List.mem_map.1 hy
  obtain ⟨_, _, _, h3, _⟩ := Zla ha (hin x hx)
  obtain ⟨⟨⟨e1, _⟩, ⟨e3, e4⟩, _⟩, d10, _⟩ := h3
  exact ⟨e3, e4, e1, d10⟩
theorem Zwo {x : Int × Int} (h : 0 ≤ x.1 ∧ x.1 ≤ x.2 ∧ 1 ≤ x.2 ∧ x.2 ≤ 10) : Wq (x.2 - x.1) = x.2 - x.1 := XG (by omega) (by omega)
theorem Zm9 {b : Ze} {s : List Bool × List Int} {list : List Zg} (ha : Zct b list) {sup : List Int} (hk : sup.length ≤ 8) (hin : ∀ x ∈ sup, x ∈ srcs b) {row : Nat} (hr : row ≤ 1048576) (q : Nat) :
    V9 (chn b s list) sup (row : Int) (q : Int) = some (wWo (fsL b list sup) row q) := by
  have hfs := ZkF ha hin
  have hg : ∀ i, 0 ≤ (if i = q then (1 : Int) else fac (Zlf (fsL b list sup) i) (row / 2 ^ i)) ∧ (if i = q then (1 : Int) else fac (Zlf (fsL b list sup) i) (row / 2 ^ i)) ≤ 10 := fun i => by
    split
    · omega
    · exact Zrj (ZjX hfs i) _
  rw [ZwB, Zg6]
  unfold V9
  refine YO (l := sup) (fun k => (pr (fun p => if p = q then 1 else fac (Zlf (fsL b list sup) p) (row / 2 ^ p)) k, (k : Int), ())) (fun p x hx hp => ?_) ?_
  · have e : ZgK (Ty.int IntKind.i64) Zy (YI.of (chn b s list)) x = some (JG b list x) := Zn9 ha (hin x (List.mem_of_getElem? hx))
    have hw := Zzx hg (k := p) (by omega)
    have hf := ZjX hfs p
    rw [ZjW hx] at hf
    have hf2 := Zwo hf
    simp only [Vp, show (p : Int) < (sup.length : Int) from by omega, if_true, Zo, hx, Bq, e, Option.getD_some, Int.toNat_natCast, Zn8 hr (show p ≤ 8 by omega), Xj (show p ≤ 1048576 by omega)]
    by_cases c : p = q
    · subst c
      rw [if_pos rfl, ← hw, if_pos rfl, Int.mul_one, XG]
      · have := ZvL hg p; omega
      · have := ZvL hg p
        have := ZvK (show p ≤ 8 by omega)
        omega
    · rw [if_neg (by omega), Zh (by omega), ← hw, if_neg c, ZjW hx]
      unfold fac
      have hbit : row / 2 ^ p % 2 = Qv row p := rfl
      rw [hbit]
      by_cases d : Qv row p = 1
      · rw [if_pos (by omega), if_pos d]
        rfl
      · rw [if_neg (by omega), if_neg d]
        show some (Sum.inl (Wq (_ * Wq ((Zok (JG b list x)).2 - (Zok (JG b list x)).1)), _)) = _
        rw [hf2]
  · simp only [Vp, Int.lt_irrefl, if_false]
theorem Zin {b : Ze} {s : List Bool × List Int} {list : List Zg} (ha : Zct b list) {sup : List Int} (hk : sup.length ≤ 8) (hin : ∀ x ∈ sup, x ∈ srcs b) : Qn (chn b s list) sup (-1) = some (Z7 (fsL b list sup)) := by
  have hfs := ZkF ha hin
  have hg : ∀ i, 0 ≤ (Zlf (fsL b list sup) i).2 ∧ (Zlf (fsL b list sup) i).2 ≤ 10 := fun i => by have := ZjX hfs i; omega
  rw [Zqe, Zg6]
  unfold Qn
  refine YO (l := sup) (fun k => (pr (fun p => (Zlf (fsL b list sup) p).2) k, (k : Int), ())) (fun p x hx hp => ?_) ?_
  · have e : ZgK (Ty.int IntKind.i64) Zy (YI.of (chn b s list)) x = some (JG b list x) := Zn9 ha (hin x (List.mem_of_getElem? hx))
    have hw := Zzx hg (k := p) (by omega)
    simp only [Qh, show (p : Int) < (sup.length : Int) from by omega, if_true, Zo, hx, Bq, e, Option.getD_some, Xj (show p ≤ 1048576 by omega)]
    rw [if_neg (by omega), ← hw, ZjW hx]
    rfl
  · simp only [Qh, Int.lt_irrefl, if_false]
theorem Zpw {b : Ze} (h : Va b) {list : List Zg} (ha : Zct b list) {sup : List Int} (hk : sup.length ≤ 8) (hin : ∀ x ∈ sup, x ∈ srcs b) {row : Nat} (hr : row ≤ 1048576) : Zdf b list sup (row : Int) = some (wOf (fsL b list sup) row) := by
  have hfs := ZkF ha hin
  have hg : ∀ i, 0 ≤ fac (Zlf (fsL b list sup) i) (row / 2 ^ i) ∧ fac (Zlf (fsL b list sup) i) (row / 2 ^ i) ≤ 10 := fun i => Zrj (ZjX hfs i) _
  rw [ZuO, Zg6]
  unfold Zdf
  have := YO (l := sup) (fun k => (((row / 2 ^ k : Nat) : Int), pr (fun p => fac (Zlf (fsL b list sup) p) (row / 2 ^ p)) k, (k : Int), ())) (step := fun v => VA b list sup v.1 v.2.1 v.2.2.1) (good := pr (fun p => fac (Zlf (fsL b list sup) p) (row / 2 ^ p)) sup.length) (fun p x hx hp => by
    have e := Zlg h ha (hin x (List.mem_of_getElem? hx))
    have hw := Zzx hg (k := p) (by omega)
    have hf := ZjX hfs p
    rw [ZjW hx] at hf
    have hf2 := Zwo hf
    have hle : row / 2 ^ p ≤ row := Nat.div_le_self _ _
    have hle2 : row / 2 ^ (p + 1) ≤ row := Nat.div_le_self _ _
    have hnn := Int.natCast_nonneg (row / 2 ^ (p + 1))
    simp only [VA, show (p : Int) < (sup.length : Int) from by omega, if_true, Zo, hx, Bq, e, Zx1, ZyX, Xj (show p ≤ 1048576 by omega), ZkE]
    rw [XG (n := ((row / 2 ^ (p + 1) : Nat) : Int)) (by omega) (by omega), ← hw, ZjW hx]
    unfold fac
    by_cases d : row / 2 ^ p % 2 = 1
    · rw [if_pos (by omega), if_pos d]
      rfl
    · rw [if_neg (by omega), if_neg d]
      show some (Sum.inl (_, Wq (_ * Wq ((Zok (JG b list x)).2 - (Zok (JG b list x)).1)), _)) = _
      rw [hf2])
    (by simp only [VA, Int.lt_irrefl, if_false])
  simp only [Nat.pow_zero, Nat.div_one] at this
  exact this
theorem Zox {b : Ze} (h : Va b) {list : List Zg} (ha : Zct b list) {sup : List Int} (hk : sup.length ≤ 8) (hin : ∀ x ∈ sup, x ∈ srcs b) : Zcs b list sup = some (Z7 (fsL b list sup)) := by
  have hfs := ZkF ha hin
  have hg : ∀ i, 0 ≤ (Zlf (fsL b list sup) i).2 ∧ (Zlf (fsL b list sup) i).2 ≤ 10 := fun i => by have := ZjX hfs i; omega
  rw [Zqe, Zg6]
  unfold Zcs
  refine YO (l := sup) (fun k => (pr (fun p => (Zlf (fsL b list sup) p).2) k, (k : Int), ())) (fun p x hx hp => ?_) ?_
  · have e := Zlg h ha (hin x (List.mem_of_getElem? hx))
    have hw := Zzx hg (k := p) (by omega)
    simp only [J9, show (p : Int) < (sup.length : Int) from by omega, if_true, Zo, hx, Bq, e, Xj (show p ≤ 1048576 by omega)]
    rw [← hw, ZjW hx]
    rfl
  · simp only [J9, Int.lt_irrefl, if_false]
def fv (f : List Int) (i : Nat) : Int := (f[i]?).getD 0
theorem ZtA {f : List Int} {i : Nat} (h : i < f.length) : f[i]? = some (fv f i) := by
  unfold fv
  rw [List.getElem?_eq_getElem h]
  rfl
def ZqJ (fs : List (Int × Int)) (f : List Int) (q k : Nat) : Int := sumTo (fun i => if Qv i q = 0 ∧ fv f i ≠ fv f (i + 2 ^ q) then wWo fs i q else 0) k
theorem Zun {fs : List (Int × Int)} (h : Zx6 fs) (hl : fs.length ≤ 8) (f : List Int) (q k : Nat) : 0 ≤ ZqJ fs f q k ∧ ZqJ fs f q k ≤ (k : Int) * 100000000 := by
  refine Zlo fun i hi => ?_
  have h1 := ZwA h i q
  have h2 := ZvK hl
  split <;> omega
theorem Zio {b : Ze} {s : List Bool × List Int} {list : List Zg} (ha : Zct b list) {sup : List Int} (hk : sup.length ≤ 8) (hin : ∀ x ∈ sup, x ∈ srcs b) {f : List Int} (hf : f.length = 2 ^ sup.length) {q : Nat} (hq : q < sup.length) :
    Qo (chn b s list) f sup (q : Int) = some (ZqJ (fsL b list sup) f q (2 ^ sup.length)) := by
  have hfs := ZkF ha hin
  have hp := ZuW hk
  have hql : 2 ^ q ≤ 256 := ZuW (by omega)
  unfold Qo
  refine Ya (2 ^ sup.length) (fun k w => w = (ZqJ (fsL b list sup) f q k, (k : Int), ())) _ rfl ?_ ?_
  · rintro i _ hi rfl
    left
    refine ⟨_, ?_, rfl⟩
    have hbd := Zun hfs (by rw [Zg6]; exact hk) f q (i + 1)
    have hsuc : ZqJ (fsL b list sup) f q (i + 1) = ZqJ (fsL b list sup) f q i + (if Qv i q = 0 ∧ fv f i ≠ fv f (i + 2 ^ q) then wWo (fsL b list sup) i q else 0) := rfl
    simp only [Qi, hf, show (i : Int) < ((2 ^ sup.length : Nat) : Int) from by omega, if_true, Zo, ZtA (show i < f.length by omega), Bq, Int.toNat_natCast, Zn8 (show i ≤ 1048576 by omega) (show q ≤ 8 by omega), ZsU (show q ≤ 8 by omega), Xj (show i ≤ 1048576 by omega)]
    rw [Zh (by omega)]
    by_cases c : Qv i q = 0
    · have hrl := Zww hq hi c
      rw [if_pos (by omega), Zlv (by omega) (by omega), Zxn c, Zo, ZtA (show i + 2 ^ q < f.length by omega), Bq]
      by_cases d : fv f i = fv f (i + 2 ^ q)
      · rw [if_pos d, hsuc, if_neg (fun z => z.2 d), Int.add_zero]
      · rw [if_neg d, Zm9 ha hk hin (by omega) q, Bq, hsuc, if_pos ⟨c, d⟩]
        rw [hsuc, if_pos ⟨c, d⟩] at hbd
        rw [XG (by omega) (by omega)]
    · rw [if_neg (by omega), hsuc, if_neg (fun z => c z.1), Int.add_zero]
  · rintro _ rfl
    simp only [Qi, hf, Int.lt_irrefl, if_false]
def chg (f : List Int) (q i : Nat) : Prop := fv f i ≠ fv f (if Qv i q = 1 then i - 2 ^ q else i + 2 ^ q)
instance (f : List Int) (q i : Nat) : Decidable (chg f q i) := by unfold chg; infer_instance
theorem ZAZ {f : List Int} {q i : Nat} (c : Qv i q = 1) : chg f q i ↔ fv f i ≠ fv f (i - 2 ^ q) := by unfold chg; rw [if_pos c]
theorem ZAY {f : List Int} {q i : Nat} (c : ¬ Qv i q = 1) : chg f q i ↔ fv f i ≠ fv f (i + 2 ^ q) := by unfold chg; rw [if_neg c]
def Zwj (f : List Int) (q n : Nat) : List Int := (List.range n).map fun i => if chg f q i then 1 else 0
theorem Zlb (f : List Int) (q n : Nat) : (Zwj f q n).length = n := by simp [Zwj]
theorem Zs6 (f : List Int) (q : Nat) {n i : Nat} (h : i < n) : (Zwj f q n)[i]? = some (if chg f q i then 1 else 0) := by
  unfold Zwj
  rw [List.getElem?_map, List.getElem?_range h]
  rfl
theorem Zyn {i q : Nat} (h : Qv i q = 1) : 2 ^ q ≤ i := by
  unfold Qv at h
  by_cases c : i < 2 ^ q
  · rw [Nat.div_eq_of_lt c] at h; omega
  · omega
theorem ZBc (x y : Nat) : Int.tdiv (x : Int) (y : Int) = ((x / y : Nat) : Int) := by
  rw [Int.tdiv_eq_ediv_of_nonneg (by omega)]
  rfl
theorem Zpv {f : List Int} {k q : Nat} (hk : k ≤ 8) (hf : f.length = 2 ^ k) (hq : q < k) : Zde f ((2 ^ q : Nat) : Int) = some (Zwj f q (2 ^ k)) := by
  have hp := ZuW hk
  have hql : 2 ^ q ≤ 256 := ZuW (by omega)
  have hq0 : 0 < 2 ^ q := Nat.two_pow_pos q
  unfold Zde
  refine Ya (2 ^ k) (fun i w => w = ((Zwj f q (2 ^ k)).take i, (i : Int), ())) _ rfl ?_ ?_
  · rintro i _ hi rfl
    left
    refine ⟨_, ?_, rfl⟩
    have hle : i / 2 ^ q ≤ i := Nat.div_le_self _ _
    have hnn := Int.natCast_nonneg (i / 2 ^ q)
    have hg : ∀ x : Int, ((List.take i (Zwj f q (2 ^ k))).length + [x].length) * 8 ≤ 140737488355328 := fun x => by
      rw [List.length_take, Zlb]; simp only [List.length_cons, List.length_nil]; omega
    simp only [ZaM, hf, show (i : Int) < ((2 ^ k : Nat) : Int) from by omega, if_true, ZBc, Xj (show i ≤ 1048576 by omega)]
    rw [Zh (by omega), XG (n := ((i / 2 ^ q : Nat) : Int)) (by omega) (by omega), Zx1, Zo, ZtA (show i < f.length by omega), Bq, Bq, Yp (Zs6 f q hi)]
    have hbit : i / 2 ^ q % 2 = Qv i q := rfl
    rw [hbit]
    by_cases c : Qv i q = 1
    · have hle2 := Zyn c
      rw [if_pos (by omega), show ((i : Int) - ((2 ^ q : Nat) : Int)) = ((i - 2 ^ q : Nat) : Int) by omega, XG (by omega) (by omega), Zo, ZtA (show i - 2 ^ q < f.length by omega), Bq]
      by_cases d : fv f i = fv f (i - 2 ^ q)
      · rw [if_pos d, Zh (hg _), if_neg (fun z => (ZAZ c).1 z d)]
      · rw [if_neg d, Zh (hg _), if_pos ((ZAZ c).2 d)]
    · have c0 : Qv i q = 0 := by have := Zq4 i q; omega
      have hrl := Zww hq hi c0
      rw [if_neg (by omega), show ((i : Int) + ((2 ^ q : Nat) : Int)) = ((i + 2 ^ q : Nat) : Int) by omega, XG (by omega) (by omega), Zo, ZtA (show i + 2 ^ q < f.length by omega), Bq]
      by_cases d : fv f i = fv f (i + 2 ^ q)
      · rw [if_pos d, Zh (hg _), if_neg (fun z => (ZAY c).1 z d)]
      · rw [if_neg d, Zh (hg _), if_pos ((ZAY c).2 d)]
  · rintro _ rfl
    simp only [ZaM, hf, Int.lt_irrefl, if_false]
    rw [List.take_of_length_le (by rw [Zlb]; omega)]
theorem ZtP {b : Ze} (h : Va b) {list : List Zg} (ha : Zct b list) {sup : List Int} (hk : sup.length ≤ 8) (hin : ∀ x ∈ sup, x ∈ srcs b) (f : List Int) (q : Nat) :
    ZfW b list sup (Zwj f q (2 ^ sup.length)) = some (sumTo (fun i => if chg f q i then wOf (fsL b list sup) i else 0) (2 ^ sup.length)) := by
  have hfs := ZkF ha hin
  have hp := ZuW hk
  have hbd : ∀ k, 0 ≤ sumTo (fun i => if chg f q i then wOf (fsL b list sup) i else 0) k ∧ sumTo (fun i => if chg f q i then wOf (fsL b list sup) i else 0) k ≤ (k : Int) * 100000000 := fun k => by
    refine Zlo fun i hi => ?_
    have h1 := ZuN hfs i
    have h2 := ZvK (show (fsL b list sup).length ≤ 8 by rw [Zg6]; exact hk)
    split <;> omega
  unfold ZfW
  refine Ya (2 ^ sup.length) (fun k w => w = (sumTo (fun i => if chg f q i then wOf (fsL b list sup) i else 0) k, (k : Int), ())) _ rfl ?_ ?_
  · rintro i _ hi rfl
    left
    refine ⟨_, ?_, rfl⟩
    have hb2 := hbd (i + 1)
    have hsuc : sumTo (fun i => if chg f q i then wOf (fsL b list sup) i else 0) (i + 1) = sumTo (fun i => if chg f q i then wOf (fsL b list sup) i else 0) i + (if chg f q i then wOf (fsL b list sup) i else 0) := rfl
    simp only [ZcT, Zlb, show (i : Int) < ((2 ^ sup.length : Nat) : Int) from by omega, if_true, Zo, Zs6 f q hi, Bq, Xj (show i ≤ 1048576 by omega)]
    by_cases c : chg f q i
    · rw [if_pos c, if_pos rfl, Zpw h ha hk hin (by omega), Bq, hsuc, if_pos c]
      rw [hsuc, if_pos c] at hb2
      rw [XG (by omega) (by omega)]
    · rw [if_neg c, if_neg (by omega), hsuc, if_neg c, Int.add_zero]
  · rintro _ rfl
    simp only [ZcT, Zlb, Int.lt_irrefl, if_false]
theorem Zxs {b : Ze} {list : List Zg} {sup : List Int} {f : List Int} {q : Nat} {x : Int} (hx : sup[q]? = some x) :
    sumTo (fun i => if chg f q i then wOf (fsL b list sup) i else 0) (2 ^ sup.length) = ZqJ (fsL b list sup) f q (2 ^ sup.length) * (Zok (JG b list x)).2 := by
  have := Zxl (Ztz (b := b) (list := list) hx) (fv f) (chg f q) (fun i hi hb => by
    constructor
    · exact ZAY (by omega)
    · rw [ZAZ (Zsa hb), Nat.add_sub_cancel]
      exact ⟨fun z e => z e.symm, fun z e => z e.symm⟩)
  rw [Zg6] at this
  exact this
def part (b : Ze) (list : List Zg) (sup f : List Int) (p : Nat) : Int := match sup[p]? with
  | some x => ZqJ (fsL b list sup) f p (2 ^ sup.length) * (Zok (JG b list x)).2 * Zg.Zaw (JG b list x)
  | none => 0
theorem ZqD {b : Ze} {list : List Zg} (ha : Zct b list) {sup : List Int} (hk : sup.length ≤ 8) (hin : ∀ x ∈ sup, x ∈ srcs b) (f : List Int) {p : Nat} {x : Int} (hx : sup[p]? = some x) :
    part b list sup f p = ZqJ (fsL b list sup) f p (2 ^ sup.length) * (Zok (JG b list x)).2 * Zg.Zaw (JG b list x) ∧ (0 ≤ ZqJ (fsL b list sup) f p (2 ^ sup.length) * (Zok (JG b list x)).2 ∧ ZqJ (fsL b list sup) f p (2 ^ sup.length) * (Zok (JG b list x)).2 ≤ 256000000000) ∧
      0 ≤ part b list sup f p ∧ part b list sup f p ≤ 256000000000000 := by
  have hfs := ZkF ha hin
  have hp := ZuW hk
  have h1 := Zun hfs (by rw [Zg6]; exact hk) f p (2 ^ sup.length)
  have h2 := hfs _ (List.mem_of_getElem? (Ztz (b := b) (list := list) hx))
  obtain ⟨_, _, _, h3, _⟩ := Zla ha (hin x (List.mem_of_getElem? hx))
  have h4 := h3.2.2
  have e : part b list sup f p = ZqJ (fsL b list sup) f p (2 ^ sup.length) * (Zok (JG b list x)).2 * Zg.Zaw (JG b list x) := by
    unfold part
    rw [hx]
  have hs : ZqJ (fsL b list sup) f p (2 ^ sup.length) ≤ 25600000000 := by omega
  generalize ZqJ (fsL b list sup) f p (2 ^ sup.length) = S at h1 hs e ⊢
  have m1 : 0 ≤ S * (Zok (JG b list x)).2 := Int.mul_nonneg h1.1 (by omega)
  have m2 : S * (Zok (JG b list x)).2 ≤ 25600000000 * 10 := Int.mul_le_mul hs h2.2.2.2 (by omega) (by omega)
  have m3 : 0 ≤ S * (Zok (JG b list x)).2 * Zg.Zaw (JG b list x) := Int.mul_nonneg m1 h4.1
  have m4 : S * (Zok (JG b list x)).2 * Zg.Zaw (JG b list x) ≤ 25600000000 * 10 * 1000 := Int.mul_le_mul m2 h4.2 h4.1 (by omega)
  refine ⟨e, ⟨m1, by omega⟩, by rw [e]; exact m3, by rw [e]; omega⟩
noncomputable def ZwS (b : Ze) (list : List Zg) (v : Nat) : Option Int :=
  ZcP (sumTo (part b list (Zdg (Yc b) (ins b) v) (fnL b (Zdg (Yc b) (ins b) v) v)) (Zdg (Yc b) (ins b) v).length) (Z7 (fsL b list (Zdg (Yc b) (ins b) v))) 1
theorem Ztm (a c : Int) : Zfy a c 1 = ZcP a c 1 := by
  unfold Zfy ZcP
  by_cases h : Int.tmod a c < 0
  · simp [h]
  · simp [h]
theorem ZlA {b : Ze} {list : List Zg} (ha : Zct b list) {v : Nat} (hin : ∀ x ∈ Zdg (Yc b) (ins b) v, x ∈ srcs b) : ∃ d, ZwS b list v = some d := by
  have := Zth (ZkF ha hin)
  unfold ZwS ZcP
  rw [Zh (by omega)]
  split
  · split
    · exact ⟨_, rfl⟩
    · split
      · split <;> exact ⟨_, rfl⟩
      · exact ⟨_, rfl⟩
  · split
    · split <;> exact ⟨_, rfl⟩
    · exact ⟨_, rfl⟩
theorem ZrS {b : Ze} {list : List Zg} (ha : Zct b list) {sup : List Int} (hk : sup.length ≤ 8) (hin : ∀ x ∈ sup, x ∈ srcs b) (f : List Int) : ∀ k, k ≤ sup.length → 0 ≤ sumTo (part b list sup f) k ∧ sumTo (part b list sup f) k ≤ (k : Int) * 256000000000000 := fun k hkl => by
  refine Zlo fun i hi => ?_
  have hx : sup[i]? = some (sup[i]'(by omega)) := List.getElem?_eq_getElem _
  exact (ZqD ha hk hin f hx).2.2
theorem ZlQ {b : Ze} {s : List Bool × List Int} (h : Lgc b s) {list : List Zg} (ha : Zct b list) {v : Nat} (hv : v < Yc b) :
    (8 < (Zdg (Yc b) (ins b) v).length → Qx (chn b s list) (v : Int) = some (0, false)) ∧ ((Zdg (Yc b) (ins b) v).length ≤ 8 → ∀ d, ZwS b list v = some d → Qx (chn b s list) (v : Int) = some (d, true)) := by
  have hin : ∀ x ∈ Zdg (Yc b) (ins b) v, x ∈ srcs b := fun x hx => ZiQ h.blk hv hx
  have ef := ZkR h hv
  unfold Qx
  rw [show YI.logic (chn b s list) = (b, gates b, s.2, ()) from rfl]
  constructor
  · intro q
    rw [if_pos q] at ef
    rw [ef]
    rfl
  · intro q d hd
    rw [if_neg (by omega)] at ef
    rw [ef, Bq]
    simp only [if_true]
    unfold ZwS at hd
    have hlen := ZjU b (Zdg (Yc b) (ins b) v) v
    generalize hsup : Zdg (Yc b) (ins b) v = sup at hin q hd hlen
    generalize fnL b sup v = f at hd hlen
    refine YO (l := sup) (fun k => (sumTo (part b list sup f) k, (k : Int), ())) (fun p x hx hp => ?_) ?_
    · have e : ZgK (Ty.int IntKind.i64) Zy (YI.of (chn b s list)) x = some (JG b list x) := Zn9 ha (hin x (List.mem_of_getElem? hx))
      obtain ⟨p1, p2, p3, p4⟩ := ZqD ha q hin f hx
      have hb2 := ZrS ha q hin f (p + 1) (by omega)
      have hsuc : sumTo (part b list sup f) (p + 1) = sumTo (part b list sup f) p + part b list sup f p := rfl
      rw [hsuc] at hb2
      simp only [Q8, show (p : Int) < (sup.length : Int) from by omega, if_true, Zo, hx, Bq, e, Option.getD_some, Zio ha q hin hlen hp, Xj (show p ≤ 1048576 by omega)]
      show some (Sum.inl (Wq (_ + Wq (Wq (_ * (Zok (JG b list x)).2) * _)), _)) = _
      rw [XG (n := ZqJ (fsL b list sup) f p (2 ^ sup.length) * (Zok (JG b list x)).2) (by omega) (by omega), ← p1, XG (n := part b list sup f p) (by omega) (by omega), XG (by omega) (by omega), hsuc]
    · simp only [Q8, Int.lt_irrefl, if_false, Zin ha q hin, Bq, Ztm, hd]
theorem Zow {b : Ze} {s : List Bool × List Int} (h : Lgc b s) {list : List Zg} (ha : Zct b list) {v : Nat} (hv : v < Yc b) (hk : (Zdg (Yc b) (ins b) v).length ≤ 8) : Zcr b list (v : Int) = ZwS b list v := by
  have hin : ∀ x ∈ Zdg (Yc b) (ins b) v, x ∈ srcs b := fun x hx => ZiQ h.blk hv hx
  obtain ⟨d, hd⟩ := ZlA ha hin
  rw [hd]
  unfold Zcr
  rw [ZfC h hv, Bq, Znd h hv hk, Bq]
  unfold ZwS at hd
  have hlen := ZjU b (Zdg (Yc b) (ins b) v) v
  generalize hsup : Zdg (Yc b) (ins b) v = sup at hin hk hd hlen
  generalize fnL b sup v = f at hd hlen
  refine YO (l := sup) (fun k => (sumTo (part b list sup f) k, (k : Int), ())) (fun p x hx hp => ?_) ?_
  · have e := Zlg h.blk ha (hin x (List.mem_of_getElem? hx))
    obtain ⟨p1, p2, p3, p4⟩ := ZqD ha hk hin f hx
    have hb2 := ZrS ha hk hin f (p + 1) (by omega)
    have hsuc : sumTo (part b list sup f) (p + 1) = sumTo (part b list sup f) p + part b list sup f p := rfl
    rw [hsuc] at hb2
    have hbit : ZfU (p : Int) = some ((2 ^ p : Nat) : Int) := by
      unfold ZfU
      rw [Zj3 (by omega)]
      rfl
    simp only [J8, show (p : Int) < (sup.length : Int) from by omega, if_true, hbit, Bq, Zpv hk hlen hp, Zo, hx, ZtP h.blk ha hk hin f p, e, Zxs hx, ← p1, Xj (show p ≤ 1048576 by omega)]
    rw [XG (n := part b list sup f p) (by omega) (by omega), XG (by omega) (by omega), hsuc]
  · simp only [J8, Int.lt_irrefl, if_false, Zox h.blk ha hk hin, Bq, hd]
/-
  Plain laws: the loads of a net, in program and reference.
-/
theorem Zsr {b : Ze} (h : Va b) {v : Nat} {w : ZJ} (hw : (Ze.QZ b)[v]? = some w) : Zco b (v : Int) = YT b (v : Int) := by
  have hf := h.ok.1.few
  unfold Zco YT
  rw [Zo, hw, Bq, Bq, show Zho (ZJ.Cap w) = Qe (ZJ.Cap w) from rfl, Zat _ hf, Vf _ hf, Zgb _ _ hf, ZdC _ _ hf]
  refine congrArg (Option.bind _) ?_
  funext l
  rw [Bq, Bq, Bq, Bq]
  refine congrArg (fun f => Zn f _) ?_
  funext u
  obtain ⟨i, l, ⟨⟩⟩ := u
  simp only [Zel, X0]
  split
  · cases atI (Zhm (Ze.Design b) (v : Int)) i with
    | none =>
      cases atI (ZJ.Zkx w) i with
      | none => rfl
      | some z =>
        simp only [Bq, Option.bind_none]
        cases atI l z <;> rfl
    | some y =>
      cases atI (ZJ.Zkx w) i with
      | none => rfl
      | some z =>
        simp only [Bq]
        cases atI l z with
        | none => rfl
        | some q => rfl
  · rfl
/-
  Plain laws: loads, rates, powers of nets.
-/
noncomputable def Zvx (b : Ze) (v : Nat) : Int := match YT b (v : Int) with
  | some r => (r[0]?).getD 0
  | none => 0
theorem ZtU {b : Ze} (h : Va b) {v : Nat} (hv : v < Yc b) : ∃ r, YT b (v : Int) = some r ∧ Zco b (v : Int) = some r ∧ atI r 0 = some (Zvx b v) := by
  have hwl : (Ze.QZ b).length = Yc b := h.ok.2.1
  have hw : (Ze.QZ b)[v]? = some ((Ze.QZ b)[v]'(by omega)) := List.getElem?_eq_getElem _
  obtain ⟨r, e, hl⟩ := ZoG h hw
  have h1 := (h.ok.2.2 v _ hw).1.1
  refine ⟨r, e, by rw [Zsr h hw, e], ?_⟩
  unfold Zvx
  rw [e]
  simp only
  show atI r ((0 : Nat) : Int) = _
  rw [Zo, List.getElem?_eq_getElem (by omega)]
  rfl
theorem Zr7 {b : Ze} (h : Va b) {v : Nat} (hv : v < Yc b) : ZeQ b (v : Int) = some (Zvx b v, 0) := by
  have hn := Qt h
  have hwl : (Ze.QZ b).length = Yc b := h.ok.2.1
  obtain ⟨r, _, e, e2⟩ := ZtU h hv
  unfold ZeQ Zhp
  rw [Zej b h.sm, Bq, if_pos (Yt h.ok), hwl, XG (by omega) (by omega), Vx, Bq, if_pos (Yt ⟨by omega, by omega⟩), Bq, if_pos rfl, e, Bq, e2]
  rfl
noncomputable def ZoK (b : Ze) (list : List Zg) (v : Nat) : Int := if 8 < (Zdg (Yc b) (ins b) v).length then Zwh b list (Zdg (Yc b) (ins b) v) else (ZwS b list v).getD 0
noncomputable def Zxf (b : Ze) (list : List Zg) (v : Nat) : Int := Wq (ZoK b list v * Zvx b v)
theorem Zso {b : Ze} {s : List Bool × List Int} (h : Lgc b s) {list : List Zg} (ha : Zct b list) {v : Nat} (hv : v < Yc b) : ZeU b list (v : Int) = some (ZoK b list v) := by
  unfold ZeU ZoK
  rw [ZfC h hv, Bq]
  by_cases q : 8 < (Zdg (Yc b) (ins b) v).length
  · rw [if_pos (by omega), if_pos q, ZoS h ha hv]
    rfl
  · obtain ⟨d, hd⟩ := ZlA ha (v := v) (fun x hx => ZiQ h.blk hv hx)
    rw [if_neg (by omega), if_neg q, Zow h ha hv (by omega), hd]
    rfl
theorem ZtQ {b : Ze} {s : List Bool × List Int} (h : Lgc b s) {list : List Zg} (ha : Zct b list) {v : Nat} (hv : v < Yc b) : ZfX b list (v : Int) = some (Zxf b list v) := by
  unfold ZfX
  rw [Zr7 h.blk hv, Bq, Zso h ha hv]
  rfl
noncomputable def ZkI (b : Ze) (list : List Zg) : List Int := (List.range (Yc b)).map (ZoK b list)
noncomputable def ZpH (b : Ze) (list : List Zg) : List Int := (List.range (Yc b)).map (Zxf b list)
theorem ZnU (b : Ze) (list : List Zg) : (ZkI b list).length = Yc b := by simp [ZkI]
theorem Zjz (b : Ze) (list : List Zg) : (ZpH b list).length = Yc b := by simp [ZpH]
theorem Zuh (b : Ze) (list : List Zg) {v : Nat} (hv : v < Yc b) : (ZkI b list)[v]? = some (ZoK b list v) := by
  unfold ZkI
  rw [List.getElem?_map, List.getElem?_range hv]
  rfl
theorem ZrU (b : Ze) (list : List Zg) {v : Nat} (hv : v < Yc b) : (ZpH b list)[v]? = some (Zxf b list v) := by
  unfold ZpH
  rw [List.getElem?_map, List.getElem?_range hv]
  rfl
theorem ZyM {α : Type} {l : List α} {i : Nat} {x : α} (h : l[i]? = some x) : l.set i x = l := by
  apply List.ext_getElem?
  intro w
  rw [List.getElem?_set]
  split
  · rename_i e; subst e; rw [if_pos (List.getElem?_eq_some_iff.1 h).1, h]
  · rfl
theorem Zue {b : Ze} {s : List Bool × List Int} (h : Lgc b s) {list : List Zg} (ha : Zct b list) : V8 (chn b s list) = some (ZkI b list, ZpH b list) := by
  have hn := Qt h.blk
  obtain ⟨out, e, ho, ho2⟩ := ZmP h
  unfold V8
  rw [show YI.logic (chn b s list) = (b, gates b, s.2, ()) from rfl, e, Bq]
  refine Ya (Yc b) (fun k w => w = ((ZkI b list).take k, (ZpH b list).take k, (k : Int), out, ())) _ rfl ?_ ?_
  · rintro v _ hv rfl
    left
    refine ⟨_, ?_, rfl⟩
    have hin : ∀ x ∈ Zdg (Yc b) (ins b) v, x ∈ srcs b := fun x hx => ZiQ h.blk hv hx
    obtain ⟨d1, d2⟩ := ZlQ h ha hv
    obtain ⟨r, l1, _, l3⟩ := ZtU h.blk hv
    have g1 : ∀ x : Int, ((List.take v (ZkI b list)).length + [x].length) * 8 ≤ 140737488355328 := fun x => by
      rw [List.length_take, ZnU]; simp only [List.length_cons, List.length_nil]; omega
    have g2 : ∀ x : Int, ((List.take v (ZpH b list)).length + [x].length) * 8 ≤ 140737488355328 := fun x => by
      rw [List.length_take, Zjz]; simp only [List.length_cons, List.length_nil]; omega
    have hblk : YA.Block (YI.logic (chn b s list)) = b := rfl
    simp only [Vo, ho, show (v : Int) < (Yc b : Int) from by omega, if_true, Zo, ho2 v hv, Bq, Int.toNat_natCast, ZyM (ho2 v hv), Xj (show v ≤ 1048576 by omega), hblk, l1, l3]
    rw [Yp (Zuh b list hv), Yp (ZrU b list hv)]
    by_cases q : 8 < (Zdg (Yc b) (ins b) v).length
    · have hr : ZoK b list v = Zwh b list (Zdg (Yc b) (ins b) v) := by unfold ZoK; rw [if_pos q]
      rw [d1 q, Bq, if_neg (by decide), Zoo ha (by have := Zlq (Yc b) (ins b) v; omega) hin, Bq, Zh (g1 _), Zh (g2 _)]
      unfold Zxf
      rw [hr]
    · obtain ⟨d, hd⟩ := ZlA ha hin
      have hr : ZoK b list v = d := by unfold ZoK; rw [if_neg q, hd]; rfl
      rw [d2 (by omega) d hd, Bq, if_pos rfl, Zh (g1 _), Zh (g2 _)]
      unfold Zxf
      rw [hr]
  · rintro _ rfl
    simp only [Vo, ho, Int.lt_irrefl, if_false]
    rw [List.take_of_length_le (by rw [ZnU]; omega), List.take_of_length_le (by rw [Zjz]; omega)]
/-
  Plain laws: codes and chances, without a net.
-/
/-
  Plain laws: the hottest nets.
-/
noncomputable def shr (b : Ze) (list : List Zg) (v : Nat) : NS := ((v : Int), Zxf b list v, ())
noncomputable def ZqM (b : Ze) (list : List Zg) (n : Nat) : List NS := (List.range n).map (shr b list)
theorem ZhF (b : Ze) (list : List Zg) (n : Nat) : (ZqM b list n).length = n := by simp [ZqM]
theorem Zxp (b : Ze) (list : List Zg) {n v : Nat} (hv : v < n) : (ZqM b list n)[v]? = some (shr b list v) := by
  unfold ZqM
  rw [List.getElem?_map, List.getElem?_range hv]
  rfl
theorem ZpM (b : Ze) (list : List Zg) (n : Nat) : ZqM b list (n + 1) = ZqM b list n ++ [shr b list n] := by
  unfold ZqM
  rw [List.range_succ, List.map_append]
  rfl
theorem ZrZ (b : Ze) (list : List Zg) (n : Nat) : Idx 0 (ZqM b list n) := fun k x hk => by
  have hkn := (List.getElem?_eq_some_iff.1 hk).1
  rw [ZhF] at hkn
  rw [Zxp b list hkn] at hk
  injection hk with hk
  subst hk
  show (k : Int) = _
  omega
theorem ZwQ {α : Type} (l : List α) {c : Int} (h0 : 0 ≤ c) (h1 : c ≤ 30) : List.take (Int.toNat (Min.min c (l.length : Int)) - Int.toNat (0 : Int)) (List.drop (Int.toNat (0 : Int)) l) = l.take c.toNat := by
  show List.take (Int.toNat (Min.min c (l.length : Int)) - 0) l = _
  rw [Nat.sub_zero]
  by_cases q : c ≤ (l.length : Int)
  · rw [show Min.min c (l.length : Int) = c by omega]
  · rw [show Min.min c (l.length : Int) = (l.length : Int) by omega, Int.toNat_natCast, List.take_length, List.take_of_length_le (by omega)]
theorem Zvl (b : Ze) (list : List Zg) (count : Int) (hc : 0 ≤ count ∧ count ≤ 30) (hn : Yc b ≤ 30) :
    ∃ L : List NS, Zn (fun v => QV count (ZkI b list, ZpH b list) v.1 v.2.1) (([] : List Zj), (0 : Int), ()) = some (L.take count.toNat, 0) ∧ L.Perm (ZqM b list (Yc b)) ∧ L.Pairwise RS := by
  obtain ⟨L, h1, h2, h3⟩ := Zuu (ZqM b list (Yc b)) (by rw [ZhF]; omega) (ZrZ b list _)
  refine ⟨L, ?_, h2, h3⟩
  refine Ya (Yc b) (fun k v => v.1 = ZqM b list k ∧ v.2.1 = (k : Int)) _ ⟨rfl, rfl⟩ ?_ ?_
  · rintro k ⟨out, i, ⟨⟩⟩ hk ⟨ho, hi⟩
    simp only at ho hi
    subst ho; subst hi
    left
    refine ⟨(ZqM b list (k + 1), ((k + 1 : Nat) : Int), ()), ?_, rfl, rfl⟩
    dsimp only
    unfold QV
    rw [if_pos (by dsimp only; rw [Zjz]; omega), Zo, ZrU b list hk, Bq, Zh (by rw [ZhF]; simp; omega), XG (by omega) (by omega), ZpM]
    rfl
  · rintro ⟨out, i, ⟨⟩⟩ ⟨ho, hi⟩
    simp only at ho hi
    subst ho; subst hi
    dsimp only
    unfold QV
    have hl : L.length = Yc b := by rw [h2.length_eq, ZhF]
    have e : Vq L = some (L.length : Int) := rfl
    rw [if_neg (by dsimp only; rw [Zjz]; omega), h1, Bq, e, Bq, Zh (by omega), Zh (by omega), ZwQ L hc.1 hc.2]
theorem ZwZ (out : List NS) (k : Nat) (p : Int) (hl : out.length ≤ 30) (hk : k ≤ 30) (hs : out.Pairwise RS) (hN : ∀ q ∈ out, Zj.Net q < (k : Int)) :
    ∃ w, Zn (fun v => QX out (k : Int) p v.1) ((out.length : Int), ()) = some (.inl (w, ((k + 1 : Nat) : Int), ())) ∧ w.Perm (out ++ [((k : Int), p, ())]) ∧ w.Pairwise RS := by
  have key := VR (step := fun v => QX out (k : Int) p v.1)
    (fun v => ∃ u1 u2, out = u1 ++ u2 ∧ v.1 = (u1.length : Int) ∧ ∀ q, u2.head? = some q → RS ((k : Int), p, ()) q) (fun v => v.1.toNat)
    (fun r => ∃ w, r = .inl (w, ((k + 1 : Nat) : Int), ()) ∧ w.Perm (out ++ [((k : Int), p, ())]) ∧ w.Pairwise RS) (v := ((out.length : Int), ())) ⟨out, [], by simp, rfl, fun q hq => by cases hq⟩ ?_
  · obtain ⟨r, h1, w, rfl, h2, h3⟩ := key
    exact ⟨w, h1, h2, h3⟩
  rintro ⟨i, ⟨⟩⟩ ⟨u1, u2, rfl, hi, h2⟩
  simp only at hi
  subst hi
  rw [List.length_append] at hl
  dsimp only
  unfold QX
  have fin : ∀ (hl : ∀ q, u1.getLast? = some q → RS q ((k : Int), p, ())), (u1 ++ ((k : Int), p, ()) :: u2).Perm (u1 ++ u2 ++ [((k : Int), p, ())]) ∧ (u1 ++ ((k : Int), p, ()) :: u2).Pairwise RS := fun hl =>
    ⟨by rw [List.append_assoc]; exact List.Perm.append_left u1 (List.perm_append_singleton _ u2).symm, ZhB (R := RS) (fun _ _ _ a b => RS.trans a b) hs hl h2⟩
  have leaf : (Zu ((0 : Int) ≤ (u1.length : Int)) <|
      Zu ((u1.length : Int) ≤ (↑(List.length (u1 ++ u2)) : Int)) <|
      Zu ((List.length (([] : List (Int × Int × Unit))) + List.length (List.take (Int.toNat (u1.length : Int) - Int.toNat (0 : Int)) (List.drop (Int.toNat (0 : Int)) (u1 ++ u2)))) * (16 : Nat) ≤ (140737488355328 : Nat)) <|
      Zu ((List.length (([] : List (Int × Int × Unit)) ++ List.take (Int.toNat (u1.length : Int) - Int.toNat (0 : Int)) (List.drop (Int.toNat (0 : Int)) (u1 ++ u2))) + List.length [((k : Int), p, ())]) * (16 : Nat) ≤ (140737488355328 : Nat)) <|
      Zu ((↑(List.length (u1 ++ u2)) : Int) ≤ (↑(List.length (u1 ++ u2)) : Int)) <|
      Zu ((List.length (([] : List (Int × Int × Unit)) ++ List.take (Int.toNat (u1.length : Int) - Int.toNat (0 : Int)) (List.drop (Int.toNat (0 : Int)) (u1 ++ u2)) ++ [((k : Int), p, ())]) + List.length (List.take (Int.toNat (↑(List.length (u1 ++ u2)) : Int) - Int.toNat (u1.length : Int)) (List.drop (Int.toNat (u1.length : Int)) (u1 ++ u2)))) * (16 : Nat) ≤ (140737488355328 : Nat)) <|
      (some (.inr (.inl (([] : List (Int × Int × Unit)) ++ List.take (Int.toNat (u1.length : Int) - Int.toNat (0 : Int)) (List.drop (Int.toNat (0 : Int)) (u1 ++ u2)) ++ [((k : Int), p, ())] ++ List.take (Int.toNat (↑(List.length (u1 ++ u2)) : Int) - Int.toNat (u1.length : Int)) (List.drop (Int.toNat (u1.length : Int)) (u1 ++ u2)), Wq ((k : Int) + (1 : Int)), ()))) : Option ((Int × Unit) ⊕ (((List Zj) × Int × Unit) ⊕ ((List Zj) × Int))))) =
      some (.inr (.inl (u1 ++ ((k : Int), p, ()) :: u2, ((k + 1 : Nat) : Int), ()))) := by
    have e1 : List.take (Int.toNat (u1.length : Int) - Int.toNat (0 : Int)) (List.drop (Int.toNat (0 : Int)) (u1 ++ u2)) = u1 := by
      show List.take (Int.toNat (u1.length : Int) - 0) (u1 ++ u2) = u1
      simp
    have e2 : List.take (Int.toNat (↑(List.length (u1 ++ u2)) : Int) - Int.toNat (u1.length : Int)) (List.drop (Int.toNat (u1.length : Int)) (u1 ++ u2)) = u2 := by
      show List.take ((u1 ++ u2).length - u1.length) (List.drop u1.length (u1 ++ u2)) = u2
      simp
    rw [e1, e2, Zh (by omega), Zh (by rw [List.length_append]; omega), Zh (by simp; omega), Zh (by simp; omega), Zh (by omega), Zh (by simp; omega), XG (by omega) (by omega)]
    simp
  by_cases c : 0 < u1.length
  · obtain ⟨u1, q, rfl⟩ := ZqN c
    rw [List.length_append, List.length_singleton] at hl
    have w1 : Wq ((((u1 ++ [q]).length : Nat) : Int) - 1) = (u1.length : Int) := by rw [List.length_append, List.length_singleton, XG (by omega) (by omega)]; omega
    have hNq : Zj.Net q < (k : Int) := hN q (by simp)
    rw [if_pos (by simp only [List.length_append, List.length_singleton]; omega), w1, Zo, show (u1 ++ [q] ++ u2)[u1.length]? = some q by rw [List.append_assoc]; exact Ze8 u1 q u2 rfl, Bq]
    by_cases c2 : Zj.Power q < p
    · left
      rw [if_pos c2]
      refine ⟨_, rfl, ⟨u1, q :: u2, by simp, rfl, fun q' hq' => ?_⟩, ?_⟩
      · simp at hq'
        subst hq'
        exact .inl c2
      · dsimp only
        simp only [List.length_append, List.length_singleton]; omega
    · right
      rw [if_neg c2, leaf]
      refine ⟨_, rfl, _, rfl, fin fun q' hq' => ?_⟩
      simp at hq'
      subst hq'
      by_cases c3 : Zj.Power q = p
      · exact .inr ⟨c3, hNq⟩
      · exact .inl (by show p < Zj.Power q; omega)
  · right
    have e1 : u1 = [] := List.length_eq_zero_iff.1 (by omega)
    rw [if_neg (by omega), leaf]
    refine ⟨_, rfl, _, rfl, fin fun q' hq' => ?_⟩
    rw [e1] at hq'
    cases hq'
theorem Zvm {b : Ze} {s : List Bool × List Int} (h : Lgc b s) {list : List Zg} (ha : Zct b list) (count : Int) (hc : 0 ≤ count ∧ count ≤ 30) :
    ∃ L : List NS, Zn (fun v => X5 b list count v.1 v.2.1) (([] : List (Int × Int × Unit)), (0 : Int), ()) = some (L.take count.toNat, 0) ∧ L.Perm (ZqM b list (Yc b)) ∧ L.Pairwise RS := by
  have hn := Qt h.blk
  have key := Xa (step := fun v => X5 b list count v.1 v.2.1) (Yc b) (fun k v => v.2.1 = (k : Int) ∧ v.1.Perm (ZqM b list k) ∧ v.1.Pairwise RS)
    (fun r => ∃ L : List NS, r = (L.take count.toNat, 0) ∧ L.Perm (ZqM b list (Yc b)) ∧ L.Pairwise RS) (v := (([] : List (Int × Int × Unit)), (0 : Int), ())) ⟨rfl, List.Perm.refl _, List.Pairwise.nil⟩ ?_ ?_
  · obtain ⟨r, h1, L, rfl, h2, h3⟩ := key
    exact ⟨L, h1, h2, h3⟩
  · rintro k ⟨out, i, ⟨⟩⟩ hk ⟨hi, hp, hs⟩
    simp only at hi hp hs
    subst hi
    left
    have hl := hp.length_eq
    rw [ZhF] at hl
    obtain ⟨w, h1, h2, h3⟩ := ZwZ out k (Zxf b list k) (by omega) (by omega) hs (fun q hq => by
      have := (ZrZ b list k).Zxb q (hp.mem_iff.1 hq)
      rw [ZhF] at this
      omega)
    refine ⟨(w, ((k + 1 : Nat) : Int), ()), ?_, rfl, ?_, h3⟩
    · dsimp only
      unfold X5
      rw [show (Zc.YK (Ze.Design b)).length = Yc b from rfl, if_pos (by omega), ZtQ h ha hk, Bq]
      exact h1
    · rw [ZpM]
      exact h2.trans (hp.append_right _)
  · rintro ⟨out, i, ⟨⟩⟩ ⟨hi, hp, hs⟩
    simp only at hi hp hs
    subst hi
    dsimp only
    unfold X5
    rw [show (Zc.YK (Ze.Design b)).length = Yc b from rfl, if_neg (by omega)]
    by_cases c : count < (out.length : Int)
    · rw [if_pos c, Zh hc.1, Zh (by omega)]
      refine ⟨_, rfl, out, ?_, hp, hs⟩
      show (List.take (count.toNat - 0) out, (0 : Int)) = _
      rw [Nat.sub_zero]
    · rw [if_neg c]
      exact ⟨_, rfl, out, by rw [List.take_of_length_le (by omega)], hp, hs⟩
theorem Zsi (b : Ze) (hb : sm Yz b) (list : List Zg) (hl : list.length ≤ 1048576) (count : Int) : ∃ r, ZaY b list count = some r ∧ Za9 b list count = some r ∧ r.1.length ≤ 30 := by
  unfold ZaY Za9
  rw [ZnK b hb, Bq, ZhQ b hb list hl]
  rcases Zst b hb [] (by simp) with ⟨q, e⟩ | ⟨s, hs, q, hc⟩
  · rw [e, Bq, if_neg q, if_neg q]
    exact ⟨_, rfl, rfl, by simp⟩
  · rcases hc with ⟨_, e⟩ | ⟨w, _⟩
    · rw [e, Bq, if_pos rfl, if_pos q, Jo, Vx, Bq, Bq]
      by_cases w : 0 ≤ count ∧ count ≤ 30
      · rw [if_pos (Yt w), if_pos (Yt w), Zpb hs list hl e, Bq, Bq]
        by_cases z : Zct b list
        · have hn := Qt hs.blk
          obtain ⟨L1, a1, a2, a3⟩ := Zvl b list count w hn
          obtain ⟨L2, b1, b2, b3⟩ := Zvm hs z count w
          have : L1 = L2 := ZpQ RS.asymm (a2.trans b2.symm) a3 b3
          subst this
          rw [if_pos (Yt z), if_pos (Yt ⟨q, z⟩), if_pos rfl, Bq, Zue hs z, Bq, a1, b1]
          exact ⟨_, rfl, rfl, by
            show (L1.take count.toNat).length ≤ 30
            rw [List.length_take]; omega⟩
        · rw [if_neg (fun x => z ((Xn _).1 x)), if_neg (show ¬ (5 : Int) = 0 by omega), if_neg (fun x => z ((Xn _).1 x).2)]
          exact ⟨_, rfl, rfl, by simp⟩
      · rw [if_neg (fun x => w ((Xn _).1 x)), if_neg (fun x => w ((Xn _).1 x))]
        exact ⟨_, rfl, rfl, by simp⟩
    · exact absurd (show Ze7 [] 0 ((Yc b : Int) - 1) from fun x hx => by cases hx) w
/-
  Plain laws: arguments counted, copied, compared. Printed by program (szgen.py).
-/
theorem Zjn (a : YG) (left : Int) (h0 : 0 ≤ left) (h1 : left ≤ 1048576) (hb : bnd (Zdh) a) : Szd (ZbB a left) left (sm (Zdh) a) := by
  unfold ZbB
  refine Szd.len h0 h1 (by omega) hb.1 (fun hw a0 b0 s0 => ?_)
  rw [hw]
  exact Szd.ret ⟨s0, QW _ (by rfl) _, QW _ (by rfl) _, QW _ (by rfl) _, trivial⟩
theorem Znl (a : List (YG)) (left : Int) (h0 : 0 ≤ left) (h1 : left ≤ 1048576) (hb : bnd (.sl (Zdh)) a) : Szd (ZcE a left) left (sm (.sl (Zdh)) a) := by
  unfold ZcE
  refine Szd.len h0 h1 (by omega) hb.1 (fun hw m0 m1 hn => ?_)
  rw [hw]
  exact (Szd.loop (f := fun x m => ZbB x m) (P := fun x => sm (Zdh) x) (fun x hx m m0 m1 => Zjn x m m0 m1 (hb.2 x hx)) (fun k m => rfl) m0 m1 hn).mono (fun h => ⟨hn, h⟩)
theorem Xu (a : List (Int)) (left : Int) (h0 : 0 ≤ left) (h1 : left ≤ 1048576) (hb : bnd (.sl (.int .i64)) a) : Szd (Y6 a left) left (sm (.sl (.int .i64)) a) := by
  unfold Y6
  refine Szd.len h0 h1 (by omega) hb.1 (fun hw m0 m1 hn => ?_)
  rw [hw]
  exact Szd.ret ⟨hn, fun x _ => QW (.int .i64) (by rfl) x⟩
theorem Zhg (a : ZE) (left : Int) (h0 : 0 ≤ left) (h1 : left ≤ 1048576) (hb : bnd (YV) a) : Szd (VX a left) left (sm (YV) a) := by
  unfold VX
  refine Szd.then (Xu _ _ h0 h1 hb.1) h0 h1 (fun m0 a0 b0 s0 => ?_)
  refine Szd.then (Xu _ _ a0 b0 hb.2.1) a0 b0 (fun m1 a1 b1 s1 => ?_)
  refine Szd.last (Xu _ _ a1 b1 hb.2.2.1) a1 (fun s2 => ?_)
  exact ⟨s0, s1, s2, trivial⟩
theorem Zf5 (a : List (ZE)) (left : Int) (h0 : 0 ≤ left) (h1 : left ≤ 1048576) (hb : bnd (.sl (YV)) a) : Szd (Jc a left) left (sm (.sl (YV)) a) := by
  unfold Jc
  refine Szd.len h0 h1 (by omega) hb.1 (fun hw m0 m1 hn => ?_)
  rw [hw]
  exact (Szd.loop (f := fun x m => VX x m) (P := fun x => sm (YV) x) (fun x hx m m0 m1 => Zhg x m m0 m1 (hb.2 x hx)) (fun k m => rfl) m0 m1 hn).mono (fun h => ⟨hn, h⟩)
theorem Zjk (a : ZQ) (left : Int) (h0 : 0 ≤ left) (h1 : left ≤ 1048576) (hb : bnd (ZdW) a) : Szd (Zby a left) left (sm (ZdW) a) := by
  unfold Zby
  refine Szd.then (Zf5 _ _ h0 h1 hb.2.2.2.2.1) h0 h1 (fun m0 a0 b0 s0 => ?_)
  refine Szd.last (Zf5 _ _ a0 b0 hb.2.2.2.2.2.1) a0 (fun s1 => ?_)
  exact ⟨QW _ (by rfl) _, QW _ (by rfl) _, QW _ (by rfl) _, QW _ (by rfl) _, s0, s1, trivial⟩
theorem Znj (a : List (ZQ)) (left : Int) (h0 : 0 ≤ left) (h1 : left ≤ 1048576) (hb : bnd (.sl (ZdW)) a) : Szd (ZcD a left) left (sm (.sl (ZdW)) a) := by
  unfold ZcD
  refine Szd.len h0 h1 (by omega) hb.1 (fun hw m0 m1 hn => ?_)
  rw [hw]
  exact (Szd.loop (f := fun x m => Zby x m) (P := fun x => sm (ZdW) x) (fun x hx m m0 m1 => Zjk x m m0 m1 (hb.2 x hx)) (fun k m => rfl) m0 m1 hn).mono (fun h => ⟨hn, h⟩)
theorem Zh7 (a : Zm) (left : Int) (h0 : 0 ≤ left) (h1 : left ≤ 1048576) (hb : bnd (Qk) a) : Szd (JU a left) left (sm (Qk) a) := by
  unfold JU
  refine Szd.len h0 h1 (by omega) hb.1 (fun hw a0 b0 s0 => ?_)
  rw [hw]
  refine Szd.then (Znl _ _ a0 b0 hb.2.2.1) a0 b0 (fun m1 a1 b1 s1 => ?_)
  refine Szd.then (Znj _ _ a1 b1 hb.2.2.2.1) a1 b1 (fun m2 a2 b2 s2 => ?_)
  refine Szd.last (Xu _ _ a2 b2 hb.2.2.2.2.1) a2 (fun s3 => ?_)
  exact ⟨s0, QW _ (by rfl) _, s1, s2, s3, QW _ (by rfl) _, QW _ (by rfl) _, trivial⟩
theorem Zl6 (a : List (Zm)) (left : Int) (h0 : 0 ≤ left) (h1 : left ≤ 1048576) (hb : bnd (.sl (Qk)) a) : Szd (ZbA a left) left (sm (.sl (Qk)) a) := by
  unfold ZbA
  refine Szd.len h0 h1 (by omega) hb.1 (fun hw m0 m1 hn => ?_)
  rw [hw]
  exact (Szd.loop (f := fun x m => JU x m) (P := fun x => sm (Qk) x) (fun x hx m m0 m1 => Zh7 x m m0 m1 (hb.2 x hx)) (fun k m => rfl) m0 m1 hn).mono (fun h => ⟨hn, h⟩)
theorem Zke (a : Zt) (left : Int) (h0 : 0 ≤ left) (h1 : left ≤ 1048576) (hb : bnd (YL) a) : Szd (Jt a left) left (sm (YL) a) := by
  unfold Jt
  refine Szd.last (Zl6 _ _ h0 h1 hb.1) h0 (fun s0 => ?_)
  exact ⟨s0, trivial⟩
theorem ZeF (a : Zd) (left : Int) (h0 : 0 ≤ left) (h1 : left ≤ 1048576) (hb : bnd (Yg) a) : Szd (Qj a left) left (sm (Yg) a) := by
  unfold Qj
  refine Szd.len h0 h1 (by omega) hb.1 (fun hw a0 b0 s0 => ?_)
  rw [hw]
  refine Szd.last (Xu _ _ a0 b0 hb.2.2.1) a0 (fun s1 => ?_)
  exact ⟨s0, QW _ (by rfl) _, s1, trivial⟩
theorem Ziz (a : List (Zd)) (left : Int) (h0 : 0 ≤ left) (h1 : left ≤ 1048576) (hb : bnd (.sl (Yg)) a) : Szd (Q9 a left) left (sm (.sl (Yg)) a) := by
  unfold Q9
  refine Szd.len h0 h1 (by omega) hb.1 (fun hw m0 m1 hn => ?_)
  rw [hw]
  exact (Szd.loop (f := fun x m => Qj x m) (P := fun x => sm (Yg) x) (fun x hx m m0 m1 => ZeF x m m0 m1 (hb.2 x hx)) (fun k m => rfl) m0 m1 hn).mono (fun h => ⟨hn, h⟩)
theorem Zkg (a : List (List UInt8)) (left : Int) (h0 : 0 ≤ left) (h1 : left ≤ 1048576) (hb : bnd (.sl (.str)) a) : Szd (Ju a left) left (sm (.sl (.str)) a) := by
  unfold Ju
  refine Szd.len h0 h1 (by omega) hb.1 (fun hw m0 m1 hn => ?_)
  rw [hw]
  exact (Szd.loop (f := fun x m => if Wq (m - (x.length : Int)) < 0 then some (-1) else some (Wq (m - (x.length : Int)))) (P := fun x => sm .str x) (fun x hx m m0 m1 => Szd.len m0 m1 (by omega) (hb.2 x hx) (fun hw _ _ hn => by rw [hw]; exact Szd.ret hn)) (fun k m => by
    show Qz a m (k : Int) = _
    unfold Qz
    congr 1; congr 1; funext x; split <;> simp_all) m0 m1 hn).mono (fun h => ⟨hn, h⟩)
theorem Zh8 (a : Z8) (left : Int) (h0 : 0 ≤ left) (h1 : left ≤ 1048576) (hb : bnd (VQ) a) : Szd (JV a left) left (sm (VQ) a) := by
  unfold JV
  refine Szd.len h0 h1 (by omega) hb.1 (fun hw a0 b0 s0 => ?_)
  rw [hw]
  exact Szd.ret ⟨s0, QW _ (by rfl) _, QW _ (by rfl) _, trivial⟩
theorem Zl9 (a : List (Z8)) (left : Int) (h0 : 0 ≤ left) (h1 : left ≤ 1048576) (hb : bnd (.sl (VQ)) a) : Szd (ZbC a left) left (sm (.sl (VQ)) a) := by
  unfold ZbC
  refine Szd.len h0 h1 (by omega) hb.1 (fun hw m0 m1 hn => ?_)
  rw [hw]
  exact (Szd.loop (f := fun x m => JV x m) (P := fun x => sm (VQ) x) (fun x hx m m0 m1 => Zh8 x m m0 m1 (hb.2 x hx)) (fun k m => rfl) m0 m1 hn).mono (fun h => ⟨hn, h⟩)
theorem ZkY (a : Zc) (left : Int) (h0 : 0 ≤ left) (h1 : left ≤ 1048576) (hb : bnd (YJ) a) : Szd (Zao a left) left (sm (YJ) a) := by
  unfold Zao
  refine Szd.then (Ziz _ _ h0 h1 hb.1) h0 h1 (fun m0 a0 b0 s0 => ?_)
  refine Szd.then (Zkg _ _ a0 b0 hb.2.1) a0 b0 (fun m1 a1 b1 s1 => ?_)
  refine Szd.last (Zl9 _ _ a1 b1 hb.2.2.1) a1 (fun s2 => ?_)
  exact ⟨s0, s1, s2, trivial⟩
theorem Zh9 (a : ZJ) (left : Int) (h0 : 0 ≤ left) (h1 : left ≤ 1048576) (hb : bnd (Vu) a) : Szd (JW a left) left (sm (Vu) a) := by
  unfold JW
  refine Szd.then (Xu _ _ h0 h1 hb.1) h0 h1 (fun m0 a0 b0 s0 => ?_)
  refine Szd.then (Xu _ _ a0 b0 hb.2.1) a0 b0 (fun m1 a1 b1 s1 => ?_)
  refine Szd.then (Xu _ _ a1 b1 hb.2.2.1) a1 b1 (fun m2 a2 b2 s2 => ?_)
  refine Szd.last (Xu _ _ a2 b2 hb.2.2.2.1) a2 (fun s3 => ?_)
  exact ⟨s0, s1, s2, s3, trivial⟩
theorem Zmb (a : List (ZJ)) (left : Int) (h0 : 0 ≤ left) (h1 : left ≤ 1048576) (hb : bnd (.sl (Vu)) a) : Szd (ZbD a left) left (sm (.sl (Vu)) a) := by
  unfold ZbD
  refine Szd.len h0 h1 (by omega) hb.1 (fun hw m0 m1 hn => ?_)
  rw [hw]
  exact (Szd.loop (f := fun x m => JW x m) (P := fun x => sm (Vu) x) (fun x hx m m0 m1 => Zh9 x m m0 m1 (hb.2 x hx)) (fun k m => rfl) m0 m1 hn).mono (fun h => ⟨hn, h⟩)
theorem Zl5 (a : Ze) (left : Int) (h0 : 0 ≤ left) (h1 : left ≤ 1048576) (hb : bnd (Yz) a) : Szd (Zbz a left) left (sm (Yz) a) := by
  unfold Zbz
  refine Szd.then (Zke _ _ h0 h1 hb.1) h0 h1 (fun m0 a0 b0 s0 => ?_)
  refine Szd.then (ZkY _ _ a0 b0 hb.2.1) a0 b0 (fun m1 a1 b1 s1 => ?_)
  refine Szd.last (Zmb _ _ a1 b1 hb.2.2.1) a1 (fun s2 => ?_)
  exact ⟨s0, s1, s2, trivial⟩
theorem Ziy (a : List (Zg)) (left : Int) (h0 : 0 ≤ left) (h1 : left ≤ 1048576) (hb : bnd (.sl (Zy)) a) : Szd (Za6 a left) left (sm (.sl (Zy)) a) := by
  unfold Za6
  refine Szd.len h0 h1 (by omega) hb.1 (fun hw m0 m1 hn => ?_)
  rw [hw]
  exact Szd.ret ⟨hn, fun x _ => QW (Zy) (by rfl) x⟩
theorem ZoB (a : YG) (hs : sm (Zdh) a) : Zfi a = some a := by
  unfold Zfi
  all_goals rfl
theorem Znp (a : List (YG)) (hs : sm (.sl (Zdh)) a) : ZfG a = some a := by
  unfold ZfG
  have h := hs.1
  rw [Zh (by omega), Zh (by omega), Zh (by omega), Zh (by omega)]
  exact ZaQ (f := Zfi) (fun x hx => ZoB x (hs.2 x hx)) (fun k out => rfl) h
theorem Xw (a : List (Int)) (hs : sm (.sl (.int .i64)) a) : Xv a = some a := by
  unfold Xv
  have h := hs.1
  rw [Zh (by omega), Zh (by omega), Zh (by omega), Zh (by omega)]
  exact ZaQ (f := some) (fun x _ => rfl) (fun k out => rfl) h
theorem Zmg (a : ZE) (hs : sm (YV) a) : Zdq a = some a := by
  unfold Zdq
  rw [Xw _ hs.1, Bq, Xw _ hs.2.1, Bq, Xw _ hs.2.2.1, Bq]
  all_goals rfl
theorem Zf6 (a : List (ZE)) (hs : sm (.sl (YV)) a) : Zca a = some a := by
  unfold Zca
  have h := hs.1
  rw [Zh (by omega), Zh (by omega), Zh (by omega), Zh (by omega)]
  exact ZaQ (f := Zdq) (fun x hx => Zmg x (hs.2 x hx)) (fun k out => rfl) h
theorem ZoA (a : ZQ) (hs : sm (ZdW) a) : Zfh a = some a := by
  unfold Zfh
  rw [Zf6 _ hs.2.2.2.2.1, Bq, Zf6 _ hs.2.2.2.2.2.1, Bq]
  all_goals rfl
theorem Znn (a : List (ZQ)) (hs : sm (.sl (ZdW)) a) : ZfF a = some a := by
  unfold ZfF
  have h := hs.1
  rw [Zh (by omega), Zh (by omega), Zh (by omega), Zh (by omega)]
  exact ZaQ (f := Zfh) (fun x hx => ZoA x (hs.2 x hx)) (fun k out => rfl) h
theorem Zno (a : Zm) (hs : sm (Qk) a) : Zed a = some a := by
  unfold Zed
  rw [Znp _ hs.2.2.1, Bq, Znn _ hs.2.2.2.1, Bq, Xw _ hs.2.2.2.2.1, Bq]
  all_goals rfl
theorem Zme (a : List (Zm)) (hs : sm (.sl (Qk)) a) : ZeH a = some a := by
  unfold ZeH
  have h := hs.1
  rw [Zh (by omega), Zh (by omega), Zh (by omega), Zh (by omega)]
  exact ZaQ (f := Zed) (fun x hx => Zno x (hs.2 x hx)) (fun k out => rfl) h
theorem Zki (a : Zt) (hs : sm (YL) a) : Zc6 a = some a := by
  unfold Zc6
  rw [Zme _ hs.1, Bq]
  all_goals rfl
theorem Zju (a : Zd) (hs : sm (Yg) a) : JY a = some a := by
  unfold JY
  rw [Xw _ hs.2.2.1, Bq]
  all_goals rfl
theorem ZiD (a : List (Zd)) (hs : sm (.sl (Yg)) a) : Za8 a = some a := by
  unfold Za8
  have h := hs.1
  rw [Zh (by omega), Zh (by omega), Zh (by omega), Zh (by omega)]
  exact ZaQ (f := JY) (fun x hx => Zju x (hs.2 x hx)) (fun k out => rfl) h
theorem Zkk (a : List (List UInt8)) (hs : sm (.sl (.str)) a) : Zc7 a = some a := by
  unfold Zc7
  have h := hs.1
  rw [Zh (by omega), Zh (by omega), Zh (by omega), Zh (by omega)]
  exact ZaQ (f := some) (fun x _ => rfl) (fun k out => rfl) h
theorem Znq (a : Z8) (hs : sm (VQ) a) : Zee a = some a := by
  unfold Zee
  all_goals rfl
theorem Zmf (a : List (Z8)) (hs : sm (.sl (VQ)) a) : ZeI a = some a := by
  unfold ZeI
  have h := hs.1
  rw [Zh (by omega), Zh (by omega), Zh (by omega), Zh (by omega)]
  exact ZaQ (f := Zee) (fun x hx => Znq x (hs.2 x hx)) (fun k out => rfl) h
theorem Zk2 (a : Zc) (hs : sm (YJ) a) : ZdK a = some a := by
  unfold ZdK
  rw [ZiD _ hs.1, Bq, Zkk _ hs.2.1, Bq, Zmf _ hs.2.2.1, Bq]
  all_goals rfl
theorem Znr (a : ZJ) (hs : sm (Vu) a) : Zef a = some a := by
  unfold Zef
  rw [Xw _ hs.1, Bq, Xw _ hs.2.1, Bq, Xw _ hs.2.2.1, Bq, Xw _ hs.2.2.2.1, Bq]
  all_goals rfl
theorem Zmh (a : List (ZJ)) (hs : sm (.sl (Vu)) a) : ZeJ a = some a := by
  unfold ZeJ
  have h := hs.1
  rw [Zh (by omega), Zh (by omega), Zh (by omega), Zh (by omega)]
  exact ZaQ (f := Zef) (fun x hx => Znr x (hs.2 x hx)) (fun k out => rfl) h
theorem Zmd (a : Ze) (hs : sm (Yz) a) : ZeG a = some a := by
  unfold ZeG
  rw [Zki _ hs.1, Bq, Zk2 _ hs.2.1, Bq, Zmh _ hs.2.2.1, Bq]
  all_goals rfl
theorem Zjt (a : ZH) (hs : sm (ZaU) a) : Zb9 a = some a := by
  unfold Zb9
  all_goals rfl
theorem Zjr (a : Zg) (hs : sm (Zy) a) : JX a = some a := by
  unfold JX
  rw [Zjt _ hs.1, Bq]
  all_goals rfl
theorem ZiC (a : List (Zg)) (hs : sm (.sl (Zy)) a) : Za7 a = some a := by
  unfold Za7
  have h := hs.1
  rw [Zh (by omega), Zh (by omega), Zh (by omega), Zh (by omega)]
  exact ZaQ (f := JX) (fun x hx => Zjr x (hs.2 x hx)) (fun k out => rfl) h
theorem Zjg (a : Zj) (hs : sm (Yr) a) : JN a a = some true := by
  unfold JN
  simp
theorem Ziu (a : List (Zj)) (hs : sm (.sl (Yr)) a) : Za3 a a = some true := by
  unfold Za3
  rw [if_pos rfl]
  exact Zfs (f := JN) (fun x hx => Zjg x (hs.2 x hx)) (fun k => rfl) hs.1
theorem Zoz (a : YG) (hs : sm (Zdh) a) : Zff a a = some true := by
  unfold Zff
  simp
theorem Zng (a : List (YG)) (hs : sm (.sl (Zdh)) a) : ZfE a a = some true := by
  unfold ZfE
  rw [if_pos rfl]
  exact Zfs (f := Zff) (fun x hx => Zoz x (hs.2 x hx)) (fun k => rfl) hs.1
theorem Xt (a : List (Int)) (hs : sm (.sl (.int .i64)) a) : Xr a a = some true := by
  unfold Xr
  rw [if_pos rfl]
  exact Zrg (fun k => rfl) hs.1
theorem Zl2 (a : ZE) (hs : sm (YV) a) : Zdp a a = some true := by
  unfold Zdp
  simp [Xt _ hs.1, Xt _ hs.2.1, Xt _ hs.2.2.1]
theorem Zf4 (a : List (ZE)) (hs : sm (.sl (YV)) a) : Zb5 a a = some true := by
  unfold Zb5
  rw [if_pos rfl]
  exact Zfs (f := Zdp) (fun x hx => Zl2 x (hs.2 x hx)) (fun k => rfl) hs.1
theorem Zoy (a : ZQ) (hs : sm (ZdW) a) : Zfe a a = some true := by
  unfold Zfe
  simp [Zf4 _ hs.2.2.2.2.1, Zf4 _ hs.2.2.2.2.2.1]
theorem Zne (a : List (ZQ)) (hs : sm (.sl (ZdW)) a) : ZfD a a = some true := by
  unfold ZfD
  rw [if_pos rfl]
  exact Zfs (f := Zfe) (fun x hx => Zoy x (hs.2 x hx)) (fun k => rfl) hs.1
theorem Znf (a : Zm) (hs : sm (Qk) a) : Zea a a = some true := by
  unfold Zea
  simp [Zng _ hs.2.2.1, Zne _ hs.2.2.2.1, Xt _ hs.2.2.2.2.1]
theorem Zl0 (a : List (Zm)) (hs : sm (.sl (Qk)) a) : ZeB a a = some true := by
  unfold ZeB
  rw [if_pos rfl]
  exact Zfs (f := Zea) (fun x hx => Znf x (hs.2 x hx)) (fun k => rfl) hs.1
theorem Zj5 (a : Zt) (hs : sm (YL) a) : Zc0 a a = some true := by
  unfold Zc0
  simp [Zl0 _ hs.1]
theorem Zjf (a : Zd) (hs : sm (Yg) a) : JM a a = some true := by
  unfold JM
  simp [Xt _ hs.2.2.1]
theorem Zis (a : List (Zd)) (hs : sm (.sl (Yg)) a) : Za2 a a = some true := by
  unfold Za2
  rw [if_pos rfl]
  exact Zfs (f := JM) (fun x hx => Zjf x (hs.2 x hx)) (fun k => rfl) hs.1
theorem Zj7 (a : List (List UInt8)) (hs : sm (.sl (.str)) a) : Zc1 a a = some true := by
  unfold Zc1
  rw [if_pos rfl]
  exact Zrg (fun k => rfl) hs.1
theorem Znh (a : Z8) (hs : sm (VQ) a) : Zeb a a = some true := by
  unfold Zeb
  simp
theorem Zl1 (a : List (Z8)) (hs : sm (.sl (VQ)) a) : ZeC a a = some true := by
  unfold ZeC
  rw [if_pos rfl]
  exact Zfs (f := Zeb) (fun x hx => Znh x (hs.2 x hx)) (fun k => rfl) hs.1
theorem ZkT (a : Zc) (hs : sm (YJ) a) : ZdH a a = some true := by
  unfold ZdH
  simp [Zis _ hs.1, Zj7 _ hs.2.1, Zl1 _ hs.2.2.1]
theorem Zni (a : ZJ) (hs : sm (Vu) a) : Zec a a = some true := by
  unfold Zec
  simp [Xt _ hs.1, Xt _ hs.2.1, Xt _ hs.2.2.1, Xt _ hs.2.2.2.1]
theorem Zl3 (a : List (ZJ)) (hs : sm (.sl (Vu)) a) : ZeD a a = some true := by
  unfold ZeD
  rw [if_pos rfl]
  exact Zfs (f := Zec) (fun x hx => Zni x (hs.2 x hx)) (fun k => rfl) hs.1
theorem ZlZ (a : Ze) (hs : sm (Yz) a) : ZeA a a = some true := by
  unfold ZeA
  simp [Zj5 _ hs.1, ZkT _ hs.2.1, Zl3 _ hs.2.2.1]
theorem Zje (a : ZH) (hs : sm (ZaU) a) : Zb4 a a = some true := by
  unfold Zb4
  simp
theorem Zjc (a : Zg) (hs : sm (Zy) a) : JL a a = some true := by
  unfold JL
  simp [Zje _ hs.1]
theorem Zir (a : List (Zg)) (hs : sm (.sl (Zy)) a) : Za1 a a = some true := by
  unfold Za1
  rw [if_pos rfl]
  exact Zfs (f := JL) (fun x hx => Zjc x (hs.2 x hx)) (fun k => rfl) hs.1
/-
  Plain laws: all lengths together; marks. Printed by program (totgen.py).
-/
theorem ZvD {α : Type} {L : List α} {j : Nat} {z : α} {A A' B B' : Int} (hA : A = A') (hB : B = B') : ∃ y, (some (.inl (A, B, List.set L j z, ())) : Option ((Int × Int × List α × Unit) ⊕ (Int × List α))) = some (.inl (A', B', List.set L j y, ())) := ⟨z, by rw [hA, hB]⟩
theorem Zeg (k : Int) (h0 : 0 ≤ k) (h1 : k ≤ 4611686018427387904) : ∃ s, Vj k = some s := by
  unfold Vj
  split
  · exact ⟨_, rfl⟩
  · obtain ⟨r, h, _⟩ := VR (step := fun v => Zbk v.1 v.2.1) (fun v : Int × List UInt8 × Unit => 0 ≤ v.1 ∧ v.1 + (v.2.1.length : Int) ≤ 4611686018427387904) (fun v => v.1.toNat) (fun _ => True) (v := (k, ([] : List UInt8), ())) ⟨h0, by simpa using h1⟩
      (by
        rintro ⟨m, s, ⟨⟩⟩ ⟨a, b⟩
        simp only at a b
        simp only [Zbk]
        by_cases hm : 0 < m
        · have e1 : Int.tdiv m 10 = m / 10 := Int.tdiv_eq_ediv_of_nonneg a
          rw [if_pos hm, e1, XG (n := m / 10) (by omega) (by omega), Zh (by simp only [bytesOf, List.length_map, List.length_singleton]; omega)]
          refine .inl ⟨_, rfl, ⟨by simp only; omega, ?_⟩, by simp only; omega⟩
          simp only [List.length_append, bytesOf, List.length_map, List.length_singleton]
          omega
        · rw [if_neg hm, Zh (by simp only [List.length_singleton]; omega)]
          exact .inr ⟨_, rfl, trivial⟩)
    exact ⟨r, h⟩
theorem Znm (a : YG) (left : Int) (h0 : 0 ≤ left) (h1 : left ≤ 1048576) (hb : bnd (Zdh) a) : Szt (ZbB a left) left (tot (Zdh) a) := by
  unfold ZbB
  exact (Szt.len h0 h1 (by omega) hb.1 (fun hw0 a0 b0 => by rw [hw0]; exact Szt.ret)).mono (by simp only [Zdj, Ze4, Zdi, Zdk, Zem]; omega)
theorem Zl8 (a : List (YG)) (left : Int) (h0 : 0 ≤ left) (h1 : left ≤ 1048576) (hb : bnd (.sl (Zdh)) a) : Szt (ZcE a left) left (tot (.sl (Zdh)) a) := by
  unfold ZcE
  refine (Szt.len h0 h1 (by omega) hb.1 (fun hw m0 m1 => (?_ : Szt _ _ ((a.map (tot (Zdh))).sum)))).mono (by rw [ZjK]; omega)
  rw [hw]
  exact Szt.loop (f := fun x m => ZbB x m) (P := fun x => sm (Zdh) x) (T := tot (Zdh)) (fun x hx m m0 m1 => Zjn x m m0 m1 (hb.2 x hx)) (fun x hx m m0 m1 => Znm x m m0 m1 (hb.2 x hx)) (fun k m => rfl) m0 m1 (by omega)
theorem Xd (a : List (Int)) (left : Int) (h0 : 0 ≤ left) (h1 : left ≤ 1048576) (hb : bnd (.sl (.int .i64)) a) : Szt (Y6 a left) left (tot (.sl (.int .i64)) a) := by
  unfold Y6
  refine (Szt.len h0 h1 (by omega) hb.1 (fun hw m0 m1 => (?_ : Szt _ _ ((a.map (tot (.int .i64))).sum)))).mono (by rw [ZjK]; omega)
  rw [hw]
  exact Szt.ret.mono (by rw [ZuA (by rfl)]; omega)
theorem Zk0 (a : ZE) (left : Int) (h0 : 0 ≤ left) (h1 : left ≤ 1048576) (hb : bnd (YV) a) : Szt (VX a left) left (tot (YV) a) := by
  unfold VX
  exact (Szt.then (Xd a.1 _ h0 h1 hb.1) h0 h1 (fun m0 a0 b0 => Szt.then (Xd a.2.1 _ a0 b0 hb.2.1) a0 b0 (fun m1 a1 b1 => Szt.last (Xd a.2.2.1 _ a1 b1 hb.2.2.1)))).mono (by simp only [Zdj, Ze4, Zdi, Zdk, Zem]; omega)
theorem Zfg (a : List (ZE)) (left : Int) (h0 : 0 ≤ left) (h1 : left ≤ 1048576) (hb : bnd (.sl (YV)) a) : Szt (Jc a left) left (tot (.sl (YV)) a) := by
  unfold Jc
  refine (Szt.len h0 h1 (by omega) hb.1 (fun hw m0 m1 => (?_ : Szt _ _ ((a.map (tot (YV))).sum)))).mono (by rw [ZjK]; omega)
  rw [hw]
  exact Szt.loop (f := fun x m => VX x m) (P := fun x => sm (YV) x) (T := tot (YV)) (fun x hx m m0 m1 => Zhg x m m0 m1 (hb.2 x hx)) (fun x hx m m0 m1 => Zk0 x m m0 m1 (hb.2 x hx)) (fun k m => rfl) m0 m1 (by omega)
theorem Znk (a : ZQ) (left : Int) (h0 : 0 ≤ left) (h1 : left ≤ 1048576) (hb : bnd (ZdW) a) : Szt (Zby a left) left (tot (ZdW) a) := by
  unfold Zby
  exact (Szt.then (Zfg a.2.2.2.2.1 _ h0 h1 hb.2.2.2.2.1) h0 h1 (fun m0 a0 b0 => Szt.last (Zfg a.2.2.2.2.2.1 _ a0 b0 hb.2.2.2.2.2.1))).mono (by simp only [Zdj, Ze4, Zdi, Zdk, Zem]; omega)
theorem Zl4 (a : List (ZQ)) (left : Int) (h0 : 0 ≤ left) (h1 : left ≤ 1048576) (hb : bnd (.sl (ZdW)) a) : Szt (ZcD a left) left (tot (.sl (ZdW)) a) := by
  unfold ZcD
  refine (Szt.len h0 h1 (by omega) hb.1 (fun hw m0 m1 => (?_ : Szt _ _ ((a.map (tot (ZdW))).sum)))).mono (by rw [ZjK]; omega)
  rw [hw]
  exact Szt.loop (f := fun x m => Zby x m) (P := fun x => sm (ZdW) x) (T := tot (ZdW)) (fun x hx m m0 m1 => Zjk x m m0 m1 (hb.2 x hx)) (fun x hx m m0 m1 => Znk x m m0 m1 (hb.2 x hx)) (fun k m => rfl) m0 m1 (by omega)
theorem Zl7 (a : Zm) (left : Int) (h0 : 0 ≤ left) (h1 : left ≤ 1048576) (hb : bnd (Qk) a) : Szt (JU a left) left (tot (Qk) a) := by
  unfold JU
  exact (Szt.len h0 h1 (by omega) hb.1 (fun hw0 a0 b0 => by rw [hw0]; exact Szt.then (Zl8 a.2.2.1 _ a0 b0 hb.2.2.1) a0 b0 (fun m1 a1 b1 => Szt.then (Zl4 a.2.2.2.1 _ a1 b1 hb.2.2.2.1) a1 b1 (fun m2 a2 b2 => Szt.last (Xd a.2.2.2.2.1 _ a2 b2 hb.2.2.2.2.1))))).mono (by simp only [Zdj, Ze4, Zdi, Zdk, Zem]; omega)
theorem ZkX (a : List (Zm)) (left : Int) (h0 : 0 ≤ left) (h1 : left ≤ 1048576) (hb : bnd (.sl (Qk)) a) : Szt (ZbA a left) left (tot (.sl (Qk)) a) := by
  unfold ZbA
  refine (Szt.len h0 h1 (by omega) hb.1 (fun hw m0 m1 => (?_ : Szt _ _ ((a.map (tot (Qk))).sum)))).mono (by rw [ZjK]; omega)
  rw [hw]
  exact Szt.loop (f := fun x m => JU x m) (P := fun x => sm (Qk) x) (T := tot (Qk)) (fun x hx m m0 m1 => Zh7 x m m0 m1 (hb.2 x hx)) (fun x hx m m0 m1 => Zl7 x m m0 m1 (hb.2 x hx)) (fun k m => rfl) m0 m1 (by omega)
theorem Zjm (a : Zt) (left : Int) (h0 : 0 ≤ left) (h1 : left ≤ 1048576) (hb : bnd (YL) a) : Szt (Jt a left) left (tot (YL) a) := by
  unfold Jt
  exact (Szt.last (ZkX a.1 _ h0 h1 hb.1)).mono (by simp only [Zdj, Ze4, Zdi, Zdk, Zem]; omega)
theorem ZiA (a : Zd) (left : Int) (h0 : 0 ≤ left) (h1 : left ≤ 1048576) (hb : bnd (Yg) a) : Szt (Qj a left) left (tot (Yg) a) := by
  unfold Qj
  exact (Szt.len h0 h1 (by omega) hb.1 (fun hw0 a0 b0 => by rw [hw0]; exact Szt.last (Xd a.2.2.1 _ a0 b0 hb.2.2.1))).mono (by simp only [Zdj, Ze4, Zdi, Zdk, Zem]; omega)
theorem ZhO (a : List (Zd)) (left : Int) (h0 : 0 ≤ left) (h1 : left ≤ 1048576) (hb : bnd (.sl (Yg)) a) : Szt (Q9 a left) left (tot (.sl (Yg)) a) := by
  unfold Q9
  refine (Szt.len h0 h1 (by omega) hb.1 (fun hw m0 m1 => (?_ : Szt _ _ ((a.map (tot (Yg))).sum)))).mono (by rw [ZjK]; omega)
  rw [hw]
  exact Szt.loop (f := fun x m => Qj x m) (P := fun x => sm (Yg) x) (T := tot (Yg)) (fun x hx m m0 m1 => ZeF x m m0 m1 (hb.2 x hx)) (fun x hx m m0 m1 => ZiA x m m0 m1 (hb.2 x hx)) (fun k m => rfl) m0 m1 (by omega)
theorem Zjp (a : List (List UInt8)) (left : Int) (h0 : 0 ≤ left) (h1 : left ≤ 1048576) (hb : bnd (.sl (.str)) a) : Szt (Ju a left) left (tot (.sl (.str)) a) := by
  unfold Ju
  refine (Szt.len h0 h1 (by omega) hb.1 (fun hw m0 m1 => (?_ : Szt _ _ ((a.map (tot (.str))).sum)))).mono (by rw [ZjK]; omega)
  rw [hw]
  exact Szt.loop (l := a) (α := List UInt8) (f := fun (x : List UInt8) (m : Int) => if Wq (m - (x.length : Int)) < 0 then some (-1) else some (Wq (m - (x.length : Int)))) (P := fun (x : List UInt8) => sm .str x) (T := fun (x : List UInt8) => tot .str x) (fun x hx m m0 m1 => Szd.str x m m0 m1 (hb.2 x hx)) (fun x hx m m0 m1 => Szt.str x m m0 m1 (hb.2 x hx)) (fun k m => by
    show Qz a m (k : Int) = _
    unfold Qz
    congr 1; congr 1; funext x; split <;> simp_all) m0 m1 (by omega)
theorem Zma (a : Z8) (left : Int) (h0 : 0 ≤ left) (h1 : left ≤ 1048576) (hb : bnd (VQ) a) : Szt (JV a left) left (tot (VQ) a) := by
  unfold JV
  exact (Szt.len h0 h1 (by omega) hb.1 (fun hw0 a0 b0 => by rw [hw0]; exact Szt.ret)).mono (by simp only [Zdj, Ze4, Zdi, Zdk, Zem]; omega)
theorem ZkZ (a : List (Z8)) (left : Int) (h0 : 0 ≤ left) (h1 : left ≤ 1048576) (hb : bnd (.sl (VQ)) a) : Szt (ZbC a left) left (tot (.sl (VQ)) a) := by
  unfold ZbC
  refine (Szt.len h0 h1 (by omega) hb.1 (fun hw m0 m1 => (?_ : Szt _ _ ((a.map (tot (VQ))).sum)))).mono (by rw [ZjK]; omega)
  rw [hw]
  exact Szt.loop (f := fun x m => JV x m) (P := fun x => sm (VQ) x) (T := tot (VQ)) (fun x hx m m0 m1 => Zh8 x m m0 m1 (hb.2 x hx)) (fun x hx m m0 m1 => Zma x m m0 m1 (hb.2 x hx)) (fun k m => rfl) m0 m1 (by omega)
theorem Zkd (a : Zc) (left : Int) (h0 : 0 ≤ left) (h1 : left ≤ 1048576) (hb : bnd (YJ) a) : Szt (Zao a left) left (tot (YJ) a) := by
  unfold Zao
  exact (Szt.then (ZhO a.1 _ h0 h1 hb.1) h0 h1 (fun m0 a0 b0 => Szt.then (Zjp a.2.1 _ a0 b0 hb.2.1) a0 b0 (fun m1 a1 b1 => Szt.last (ZkZ a.2.2.1 _ a1 b1 hb.2.2.1)))).mono (by simp only [Zdj, Ze4, Zdi, Zdk, Zem]; omega)
theorem Zmc (a : ZJ) (left : Int) (h0 : 0 ≤ left) (h1 : left ≤ 1048576) (hb : bnd (Vu) a) : Szt (JW a left) left (tot (Vu) a) := by
  unfold JW
  exact (Szt.then (Xd a.1 _ h0 h1 hb.1) h0 h1 (fun m0 a0 b0 => Szt.then (Xd a.2.1 _ a0 b0 hb.2.1) a0 b0 (fun m1 a1 b1 => Szt.then (Xd a.2.2.1 _ a1 b1 hb.2.2.1) a1 b1 (fun m2 a2 b2 => Szt.last (Xd a.2.2.2.1 _ a2 b2 hb.2.2.2.1))))).mono (by simp only [Zdj, Ze4, Zdi, Zdk, Zem]; omega)
theorem Zk1 (a : List (ZJ)) (left : Int) (h0 : 0 ≤ left) (h1 : left ≤ 1048576) (hb : bnd (.sl (Vu)) a) : Szt (ZbD a left) left (tot (.sl (Vu)) a) := by
  unfold ZbD
  refine (Szt.len h0 h1 (by omega) hb.1 (fun hw m0 m1 => (?_ : Szt _ _ ((a.map (tot (Vu))).sum)))).mono (by rw [ZjK]; omega)
  rw [hw]
  exact Szt.loop (f := fun x m => JW x m) (P := fun x => sm (Vu) x) (T := tot (Vu)) (fun x hx m m0 m1 => Zh9 x m m0 m1 (hb.2 x hx)) (fun x hx m m0 m1 => Zmc x m m0 m1 (hb.2 x hx)) (fun k m => rfl) m0 m1 (by omega)
theorem ZkW (a : Ze) (left : Int) (h0 : 0 ≤ left) (h1 : left ≤ 1048576) (hb : bnd (Yz) a) : Szt (Zbz a left) left (tot (Yz) a) := by
  unfold Zbz
  exact (Szt.then (Zjm a.1 _ h0 h1 hb.1) h0 h1 (fun m0 a0 b0 => Szt.then (Zkd a.2.1 _ a0 b0 hb.2.1) a0 b0 (fun m1 a1 b1 => Szt.last (Zk1 a.2.2.1 _ a1 b1 hb.2.2.1)))).mono (by simp only [Zdj, Ze4, Zdi, Zdk, Zem]; omega)
theorem ZkV (a : List (YG)) (k : Int) (hs : sm (.sl (Zdh)) a) (h0 : 0 ≤ k) (h1 : k + (cnt (.sl (Zdh)) a : Int) ≤ 4611686018427387904) : Mkd (ZdJ a k) k (cnt (.sl (Zdh)) a) := by
  unfold ZdJ
  have hl : a.length ≤ 1048576 := by have := hs.1; omega
  refine Mkd.loop (l := a) (c := cnt (Zdh)) (fun j m x L hj hj' hL hx hxm hm0 hm1 hj2 => ?_) (fun m L hL => ?_) hl h0 h1
  · have hsx := hs.2 x hxm
    have hc : ((cnt (Zdh) x : Nat) : Int) = 0 + 1 + 1 + 1 + 1 := by simp only [ZbO, Zd1, ZbN, ZbP, Zd2]; omega
    obtain ⟨s0, e0⟩ := Zeg (m) (by omega) (by omega)
    have hx2 : atI L (j : Int) = some x := by rw [Zo]; exact hx
    have hb : ∀ {β : Type} (y : YG) (F : YG → Option β), (atI (List.set L j y) (j : Int)).bind F = F y := fun y F => by rw [ZdZ hj]; rfl
    simp only [Zbj, if_pos hj', Int.toNat_natCast, hx2, ↓hb, Bq, List.set_set, e0]
    refine ZvD ?_ ?_
    · have hc := hc; simp (disch := omega) only [XG]; omega
    · simp (disch := omega) only [XG]; omega
  · simp only [Zbj, Int.lt_irrefl, if_false]
theorem Y5 (a : List (Int)) (k : Int) (hs : sm (.sl (.int .i64)) a) (h0 : 0 ≤ k) (h1 : k + (cnt (.sl (.int .i64)) a : Int) ≤ 4611686018427387904) : Mkd (YZ a k) k (cnt (.sl (.int .i64)) a) := by
  unfold YZ
  have hl : a.length ≤ 1048576 := by have := hs.1; omega
  refine Mkd.loop (l := a) (c := cnt (.int .i64)) (fun j m x L hj hj' hL hx hxm hm0 hm1 hj2 => ?_) (fun m L hL => ?_) hl h0 h1
  · have hsx := hs.2 x hxm
    have hc : ((cnt (.int .i64) x : Nat) : Int) = 0 + 1 := by rfl
    simp (disch := omega) only [JO, if_pos hj', Zo, hx, Bq, XG, Int.toNat_natCast, ZdZ, List.length_set, List.set_set, List.getElem?_set_self]
    refine ⟨_, congrArg some (congrArg Sum.inl (Prod.ext ?_ (Prod.ext ?_ (Prod.ext rfl rfl))))⟩
    · show _ = m + _; rw [hc]; omega
    · simp only; omega
  · simp only [JO, Int.lt_irrefl, if_false]
theorem ZeE (a : List (ZE)) (k : Int) (hs : sm (.sl (YV)) a) (h0 : 0 ≤ k) (h1 : k + (cnt (.sl (YV)) a : Int) ≤ 4611686018427387904) : Mkd (JQ a k) k (cnt (.sl (YV)) a) := by
  unfold JQ
  have hl : a.length ≤ 1048576 := by have := hs.1; omega
  refine Mkd.loop (l := a) (c := cnt (YV)) (fun j m x L hj hj' hL hx hxm hm0 hm1 hj2 => ?_) (fun m L hL => ?_) hl h0 h1
  · have hsx := hs.2 x hxm
    have hc : ((cnt (YV) x : Nat) : Int) = 0 + ((cnt (.sl (.int .i64)) x.1 : Nat) : Int) + ((cnt (.sl (.int .i64)) x.2.1 : Nat) : Int) + ((cnt (.sl (.int .i64)) x.2.2.1 : Nat) : Int) := by simp only [ZbO, Zd1, ZbN, ZbP, Zd2]; omega
    obtain ⟨s0, e0⟩ := Y5 x.1 (m) hsx.1 (by omega) (by omega)
    obtain ⟨s1, e1⟩ := Y5 x.2.1 (m + ((cnt (.sl (.int .i64)) x.1 : Nat) : Int)) hsx.2.1 (by omega) (by omega)
    obtain ⟨s2, e2⟩ := Y5 x.2.2.1 (m + ((cnt (.sl (.int .i64)) x.1 : Nat) : Int) + ((cnt (.sl (.int .i64)) x.2.1 : Nat) : Int)) hsx.2.2.1 (by omega) (by omega)
    simp (disch := omega) only [JR, if_pos hj', Zo, hx, Bq, XG, Int.toNat_natCast, ZdZ, List.length_set, List.set_set, List.getElem?_set_self, e0, e1, e2]
    refine ⟨_, congrArg some (congrArg Sum.inl (Prod.ext ?_ (Prod.ext ?_ (Prod.ext rfl rfl))))⟩
    · show _ = m + _; rw [hc]; omega
    · simp only; omega
  · simp only [JR, Int.lt_irrefl, if_false]
theorem ZkU (a : List (ZQ)) (k : Int) (hs : sm (.sl (ZdW)) a) (h0 : 0 ≤ k) (h1 : k + (cnt (.sl (ZdW)) a : Int) ≤ 4611686018427387904) : Mkd (ZdI a k) k (cnt (.sl (ZdW)) a) := by
  unfold ZdI
  have hl : a.length ≤ 1048576 := by have := hs.1; omega
  refine Mkd.loop (l := a) (c := cnt (ZdW)) (fun j m x L hj hj' hL hx hxm hm0 hm1 hj2 => ?_) (fun m L hL => ?_) hl h0 h1
  · have hsx := hs.2 x hxm
    have hc : ((cnt (ZdW) x : Nat) : Int) = 0 + 1 + 1 + 1 + 1 + ((cnt (.sl (YV)) x.2.2.2.2.1 : Nat) : Int) + ((cnt (.sl (YV)) x.2.2.2.2.2.1 : Nat) : Int) := by simp only [ZbO, Zd1, ZbN, ZbP, Zd2]; omega
    obtain ⟨s0, e0⟩ := ZeE x.2.2.2.2.1 (m + 1 + 1 + 1 + 1) hsx.2.2.2.2.1 (by omega) (by omega)
    obtain ⟨s1, e1⟩ := ZeE x.2.2.2.2.2.1 (m + 1 + 1 + 1 + 1 + ((cnt (.sl (YV)) x.2.2.2.2.1 : Nat) : Int)) hsx.2.2.2.2.2.1 (by omega) (by omega)
    simp (disch := omega) only [Zbi, if_pos hj', Zo, hx, Bq, XG, Int.toNat_natCast, ZdZ, List.length_set, List.set_set, List.getElem?_set_self, e0, e1]
    refine ⟨_, congrArg some (congrArg Sum.inl (Prod.ext ?_ (Prod.ext ?_ (Prod.ext rfl rfl))))⟩
    · show _ = m + _; rw [hc]; omega
    · simp only; omega
  · simp only [Zbi, Int.lt_irrefl, if_false]
theorem Zj9 (a : List (Zm)) (k : Int) (hs : sm (.sl (Qk)) a) (h0 : 0 ≤ k) (h1 : k + (cnt (.sl (Qk)) a : Int) ≤ 4611686018427387904) : Mkd (Zc3 a k) k (cnt (.sl (Qk)) a) := by
  unfold Zc3
  have hl : a.length ≤ 1048576 := by have := hs.1; omega
  refine Mkd.loop (l := a) (c := cnt (Qk)) (fun j m x L hj hj' hL hx hxm hm0 hm1 hj2 => ?_) (fun m L hL => ?_) hl h0 h1
  · have hsx := hs.2 x hxm
    have hc : ((cnt (Qk) x : Nat) : Int) = 0 + 1 + 1 + ((cnt (.sl (Zdh)) x.2.2.1 : Nat) : Int) + ((cnt (.sl (ZdW)) x.2.2.2.1 : Nat) : Int) + ((cnt (.sl (.int .i64)) x.2.2.2.2.1 : Nat) : Int) + 1 + 1 := by simp only [ZbO, Zd1, ZbN, ZbP, Zd2]; omega
    obtain ⟨s0, e0⟩ := Zeg (m) (by omega) (by omega)
    obtain ⟨s1, e1⟩ := ZkV x.2.2.1 (m + 1 + 1) hsx.2.2.1 (by omega) (by omega)
    obtain ⟨s2, e2⟩ := ZkU x.2.2.2.1 (m + 1 + 1 + ((cnt (.sl (Zdh)) x.2.2.1 : Nat) : Int)) hsx.2.2.2.1 (by omega) (by omega)
    obtain ⟨s3, e3⟩ := Y5 x.2.2.2.2.1 (m + 1 + 1 + ((cnt (.sl (Zdh)) x.2.2.1 : Nat) : Int) + ((cnt (.sl (ZdW)) x.2.2.2.1 : Nat) : Int)) hsx.2.2.2.2.1 (by omega) (by omega)
    simp (disch := omega) only [ZaA, if_pos hj', Zo, hx, Bq, XG, Int.toNat_natCast, ZdZ, List.length_set, List.set_set, List.getElem?_set_self, e0, e1, e2, e3]
    refine ⟨_, congrArg some (congrArg Sum.inl (Prod.ext ?_ (Prod.ext ?_ (Prod.ext rfl rfl))))⟩
    · show _ = m + _; rw [hc]; omega
    · simp only; omega
  · simp only [ZaA, Int.lt_irrefl, if_false]
theorem Ziw (a : Zt) (k : Int) (hs : sm (YL) a) (h0 : 0 ≤ k) (h1 : k + ((cnt (YL) a : Nat) : Int) ≤ 4611686018427387904) : Mkd (Za4 a k) k (cnt (YL) a) := by
  unfold Za4
  have hc : ((cnt (YL) a : Nat) : Int) = 0 + (((cnt (.sl (Qk)) a.1) : Nat) : Int) := by simp only [ZbO, Zd1, ZbN, ZbP, Zd2]; omega
  obtain ⟨s0, e0⟩ := Zj9 a.1 (k) hs.1 (by omega) (by omega)
  simp only [Bq, e0]
  exact ⟨_, congrArg some (Prod.ext (by rfl) rfl)⟩
theorem Zhf (a : List (Zd)) (k : Int) (hs : sm (.sl (Yg)) a) (h0 : 0 ≤ k) (h1 : k + (cnt (.sl (Yg)) a : Int) ≤ 4611686018427387904) : Mkd (JE a k) k (cnt (.sl (Yg)) a) := by
  unfold JE
  have hl : a.length ≤ 1048576 := by have := hs.1; omega
  refine Mkd.loop (l := a) (c := cnt (Yg)) (fun j m x L hj hj' hL hx hxm hm0 hm1 hj2 => ?_) (fun m L hL => ?_) hl h0 h1
  · have hsx := hs.2 x hxm
    have hc : ((cnt (Yg) x : Nat) : Int) = 0 + 1 + 1 + ((cnt (.sl (.int .i64)) x.2.2.1 : Nat) : Int) := by simp only [ZbO, Zd1, ZbN, ZbP, Zd2]; omega
    obtain ⟨s0, e0⟩ := Zeg (m) (by omega) (by omega)
    obtain ⟨s1, e1⟩ := Y5 x.2.2.1 (m + 1 + 1) hsx.2.2.1 (by omega) (by omega)
    simp (disch := omega) only [VO, if_pos hj', Zo, hx, Bq, XG, Int.toNat_natCast, ZdZ, List.length_set, List.set_set, List.getElem?_set_self, e0, e1]
    refine ⟨_, congrArg some (congrArg Sum.inl (Prod.ext ?_ (Prod.ext ?_ (Prod.ext rfl rfl))))⟩
    · show _ = m + _; rw [hc]; omega
    · simp only; omega
  · simp only [VO, Int.lt_irrefl, if_false]
theorem Zix (a : List (List UInt8)) (k : Int) (hs : sm (.sl (.str)) a) (h0 : 0 ≤ k) (h1 : k + (cnt (.sl (.str)) a : Int) ≤ 4611686018427387904) : Mkd (Za5 a k) k (cnt (.sl (.str)) a) := by
  unfold Za5
  have hl : a.length ≤ 1048576 := by have := hs.1; omega
  refine Mkd.loop (l := a) (c := cnt (.str)) (fun j m x L hj hj' hL hx hxm hm0 hm1 hj2 => ?_) (fun m L hL => ?_) hl h0 h1
  · have hsx := hs.2 x hxm
    have hc : ((cnt (.str) x : Nat) : Int) = 0 + 1 := by rfl
    obtain ⟨s0, e0⟩ := Zeg (m) (by omega) (by omega)
    simp (disch := omega) only [Jy, if_pos hj', Zo, hx, Bq, XG, Int.toNat_natCast, ZdZ, List.length_set, List.set_set, List.getElem?_set_self, e0]
    refine ⟨_, congrArg some (congrArg Sum.inl (Prod.ext ?_ (Prod.ext ?_ (Prod.ext rfl rfl))))⟩
    · show _ = m + _; rw [hc]; omega
    · simp only; omega
  · simp only [Jy, Int.lt_irrefl, if_false]
theorem Zka (a : List (Z8)) (k : Int) (hs : sm (.sl (VQ)) a) (h0 : 0 ≤ k) (h1 : k + (cnt (.sl (VQ)) a : Int) ≤ 4611686018427387904) : Mkd (Zc4 a k) k (cnt (.sl (VQ)) a) := by
  unfold Zc4
  have hl : a.length ≤ 1048576 := by have := hs.1; omega
  refine Mkd.loop (l := a) (c := cnt (VQ)) (fun j m x L hj hj' hL hx hxm hm0 hm1 hj2 => ?_) (fun m L hL => ?_) hl h0 h1
  · have hsx := hs.2 x hxm
    have hc : ((cnt (VQ) x : Nat) : Int) = 0 + 1 + 1 + 1 := by simp only [ZbO, Zd1, ZbN, ZbP, Zd2]; omega
    obtain ⟨s0, e0⟩ := Zeg (m) (by omega) (by omega)
    simp (disch := omega) only [ZaB, if_pos hj', Zo, hx, Bq, XG, Int.toNat_natCast, ZdZ, List.length_set, List.set_set, List.getElem?_set_self, e0]
    refine ⟨_, congrArg some (congrArg Sum.inl (Prod.ext ?_ (Prod.ext ?_ (Prod.ext rfl rfl))))⟩
    · show _ = m + _; rw [hc]; omega
    · simp only; omega
  · simp only [ZaB, Int.lt_irrefl, if_false]
theorem Zjj (a : Zc) (k : Int) (hs : sm (YJ) a) (h0 : 0 ≤ k) (h1 : k + ((cnt (YJ) a : Nat) : Int) ≤ 4611686018427387904) : Mkd (Zb7 a k) k (cnt (YJ) a) := by
  unfold Zb7
  have hc : ((cnt (YJ) a : Nat) : Int) = 0 + (((cnt (.sl (Yg)) a.1) : Nat) : Int) + (((cnt (.sl (.str)) a.2.1) : Nat) : Int) + (((cnt (.sl (VQ)) a.2.2.1) : Nat) : Int) := by simp only [ZbO, Zd1, ZbN, ZbP, Zd2]; omega
  obtain ⟨s0, e0⟩ := Zhf a.1 (k) hs.1 (by omega) (by omega)
  obtain ⟨s1, e1⟩ := Zix a.2.1 (k + (((cnt (.sl (Yg)) a.1) : Nat) : Int)) hs.2.1 (by omega) (by omega)
  obtain ⟨s2, e2⟩ := Zka a.2.2.1 (k + (((cnt (.sl (Yg)) a.1) : Nat) : Int) + (((cnt (.sl (.str)) a.2.1) : Nat) : Int)) hs.2.2.1 (by omega) (by omega)
  simp only [Bq, e0, e1, e2]
  exact ⟨_, congrArg some (Prod.ext (by show _ = k + _; rw [hc]; omega) rfl)⟩
theorem Zkb (a : List (ZJ)) (k : Int) (hs : sm (.sl (Vu)) a) (h0 : 0 ≤ k) (h1 : k + (cnt (.sl (Vu)) a : Int) ≤ 4611686018427387904) : Mkd (Zc5 a k) k (cnt (.sl (Vu)) a) := by
  unfold Zc5
  have hl : a.length ≤ 1048576 := by have := hs.1; omega
  refine Mkd.loop (l := a) (c := cnt (Vu)) (fun j m x L hj hj' hL hx hxm hm0 hm1 hj2 => ?_) (fun m L hL => ?_) hl h0 h1
  · have hsx := hs.2 x hxm
    have hc : ((cnt (Vu) x : Nat) : Int) = 0 + ((cnt (.sl (.int .i64)) x.1 : Nat) : Int) + ((cnt (.sl (.int .i64)) x.2.1 : Nat) : Int) + ((cnt (.sl (.int .i64)) x.2.2.1 : Nat) : Int) + ((cnt (.sl (.int .i64)) x.2.2.2.1 : Nat) : Int) := by simp only [ZbO, Zd1, ZbN, ZbP, Zd2]; omega
    obtain ⟨s0, e0⟩ := Y5 x.1 (m) hsx.1 (by omega) (by omega)
    obtain ⟨s1, e1⟩ := Y5 x.2.1 (m + ((cnt (.sl (.int .i64)) x.1 : Nat) : Int)) hsx.2.1 (by omega) (by omega)
    obtain ⟨s2, e2⟩ := Y5 x.2.2.1 (m + ((cnt (.sl (.int .i64)) x.1 : Nat) : Int) + ((cnt (.sl (.int .i64)) x.2.1 : Nat) : Int)) hsx.2.2.1 (by omega) (by omega)
    obtain ⟨s3, e3⟩ := Y5 x.2.2.2.1 (m + ((cnt (.sl (.int .i64)) x.1 : Nat) : Int) + ((cnt (.sl (.int .i64)) x.2.1 : Nat) : Int) + ((cnt (.sl (.int .i64)) x.2.2.1 : Nat) : Int)) hsx.2.2.2.1 (by omega) (by omega)
    simp (disch := omega) only [ZaC, if_pos hj', Zo, hx, Bq, XG, Int.toNat_natCast, ZdZ, List.length_set, List.set_set, List.getElem?_set_self, e0, e1, e2, e3]
    refine ⟨_, congrArg some (congrArg Sum.inl (Prod.ext ?_ (Prod.ext ?_ (Prod.ext rfl rfl))))⟩
    · show _ = m + _; rw [hc]; omega
    · simp only; omega
  · simp only [ZaC, Int.lt_irrefl, if_false]
theorem Zj8 (a : Ze) (k : Int) (hs : sm (Yz) a) (h0 : 0 ≤ k) (h1 : k + ((cnt (Yz) a : Nat) : Int) ≤ 4611686018427387904) : Mkd (Zc2 a k) k (cnt (Yz) a) := by
  unfold Zc2
  have hc : ((cnt (Yz) a : Nat) : Int) = 0 + (((cnt (YL) a.1) : Nat) : Int) + (((cnt (YJ) a.2.1) : Nat) : Int) + (((cnt (.sl (Vu)) a.2.2.1) : Nat) : Int) := by simp only [ZbO, Zd1, ZbN, ZbP, Zd2]; omega
  obtain ⟨s0, e0⟩ := Ziw a.1 (k) hs.1 (by omega) (by omega)
  obtain ⟨s1, e1⟩ := Zjj a.2.1 (k + (((cnt (YL) a.1) : Nat) : Int)) hs.2.1 (by omega) (by omega)
  obtain ⟨s2, e2⟩ := Zkb a.2.2.1 (k + (((cnt (YL) a.1) : Nat) : Int) + (((cnt (YJ) a.2.1) : Nat) : Int)) hs.2.2.1 (by omega) (by omega)
  simp only [Bq, e0, e1, e2]
  exact ⟨_, congrArg some (Prod.ext (by show _ = k + _; rw [hc]; omega) rfl)⟩
theorem Zhe (a : List (Zg)) (k : Int) (hs : sm (.sl (Zy)) a) (h0 : 0 ≤ k) (h1 : k + (cnt (.sl (Zy)) a : Int) ≤ 4611686018427387904) : Mkd (JD a k) k (cnt (.sl (Zy)) a) := by
  unfold JD
  have hl : a.length ≤ 1048576 := by have := hs.1; omega
  refine Mkd.loop (l := a) (c := cnt (Zy)) (fun j m x L hj hj' hL hx hxm hm0 hm1 hj2 => ?_) (fun m L hL => ?_) hl h0 h1
  · have hsx := hs.2 x hxm
    have hc : ((cnt (Zy) x : Nat) : Int) = 0 + 1 + 1 + 1 := by simp only [ZbO, Zd1, ZbN, ZbP, Zd2]; omega
    simp (disch := omega) only [VN, if_pos hj', Zo, hx, Bq, XG, Int.toNat_natCast, ZdZ, List.length_set, List.set_set, List.getElem?_set_self]
    refine ⟨_, congrArg some (congrArg Sum.inl (Prod.ext ?_ (Prod.ext ?_ (Prod.ext rfl rfl))))⟩
    · show _ = m + _; rw [hc]; omega
    · simp only; omega
  · simp only [VN, Int.lt_irrefl, if_false]
/-
  Plain laws: marks are held; how many numbers there are.
-/
theorem ZtV {α : Type} {l : List α} {c : Nat} {g : Int → α} {step : Int × Int × List α × Unit → Option ((Int × Int × List α × Unit) ⊕ (Int × List α))}
    (hstep : ∀ (j : Nat) (m : Int) (x : α) (L : List α), j < L.length → (j : Int) < (L.length : Int) → L[j]? = some x → 0 ≤ m → m ≤ 4611686018427387904 → (j : Int) ≤ 1048576 → step (m, (j : Int), L, ()) = some (.inl (m + (c : Int), ((j + 1 : Nat) : Int), List.set L j (g m), ())))
    (hend : ∀ (m : Int) (L : List α), step (m, (L.length : Int), L, ()) = some (.inr (m, L))) (hl : l.length ≤ 1048576) (hc : c ≤ 1048576) :
    ∃ l', Zn step (1, 0, l, ()) = some (1 + ((c * l.length : Nat) : Int), l') ∧ l'.length = l.length ∧ ∀ j, j < l.length → l'[j]? = some (g (1 + ((c * j : Nat) : Int))) := by
  obtain ⟨r, h1, h2, h3, h4⟩ : ∃ r, Zn step (1, 0, l, ()) = some r ∧ r.1 = 1 + ((c * l.length : Nat) : Int) ∧ r.2.length = l.length ∧ ∀ j, j < l.length → r.2[j]? = some (g (1 + ((c * j : Nat) : Int))) := by
    refine Xa l.length (fun k v => v.1 = 1 + ((c * k : Nat) : Int) ∧ v.2.1 = (k : Int) ∧ v.2.2.1.length = l.length ∧ ∀ j, j < k → v.2.2.1[j]? = some (g (1 + ((c * j : Nat) : Int)))) _ ⟨by simp, rfl, rfl, fun j hj => by omega⟩ ?_ ?_
    · rintro k ⟨m, i, L, ⟨⟩⟩ hk ⟨hm, hi, hL, hS⟩
      simp only at hm hi hL hS
      have hck : c * k ≤ 1048576 * 1048576 := Nat.mul_le_mul hc (by omega)
      subst hm
      subst hi
      left
      refine ⟨_, hstep k _ _ L (by omega) (by omega) (List.getElem?_eq_getElem (by omega)) (by omega) (by omega) (by omega), by simp only; rw [Nat.mul_succ]; omega, rfl, by simp [hL], fun j hj => ?_⟩
      simp only
      rw [List.getElem?_set]
      split
      · rename_i e; rw [if_pos (by omega), e]
      · exact hS j (by omega)
    · rintro ⟨m, i, L, ⟨⟩⟩ ⟨hm, hi, hL, hS⟩
      simp only at hm hi hL hS
      subst hi
      rw [← hL, hend]
      exact ⟨_, rfl, by rw [hm, hL], rfl, fun j hj => hS j (by omega)⟩
  exact ⟨r.2, by rw [h1, ← h2], h3, h4⟩
theorem ZtF {α : Type} {l : List α} {c n : Nat} {g : Int → α} {step : Int × Int × Unit → Option ((Int × Int × Unit) ⊕ Int)} (hn : l.length = n) (hg : ∀ j, j < n → l[j]? = some (g (1 + ((c * j : Nat) : Int))))
    (hstep : ∀ (j : Nat) (m : Int), (j : Int) < (l.length : Int) → l[j]? = some (g m) → 0 ≤ m → m ≤ 4611686018427387904 → (j : Int) ≤ 1048576 → step (m, (j : Int), ()) = some (.inl (m + (c : Int), ((j + 1 : Nat) : Int), ())))
    (hend : ∀ (m : Int), step (m, (l.length : Int), ()) = some (.inr m)) (hl : n ≤ 1048576) (hc : c ≤ 1048576) : Zn step (1, 0, ()) = some (1 + ((c * n : Nat) : Int)) := by
  refine Ya n (fun k v => v.1 = 1 + ((c * k : Nat) : Int) ∧ v.2.1 = (k : Int)) _ ⟨by simp, rfl⟩ ?_ ?_
  · rintro k ⟨m, i, ⟨⟩⟩ hk ⟨hm, hi⟩
    simp only at hm hi
    have hck : c * k ≤ 1048576 * 1048576 := Nat.mul_le_mul hc (by omega)
    subst hm
    subst hi
    left
    exact ⟨_, hstep k _ (by omega) (hg k hk) (by omega) (by omega) (by omega), by simp only; rw [Nat.mul_succ]; omega, rfl⟩
  · rintro ⟨m, i, ⟨⟩⟩ ⟨hm, hi⟩
    simp only at hm hi
    subst hm
    subst hi
    rw [← hn, hend]
theorem Ztr (a : Ze) (h : tot Yz a ≤ 1048576) : cnt Yz a ≤ 100 + 20 * 1048576 := by
  have hc := Zpc Yz a
  have h1 : wid Yz ≤ 100 := by decide
  have h2 : Zcw Yz ≤ 20 := by decide
  have := Nat.mul_le_mul_right (tot Yz a) h2
  omega
/-
  Plain laws: the law FnExactHottestNets.
-/
theorem Zvk (l : List Zj) (hl : l.length ≤ 1048576) : ∃ l', Zb8 l 1 = some (1 + ((2 * l.length : Nat) : Int), l') ∧ Zb6 l' 1 = some (1 + ((2 * l.length : Nat) : Int)) := by
  obtain ⟨l', h1, h2, h3⟩ := ZtV (l := l) (c := 2) (g := fun m => ((m, m + 1, ()) : Zj)) (step := fun v => Qq v.1 v.2.1 v.2.2.1)
    (fun j m x L hj hj' hx h0 h1 hj2 => by
      have hx2 : atI L (j : Int) = some x := by rw [Zo]; exact hx
      have hb : ∀ {β : Type} (y : Zj) (F : Zj → Option β), (atI (List.set L j y) (j : Int)).bind F = F y := fun y F => by rw [ZdZ hj]; rfl
      simp only [Qq, if_pos hj', Int.toNat_natCast, hx2, ↓hb, Bq, List.set_set, XG (show (-9223372036854775808 : Int) ≤ m + 1 by omega) (by omega), XG (show (-9223372036854775808 : Int) ≤ m + 1 + 1 by omega) (by omega), Xj (show j ≤ 1048576 by omega)]
      rw [show m + 1 + 1 = m + ((2 : Nat) : Int) by omega])
    (fun m L => by simp only [Qq, Int.lt_irrefl, if_false]) hl (by omega)
  refine ⟨l', h1, ?_⟩
  exact ZtF (n := l.length) (c := 2) (g := fun m => ((m, m + 1, ()) : Zj)) (step := fun v => Qp l' v.1 v.2.1) h2 h3
    (fun j m hj hx h0 h1 hj2 => by
      simp only [Qp, if_pos hj, Zo, hx, Bq, XG (show (-9223372036854775808 : Int) ≤ m + 1 by omega) (by omega), XG (show (-9223372036854775808 : Int) ≤ m + 1 + 1 by omega) (by omega), Xj (show j ≤ 1048576 by omega), if_true]
      rw [show m + 1 + 1 = m + ((2 : Nat) : Int) by omega])
    (fun m => by simp only [Qp, Int.lt_irrefl, if_false]) hl (by omega)
theorem Zvg (l : List Zg) (h : l.length ≤ 1048576) : cnt (.sl Zy) l ≤ 100 + 20 * 1048576 := by
  have hc := Zpc (.sl Zy) l
  have h1 : wid (.sl Zy) ≤ 100 := by decide
  have h2 : Zcw (.sl Zy) ≤ 20 := by decide
  have h3 : tot (.sl Zy) l = l.length := by
    have : ∀ m : List Zg, tot (.sl Zy) m = m.length := fun m => by
      induction m with
      | nil => rfl
      | cons x r ih => simp_all [tot]
    exact this l
  have := Nat.mul_le_mul_right (tot (.sl Zy) l) h2
  omega
theorem Zeo (a0 : Ze) (a1 : List Zg) (a2 : Int) (b0 : bnd Yz a0) (b1 : bnd (.sl Zy) a1) (b2 : bnd (.int .i64) a2) : XK a0 a1 a2 = some true := by
  unfold XK
  obtain ⟨n, e, hle, hP⟩ := Zl5 a0 1048576 (by omega) (by omega) b0
  rw [e, Bq]
  by_cases hn : n < 0
  · rw [if_pos hn]
  rw [if_neg hn]
  have hs := hP (by omega)
  have ht := ZkW a0 1048576 (by omega) (by omega) b0 n e (by omega)
  obtain ⟨n1, e1, hle1, hP1⟩ := Ziy a1 n (by omega) (by omega) b1
  rw [e1, Bq]
  by_cases hn1 : n1 < 0
  · rw [if_pos hn1]
  rw [if_neg hn1]
  have hs1 := hP1 (by omega)
  have hcb := Ztr a0 (by omega)
  have hca := Zvg a1 (sml hs1)
  obtain ⟨r, c1, c2, c3⟩ := Zsi a0 hs a1 (sml hs1) a2
  obtain ⟨m0, hm0⟩ := Zj8 a0 1 hs (by omega) (by omega)
  obtain ⟨m1, hm1⟩ := Zhe a1 (1 + ((cnt Yz a0 : Nat) : Int)) hs1 (by omega) (by omega)
  obtain ⟨m3, hm3, hm4⟩ := Zvk r.1 (by omega)
  have hr : sm (.sl Yr) r.1 := ⟨by omega, fun x _ => QW _ (by rfl) x⟩
  have hneg : ¬ (1 + ((cnt Yz a0 : Nat) : Int) + ((cnt (.sl Zy) a1 : Nat) : Int)) < 0 := by omega
  have hneg2 : ¬ (1 + ((2 * r.1.length : Nat) : Int)) < 0 := by omega
  simp only [Zmd _ hs, ZiC _ hs1, Bq, c1, c2, Ziu _ hr, ZlZ _ hs, Zir _ hs1, if_true, hm0, hm1, hm3, hm4, hneg, hneg2, if_false]
end Go.Proofs.YtioiomifapgimaaGreatDoor
