/-
  Ground of the plain laws: loops by what they come to; small arithmetic.
-/
import Derived.Test.YtmaogoofmebdbaaGreatDoorSxM
import Derived.IntWalk
namespace Go.Proofs.YtmaogoofmebdbaaGreatDoor
set_option linter.unusedVariables false
set_option linter.unusedSimpArgs false
open Go Go.Sx

theorem W_in {n : Int} (h1 : -9223372036854775808 ≤ n) (h2 : n ≤ 9223372036854775807) : IntKind.i64.wrap n = n := IntWalk.i64_in n ⟨h1, h2⟩

theorem atI_nat {α : Type} (l : List α) (k : Nat) : atI l (k : Int) = l[k]? := by simp [atI]
theorem atI_some {α : Type} {l : List α} {i : Int} {x : α} (h0 : 0 ≤ i) (hx : l[i.toNat]? = some x) : atI l i = some x := by simp [atI, h0, hx]
theorem atI_ex {α : Type} {l : List α} {i : Int} (h0 : 0 ≤ i) (h1 : i < l.length) : ∃ x, atI l i = some x ∧ l[i.toNat]? = some x :=
  ⟨l[i.toNat]'(by omega), by simp [atI, h0], List.getElem?_eq_getElem _⟩
theorem guardO_pos {α : Type} {p : Prop} (h : p) (a : Option α) : guardO p a = a := by
  unfold guardO
  exact if_pos h

/-- A LOOP OVER 0 .. n - 1. -/
theorem whileM_range {τ ρ : Type} {step : τ → Option (τ ⊕ ρ)} (n : Nat) (I : Nat → τ → Prop) (Q : ρ → Prop) {v : τ} (h0 : I 0 v)
    (hs : ∀ k v, k < n → I k v → (∃ v', step v = some (.inl v') ∧ I (k + 1) v') ∨ ∃ r, step v = some (.inr r) ∧ Q r)
    (hx : ∀ v, I n v → ∃ r, step v = some (.inr r) ∧ Q r) : ∃ r, whileM step v = some r ∧ Q r := by
  have : ∀ m k v, k + m = n → I k v → ∃ r, whileM step v = some r ∧ Q r := by
    intro m
    induction m with
    | zero =>
      intro k v hk hI
      have : k = n := by omega
      subst this
      obtain ⟨r, e, hq⟩ := hx v hI
      exact ⟨r, whileM_out e, hq⟩
    | succ m ih =>
      intro k v hk hI
      rcases hs k v (by omega) hI with ⟨v', e, hI'⟩ | ⟨r, e, hq⟩
      · obtain ⟨r, h1, h2⟩ := ih (k + 1) v' (by omega) hI'
        exact ⟨r, by rw [whileM_in e]; exact h1, h2⟩
      · exact ⟨r, whileM_out e, hq⟩
  exact this n 0 v (by omega) h0

/-- the same, where the result is told -/
theorem whileM_rangeE {τ ρ : Type} {step : τ → Option (τ ⊕ ρ)} (n : Nat) (I : Nat → τ → Prop) (R : ρ) {v : τ} (h0 : I 0 v)
    (hs : ∀ k v, k < n → I k v → (∃ v', step v = some (.inl v') ∧ I (k + 1) v') ∨ step v = some (.inr R))
    (hx : ∀ v, I n v → step v = some (.inr R)) : whileM step v = some R := by
  obtain ⟨r, h1, h2⟩ := whileM_range n I (fun r => r = R) h0 (fun k v hk hI => (hs k v hk hI).elim .inl (fun h => .inr ⟨R, h, rfl⟩)) (fun v hI => ⟨R, hx v hI, rfl⟩)
  rw [h1, h2]

theorem whileM_invE {σ ρ : Type} {step : σ → Option (σ ⊕ ρ)} (I : σ → Prop) (μ : σ → Nat) (R : ρ) {v : σ} (h0 : I v)
    (hs : ∀ v, I v → (∃ v', step v = some (.inl v') ∧ I v' ∧ μ v' < μ v) ∨ step v = some (.inr R)) : whileM step v = some R := by
  obtain ⟨r, h1, h2⟩ := whileM_inv I μ (fun r => r = R) h0 (fun v hI => (hs v hI).elim .inl (fun h => .inr ⟨R, h, rfl⟩))
  rw [h1, h2]

/-- a list, element by element: what a fold over its first k elements becomes -/
theorem take_snoc {α : Type} {l : List α} {k : Nat} {x : α} (hx : l[k]? = some x) : l.take (k + 1) = l.take k ++ [x] := by
  rw [List.take_add_one, hx]; rfl

theorem recM_eq {ρ : Type} {g : Nat → Option ρ} {v : ρ} (h : ∃ n, g n = some v) (hd : ∀ n r, g n = some r → r = v) : recM g = some v := by
  obtain ⟨n, hn⟩ := h
  unfold recM
  have hx : ∃ r n, g n = some r := ⟨v, n, hn⟩
  rw [dif_pos hx]
  obtain ⟨m, hm⟩ := Classical.choose_spec hx
  rw [hd m _ hm]

/-! ### the arguments of the exact laws: counted, copied, compared -/

/-- no string and no list is long -/
def sm : (t : Ty) → t.den → Prop
  | .str, s => (s.length : Int) ≤ 1048576
  | .sl t, l => (l.length : Int) ≤ 1048576 ∧ ∀ x ∈ l, sm t x
  | .pair a b, d => sm a d.1 ∧ sm b d.2
  | _, _ => True

/-- what counting comes to -/
def Szd (o : Option Int) (left : Int) (P : Prop) : Prop := ∃ n, o = some n ∧ n ≤ left ∧ (0 ≤ n → P)

theorem Szd.mono {o : Option Int} {left : Int} {P Q : Prop} (h : Szd o left P) (hpq : P → Q) : Szd o left Q := by
  obtain ⟨n, a, b, c⟩ := h; exact ⟨n, a, b, fun h => hpq (c h)⟩

/-- one part, then the others -/
theorem Szd.then {o : Option Int} {left : Int} {P Q : Prop} (h : Szd o left P) (h0 : 0 ≤ left) (hl : left ≤ 1048576) {F : Int → Option Int} (h2 : ∀ n, 0 ≤ n → n ≤ 1048576 → P → Szd (F n) n Q) :
    Szd (o.bind fun n => if n < 0 then some (-1) else F n) left Q := by
  obtain ⟨n, e, hle, hP⟩ := h
  rw [e, Option.bind_some]
  split
  · rename_i hn
    exact ⟨-1, rfl, by omega, fun h => by omega⟩
  · rename_i hn
    obtain ⟨m, e2, h3, h4⟩ := h2 n (by omega) (by omega) (hP (by omega))
    exact ⟨m, e2, by omega, h4⟩

/-- the last part -/
theorem Szd.last {o : Option Int} {left : Int} {P Q : Prop} (h : Szd o left P) (hl : 0 ≤ left) (hpq : P → Q) : Szd (o.bind fun n => if n < 0 then some (-1) else some n) left Q := by
  obtain ⟨n, e, hle, hP⟩ := h
  rw [e, Option.bind_some]
  split
  · rename_i hn
    exact ⟨-1, rfl, by omega, fun h => by omega⟩
  · exact ⟨n, rfl, hle, fun h => hpq (hP h)⟩

/-- a length -/
theorem Szd.len {left n : Int} {Q : Prop} {B : Option Int} (h0 : 0 ≤ left) (hl : left ≤ 1048576) (hn : 0 ≤ n) (hb : n ≤ 9223372036854775807)
    (h2 : IntKind.i64.wrap (left - n) = left - n → 0 ≤ left - n → left - n ≤ 1048576 → n ≤ 1048576 → Szd B (left - n) Q) :
    Szd (if IntKind.i64.wrap (left - n) < 0 then some (-1) else B) left Q := by
  have hw := W_in (n := left - n) (by omega) (by omega)
  rw [hw]
  split
  · rename_i hn
    exact ⟨-1, rfl, by omega, fun h => by omega⟩
  · rename_i hn
    obtain ⟨m, e2, h3, h4⟩ := h2 hw (by omega) (by omega) (by omega)
    exact ⟨m, e2, by omega, h4⟩

theorem Szd.ret {left : Int} {P : Prop} (h : P) : Szd (some left) left P := ⟨left, rfl, Int.le_refl _, fun _ => h⟩

theorem Szd.loop {α : Type} {l : List α} {f : α → Int → Option Int} {P : α → Prop} {step : Int × Int × Unit → Option ((Int × Int × Unit) ⊕ Int)}
    (hf : ∀ x ∈ l, ∀ m, 0 ≤ m → m ≤ 1048576 → Szd (f x m) m (P x))
    (hstep : ∀ (k : Nat) (m : Int), step (m, (k : Int), ()) = if (k : Int) < (l.length : Int) then (atI l (k : Int)).bind fun x => (f x m).bind fun n => if n < 0 then some (.inr (-1)) else some (.inl (n, IntKind.i64.wrap ((k : Int) + 1), ())) else some (.inr m))
    {left : Int} (h0 : 0 ≤ left) (h1 : left ≤ 1048576) (hl : (l.length : Int) ≤ 1048576) : Szd (whileM step (left, 0, ())) left (∀ x ∈ l, P x) := by
  unfold Szd
  refine whileM_range l.length (fun k v => v.2.1 = (k : Int) ∧ 0 ≤ v.1 ∧ v.1 ≤ left ∧ ∀ x ∈ l.take k, P x) (fun n => n ≤ left ∧ (0 ≤ n → ∀ x ∈ l, P x)) ⟨rfl, h0, Int.le_refl _, by simp⟩ ?_ ?_
  · rintro k ⟨m, i, ⟨⟩⟩ hk ⟨hi, hm0, hm1, hP⟩
    simp only at hi hm0 hm1
    subst hi
    have hx : l[k]? = some l[k] := List.getElem?_eq_getElem hk
    generalize l[k] = x at hx
    rw [hstep, if_pos (by omega), atI_nat, hx, Option.bind_some]
    obtain ⟨n, e, hn, hPx⟩ := hf x (List.mem_of_getElem? hx) m hm0 (by omega)
    rw [e, Option.bind_some]
    split
    · exact .inr ⟨-1, rfl, by omega, fun h => by omega⟩
    · rw [W_in (by omega) (by omega)]
      refine .inl ⟨_, rfl, by simp, by dsimp only; omega, by dsimp only; omega, ?_⟩
      rw [take_snoc hx]
      intro y hy
      rcases List.mem_append.1 hy with hy | hy
      · exact hP y hy
      · simp at hy; subst hy; exact hPx (by omega)
  · rintro ⟨m, i, ⟨⟩⟩ ⟨hi, hm0, hm1, hP⟩
    simp only at hi hm0 hm1
    subst hi
    rw [List.take_length] at hP
    rw [hstep, if_neg (by omega)]
    exact ⟨m, rfl, hm1, fun _ => hP⟩

/-- a list is copied, element by element -/
theorem copy_loop {α : Type} {l : List α} {f : α → Option α} {z : α} {step : Int × List α × Unit → Option ((Int × List α × Unit) ⊕ List α)} (hf : ∀ x ∈ l, f x = some x)
    (hstep : ∀ (k : Nat) (out : List α), step ((k : Int), out, ()) = if (k : Int) < (l.length : Int) then (atI l (k : Int)).bind fun x => (f x).bind fun y => (atI out (k : Int)).bind fun _ => some (.inl (IntKind.i64.wrap ((k : Int) + 1), List.set out (Int.toNat (k : Int)) y, ())) else some (.inr out))
    (hl : (l.length : Int) ≤ 1048576) : whileM step (0, List.replicate (Int.toNat (l.length : Int)) z, ()) = some l := by
  refine whileM_rangeE l.length (fun k v => v.1 = (k : Int) ∧ v.2.1.length = l.length ∧ v.2.1.take k = l.take k) _ ⟨rfl, by simp, by simp⟩ ?_ ?_
  · rintro k ⟨i, out, ⟨⟩⟩ hk ⟨hi, hlen, ht⟩
    simp only at hi hlen ht
    subst hi
    have hx : l[k]? = some l[k] := List.getElem?_eq_getElem hk
    generalize l[k] = x at hx
    have hy : out[k]? = some (out[k]'(by omega)) := List.getElem?_eq_getElem (by omega)
    rw [hstep, if_pos (by omega), atI_nat, hx, Option.bind_some, hf x (List.mem_of_getElem? hx), Option.bind_some, atI_nat, hy, Option.bind_some, W_in (by omega) (by omega)]
    refine .inl ⟨_, rfl, by simp, by simp [hlen], ?_⟩
    have hx2 : (out.set k x)[k]? = some x := by rw [List.getElem?_set_self (by omega)]
    simp only [Int.toNat_natCast]
    rw [take_snoc hx2, take_snoc hx, List.take_set, ht]
    rw [List.set_eq_of_length_le (by simp; omega)]
  · rintro ⟨i, out, ⟨⟩⟩ ⟨hi, hlen, ht⟩
    simp only at hi hlen ht
    subst hi
    rw [hstep, if_neg (by omega)]
    rw [List.take_length, List.take_of_length_le (by omega)] at ht
    rw [ht]

theorem eq_loopP {α : Type} [DecidableEq α] {l : List α} {step : Int × Unit → Option ((Int × Unit) ⊕ Bool)}
    (hstep : ∀ (k : Nat), step ((k : Int), ()) = if (k : Int) < (l.length : Int) then (atI l (k : Int)).bind fun x => (atI l (k : Int)).bind fun y => if x = y then some (.inl (IntKind.i64.wrap ((k : Int) + 1), ())) else some (.inr false) else some (.inr true))
    (hl : (l.length : Int) ≤ 1048576) : whileM step (0, ()) = some true := by
  refine whileM_rangeE l.length (fun k v => v.1 = (k : Int)) _ rfl ?_ ?_
  · rintro k ⟨i, ⟨⟩⟩ hk hi
    simp only at hi
    subst hi
    have hx : l[k]? = some l[k] := List.getElem?_eq_getElem hk
    generalize l[k] = x at hx
    rw [hstep, if_pos (by omega), atI_nat, hx, Option.bind_some, Option.bind_some, if_pos rfl, W_in (by omega) (by omega)]
    exact .inl ⟨_, rfl, by simp⟩
  · rintro ⟨i, ⟨⟩⟩ hi
    simp only at hi
    subst hi
    rw [hstep, if_neg (by omega)]

theorem eq_loopB {l : List Bool} {step : Int × Unit → Option ((Int × Unit) ⊕ Bool)}
    (hstep : ∀ (k : Nat), step ((k : Int), ()) = if (k : Int) < (l.length : Int) then (atI l (k : Int)).bind fun x => (atI l (k : Int)).bind fun y => if (x == y) = true then some (.inl (IntKind.i64.wrap ((k : Int) + 1), ())) else some (.inr false) else some (.inr true))
    (hl : (l.length : Int) ≤ 1048576) : whileM step (0, ()) = some true := by
  refine whileM_rangeE l.length (fun k v => v.1 = (k : Int)) _ rfl ?_ ?_
  · rintro k ⟨i, ⟨⟩⟩ hk hi
    simp only at hi
    subst hi
    have hx : l[k]? = some l[k] := List.getElem?_eq_getElem hk
    generalize l[k] = x at hx
    rw [hstep, if_pos (by omega), atI_nat, hx, Option.bind_some, Option.bind_some, if_pos (by simp), W_in (by omega) (by omega)]
    exact .inl ⟨_, rfl, by simp⟩
  · rintro ⟨i, ⟨⟩⟩ hi
    simp only at hi
    subst hi
    rw [hstep, if_neg (by omega)]

def Ty.fixed : Ty → Bool
  | .str => false
  | .sl _ => false
  | .ptr _ => true
  | .fn _ _ => true
  | .pair a b => Ty.fixed a && Ty.fixed b
  | _ => true
theorem sm_fixed : ∀ (t : Ty), Ty.fixed t = true → ∀ d : t.den, sm t d
  | .int _, _, _ => trivial
  | .bool, _, _ => trivial
  | .unit, _, _ => trivial
  | .ptr _, _, _ => trivial
  | .fn _ _, _, _ => trivial
  | .str, h, _ => by simp [Ty.fixed] at h
  | .sl _, h, _ => by simp [Ty.fixed] at h
  | .pair a b, h, d => by
    simp only [Ty.fixed, Bool.and_eq_true] at h
    exact ⟨sm_fixed a h.1 d.1, sm_fixed b h.2 d.2⟩

/-- a list is compared with itself -/
theorem eq_loop {α : Type} {l : List α} {f : α → α → Option Bool} {step : Int × Unit → Option ((Int × Unit) ⊕ Bool)} (hf : ∀ x ∈ l, f x x = some true)
    (hstep : ∀ (k : Nat), step ((k : Int), ()) = if (k : Int) < (l.length : Int) then (atI l (k : Int)).bind fun x => (atI l (k : Int)).bind fun y => (f x y).bind fun e => if e = true then some (.inl (IntKind.i64.wrap ((k : Int) + 1), ())) else some (.inr false) else some (.inr true))
    (hl : (l.length : Int) ≤ 1048576) : whileM step (0, ()) = some true := by
  refine whileM_rangeE l.length (fun k v => v.1 = (k : Int)) _ rfl ?_ ?_
  · rintro k ⟨i, ⟨⟩⟩ hk hi
    simp only at hi
    subst hi
    have hx : l[k]? = some l[k] := List.getElem?_eq_getElem hk
    generalize l[k] = x at hx
    rw [hstep, if_pos (by omega), atI_nat, hx, Option.bind_some, Option.bind_some, hf x (List.mem_of_getElem? hx), Option.bind_some, if_pos rfl, W_in (by omega) (by omega)]
    exact .inl ⟨_, rfl, by simp⟩
  · rintro ⟨i, ⟨⟩⟩ hi
    simp only at hi
    subst hi
    rw [hstep, if_neg (by omega)]

/-- a proposition's truth -/
noncomputable def tr (p : Prop) : Bool := @decide p (Classical.propDecidable p)
theorem tr_eq {p : Prop} {b : Bool} (h : b = true ↔ p) : tr p = b := by
  unfold tr
  cases b
  · simp at h; simp [h]
  · simp at h; simp [h]
theorem tr_iff (p : Prop) : tr p = true ↔ p := by simp [tr]
theorem tr_pos {p : Prop} (h : p) : tr p = true := (tr_iff p).2 h
theorem tr_neg {p : Prop} (h : ¬ p) : tr p = false := by simp [tr, h]

end Go.Proofs.YtmaogoofmebdbaaGreatDoor
