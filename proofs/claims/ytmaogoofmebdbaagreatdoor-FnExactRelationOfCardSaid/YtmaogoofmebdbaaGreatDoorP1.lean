/-
  Plain laws: bounds, names.
-/
import Derived.Test.YtmaogoofmebdbaaGreatDoorM
import Derived.Test.YtmaogoofmebdbaaGreatDoorP0
namespace Go.Proofs.YtmaogoofmebdbaaGreatDoor
set_option linter.unusedVariables false
set_option linter.unusedSimpArgs false
open Go Go.Sx

def within (n a b : Int) : Bool := decide (a ≤ n) && decide (n ≤ b)
theorem impl_within_eq (n a b : Int) : impl_within n a b = some (within n a b) := by
  unfold impl_within within; split <;> simp [*]
theorem spec_l01In_eq (n a b : Int) : spec_l01In n a b = some (within n a b) := by
  unfold spec_l01In within; split <;> simp [*]
theorem within_iff (n a b : Int) : within n a b = true ↔ a ≤ n ∧ n ≤ b := by simp [within]

/-! ### names -/

def isLow (b : UInt8) : Bool := decide (97 ≤ b.toNat) && decide (b.toNat ≤ 122)
def isDig (b : UInt8) : Bool := decide (48 ≤ b.toNat) && decide (b.toNat ≤ 57)
def nameOk (s : List UInt8) : Bool := decide (1 ≤ s.length) && decide (s.length ≤ 8) && s.all (fun b => isLow b || isDig b) && (match s with
  | b :: _ => isLow b
  | [] => false)

/-- the first i bytes serve -/
def Served (s : List UInt8) (i : Nat) : Prop := ∀ (j : Nat) (b : UInt8), j < i → s[j]? = some b → (isLow b || isDig b) = true ∧ (j = 0 → isLow b = true)

theorem served_succ {s : List UInt8} {i : Nat} {x : UInt8} (h : Served s i) (hx : s[i]? = some x) (h1 : (isLow x || isDig x) = true) (h2 : i = 0 → isLow x = true) : Served s (i + 1) := by
  intro j b hj hb
  by_cases e : j < i
  · exact h j b e hb
  · have : j = i := by omega
    subst this
    rw [hx] at hb; injection hb with hb; subst hb
    exact ⟨h1, h2⟩

theorem nameOk_served {s : List UInt8} (h : Served s s.length) : nameOk s = (decide (1 ≤ s.length) && decide (s.length ≤ 8)) := by
  unfold nameOk
  have h1 : s.all (fun b => isLow b || isDig b) = true := by
    rw [List.all_eq_true]
    intro b hb
    obtain ⟨j, hj⟩ := List.mem_iff_getElem?.1 hb
    exact (h j b (List.getElem?_eq_some_iff.1 hj).1 hj).1
  rw [h1]
  cases s with
  | nil => rfl
  | cons b r =>
    have := (h 0 b (by simp) rfl).2 rfl
    simp [this]

theorem nameOk_bad {s : List UInt8} {j : Nat} {b : UInt8} (hb : s[j]? = some b) (h : (isLow b || isDig b) = false ∨ j = 0 ∧ isLow b = false) : nameOk s = false := by
  unfold nameOk
  rcases h with h | ⟨rfl, h⟩
  · have : s.all (fun b => isLow b || isDig b) = false := by
      rw [List.all_eq_false]
      exact ⟨b, List.mem_of_getElem? hb, by simp [h]⟩
    simp [this]
  · cases s with
    | nil => simp at hb
    | cons c r => simp at hb; subst hb; simp [h]

theorem spec_l03Name_eq (s : List UInt8) (hl : s.length ≤ 4611686018427387904) : spec_l03Name s = some (nameOk s) := by
  unfold spec_l03Name
  refine whileM_rangeE s.length (fun k v => v.1 = (k : Int) ∧ Served s k) _ ⟨rfl, fun j b hj => by omega⟩ ?_ ?_
  · rintro k ⟨i, ⟨⟩⟩ hk ⟨rfl, hS⟩
    have hx : s[k]? = some s[k] := List.getElem?_eq_getElem hk
    generalize s[k] = x at hx
    simp only [spec_l03Name_loop0, atI_nat, hx, Option.bind_some, show (k : Int) < (s.length : Int) from by omega, if_true, W_in (show (-9223372036854775808 : Int) ≤ (k : Int) + 1 by omega) (by omega)]
    have ok : (isLow x || isDig x) = true → (k = 0 → isLow x = true) → (((k : Int) + 1, ()) : Int × Unit).1 = ((k + 1 : Nat) : Int) ∧ Served s (k + 1) := fun h1 h2 => ⟨by simp, served_succ hS hx h1 h2⟩
    have bad : ((isLow x || isDig x) = false ∨ k = 0 ∧ isLow x = false) → (some (Sum.inr false) : Option (Int × Unit ⊕ Bool)) = some (Sum.inr (nameOk s)) := fun h => by rw [nameOk_bad hx h]
    simp only [isLow, isDig] at ok bad
    repeat' split
    all_goals first
      | (left; refine ⟨_, rfl, ok ?_ ?_⟩ <;> simp <;> omega)
      | (right; refine bad ?_; first | (left; simp; omega) | (right; simp; omega))
  · rintro ⟨i, ⟨⟩⟩ ⟨rfl, hS⟩
    simp only [spec_l03Name_loop0, Int.lt_irrefl, if_false]
    rw [nameOk_served hS]
    split
    · rename_i h
      have h1 : 1 ≤ s.length := by omega
      have h2 : decide ((s.length : Int) ≤ 8) = decide (s.length ≤ 8) := by rw [decide_eq_decide]; omega
      simp [h1, h2]
    · have h1 : ¬ 1 ≤ s.length := by omega
      simp [h1]

theorem dropWhile_nil {p : UInt8 → Bool} : ∀ (m : List UInt8), (∀ x ∈ m.dropWhile p, p x = true) → ∀ x ∈ m, p x = true
  | [], _ => by simp
  | a :: m, h => by
    by_cases ha : p a = true
    · rw [List.dropWhile_cons_of_pos ha] at h
      intro x hx
      rcases List.mem_cons.1 hx with rfl | hx
      · exact ha
      · exact dropWhile_nil m h x hx
    · rw [List.dropWhile_cons_of_neg ha] at h
      exact absurd (h a (by simp)) ha

theorem dropWhile_all {p : UInt8 → Bool} : ∀ (m : List UInt8), m.dropWhile p = [] ↔ ∀ x ∈ m, p x = true
  | [] => by simp
  | a :: m => by
    by_cases ha : p a = true
    · rw [List.dropWhile_cons_of_pos ha, dropWhile_all m]; simp [ha]
    · rw [List.dropWhile_cons_of_neg ha]; simp [ha]

/-- all letters and digits: nothing is left by Trim -/
theorem trimS_nil (s cs : List UInt8) : Lib.trimS s cs = [] ↔ ∀ b ∈ s, cs.contains b = true := by
  unfold Lib.trimS Lib.trimLeftS Lib.trimRightS
  rw [dropWhile_all]
  constructor
  · intro h b hb
    exact dropWhile_nil s.reverse (fun x hx => h x (List.mem_reverse.2 hx)) b (List.mem_reverse.2 hb)
  · intro h b hb
    exact h b (List.mem_reverse.1 ((List.dropWhile_sublist _).subset (List.mem_reverse.1 hb)))

def letters : List UInt8 := [97, 98, 99, 100, 101, 102, 103, 104, 105, 106, 107, 108, 109, 110, 111, 112, 113, 114, 115, 116, 117, 118, 119, 120, 121, 122]
def lettersDigits : List UInt8 := letters ++ [48, 49, 50, 51, 52, 53, 54, 55, 56, 57]

theorem all_u8 {p : UInt8 → Bool} (h : (List.range 256).all (fun n => p (UInt8.ofNat n)) = true) (b : UInt8) : p b = true := by
  rw [List.all_eq_true] at h
  have := h b.toNat (List.mem_range.2 b.toNat_lt)
  simpa using this
theorem contains_letters (b : UInt8) : letters.contains b = isLow b := by
  have := all_u8 (p := fun b => letters.contains b == isLow b) (by decide +kernel) b
  simpa using this
theorem contains_lettersDigits (b : UInt8) : lettersDigits.contains b = (isLow b || isDig b) := by
  have := all_u8 (p := fun b => lettersDigits.contains b == (isLow b || isDig b)) (by decide +kernel) b
  simpa using this
theorem trim_name (s : List UInt8) : Lib.trimS s lettersDigits = [] ↔ s.all (fun b => isLow b || isDig b) = true := by
  rw [trimS_nil, List.all_eq_true]
  simp only [contains_lettersDigits]
theorem index_letters (b : UInt8) : decide (0 ≤ (Lib.indexByte letters b : Int)) = isLow b := by
  have := all_u8 (p := fun b => decide (0 ≤ (Lib.indexByte letters b : Int)) == isLow b) (by decide +kernel) b
  simpa using this

theorem impl_isName_eq (s : List UInt8) : impl_isName s = some (nameOk s) := by
  unfold impl_isName
  rw [impl_within_eq, Option.bind_some]
  split
  · rename_i h
    rw [within_iff] at h
    rw [guardO_pos (by omega)]
    split
    · rename_i ht
      have ht' := (trim_name s).1 ht
      cases s with
      | nil => simp at h
      | cons b r =>
        have e : atI (b :: r) (0 : Int) = some b := rfl
        rw [e, Option.bind_some]
        have e1 : ((b.toNat : Int)).toNat.toUInt8 = b := by simp
        rw [e1]
        have h1 : 1 ≤ (b :: r).length := by simp
        have h2 : (b :: r).length ≤ 8 := by omega
        have := index_letters b
        unfold letters at this
        rw [this]
        simp only [nameOk, ht', decide_eq_true h1, decide_eq_true h2, Bool.true_and]
    · rename_i ht
      have ht' : ¬ s.all (fun b => isLow b || isDig b) = true := fun e => ht ((trim_name s).2 e)
      simp only [nameOk, Bool.eq_false_iff.2 ht', Bool.and_false, Bool.false_and]
  · rename_i h
    rw [within_iff] at h
    have : ¬ (1 ≤ s.length ∧ s.length ≤ 8) := by omega
    rw [eq_comm]
    congr 1
    rw [Bool.eq_false_iff]
    intro hh
    simp only [nameOk, Bool.and_eq_true, decide_eq_true_eq] at hh
    omega

/-! ### names in lists -/

theorem slices_IndexS_eq (l : List (List UInt8)) (s : List UInt8) (hl : l.length ≤ 4611686018427387904) : ∃ r, slices_Index_Sstring_string l s = some r ∧ (0 ≤ r ↔ s ∈ l) := by
  unfold slices_Index_Sstring_string
  refine whileM_range l.length (fun k v => v.1 = (k : Int) ∧ s ∉ l.take k) _ ⟨rfl, by simp⟩ ?_ ?_
  · rintro k ⟨i, ⟨⟩⟩ hk ⟨rfl, hS⟩
    have hx : l[k]? = some l[k] := List.getElem?_eq_getElem hk
    generalize l[k] = x at hx
    simp only [slices_Index_Sstring_string_loop0, atI_nat, hx, Option.bind_some, show (k : Int) < (l.length : Int) from by omega, if_true, W_in (show (-9223372036854775808 : Int) ≤ (k : Int) + 1 by omega) (by omega)]
    split
    · rename_i e; subst e
      exact .inr ⟨_, rfl, fun _ => List.mem_of_getElem? hx, fun _ => by simp⟩
    · rename_i e
      exact .inl ⟨_, rfl, by simp, by rw [take_snoc hx]; simp [hS, e]⟩
  · rintro ⟨i, ⟨⟩⟩ ⟨rfl, hS⟩
    simp only [slices_Index_Sstring_string_loop0, Int.lt_irrefl, if_false]
    refine ⟨_, rfl, fun h => by omega, fun h => absurd h (by simpa using hS)⟩

theorem slices_ContainsS_eq (l : List (List UInt8)) (s : List UInt8) (hl : l.length ≤ 4611686018427387904) : slices_Contains_Sstring_string l s = some (decide (s ∈ l)) := by
  obtain ⟨r, h1, h2⟩ := slices_IndexS_eq l s hl
  unfold slices_Contains_Sstring_string
  rw [h1, Option.bind_some]
  simp only [h2]

/-- the first k names are names, and different -/
def NamesOk (l : List (List UInt8)) (k : Nat) : Prop := ∀ (j : Nat) (s : List UInt8), j < k → l[j]? = some s → nameOk s = true ∧ s ∉ l.take j

theorem impl_areNames_eq (l : List (List UInt8)) (hl : l.length ≤ 4611686018427387904) : impl_areNames l = some (tr (NamesOk l l.length)) := by
  unfold impl_areNames
  refine whileM_rangeE l.length (fun k v => v.1 = (k : Int) ∧ NamesOk l k) _ ⟨rfl, fun j s hj => by omega⟩ ?_ ?_
  · rintro k ⟨i, ⟨⟩⟩ hk ⟨rfl, hS⟩
    have hx : l[k]? = some l[k] := List.getElem?_eq_getElem hk
    generalize l[k] = x at hx
    simp only [impl_areNames_loop0, atI_nat, hx, Option.bind_some, show (k : Int) < (l.length : Int) from by omega, if_true, W_in (show (-9223372036854775808 : Int) ≤ (k : Int) + 1 by omega) (by omega), impl_isName_eq]
    split
    · rename_i hn
      rw [guardO_pos (by omega), guardO_pos (by omega)]
      simp only [Int.toNat_natCast, Int.toNat_zero, List.drop_zero, Nat.sub_zero]
      rw [slices_ContainsS_eq _ _ (by simp only [List.length_take]; omega), Option.bind_some]
      split
      · rename_i hm
        right
        rw [tr_neg]
        intro hh
        exact (hh k x hk hx).2 (by simpa using hm)
      · rename_i hm
        refine .inl ⟨_, rfl, by simp, fun j s hj hs => ?_⟩
        by_cases e : j < k
        · exact hS j s e hs
        · have : j = k := by omega
          subst this
          rw [hx] at hs; injection hs with hs; subst hs
          exact ⟨hn, by simpa using hm⟩
    · rename_i hn
      right
      rw [tr_neg]
      intro hh
      exact hn (hh k x hk hx).1
  · rintro ⟨i, ⟨⟩⟩ ⟨rfl, hS⟩
    simp only [impl_areNames_loop0, Int.lt_irrefl, if_false]
    rw [tr_pos hS]

end Go.Proofs.YtmaogoofmebdbaaGreatDoor
