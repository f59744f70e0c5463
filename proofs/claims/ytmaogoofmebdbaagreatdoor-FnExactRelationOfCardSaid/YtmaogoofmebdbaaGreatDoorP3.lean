/-
  Plain laws: the reference's valid clocks; codes; the waves of valid clocks.
-/
import Derived.Test.YtmaogoofmebdbaaGreatDoorP2
namespace Go.Proofs.YtmaogoofmebdbaaGreatDoor
set_option linter.unusedVariables false
set_option linter.unusedSimpArgs false
open Go Go.Sx

def pNames (l : List TClock) : Prop := ∀ c ∈ l, (TClock.Name c).length ≤ 4611686018427387904

theorem cnames_get {l : List TClock} {k : Nat} {c : TClock} (h : l[k]? = some c) : (cnames l)[k]? = some (TClock.Name c) := by simp [cnames, h]

theorem specClocks_loop0_eq {l : List TClock} {k : Nat} {c : TClock} (hk : k < l.length) (h6 : l.length ≤ 6) (hc : l[k]? = some c) (hpre : PreOk l k) (hpl : plainOk c = true) :
    whileM (fun v => spec_IsClocks_loop0 l (k : Int) c v.1) ((0 : Int), ()) =
      some (if TClock.Name c ∈ (cnames l).take k then .inr false else if clockOk l k c = true then .inl ((k : Int) + 1, ()) else .inr false) := by
  refine whileM_rangeE k (fun m v => v.1 = (m : Int) ∧ TClock.Name c ∉ (cnames l).take m) _ ⟨rfl, by simp⟩ ?_ ?_
  · rintro m ⟨i, ⟨⟩⟩ hm ⟨hi, hn⟩
    simp only at hi
    subst hi
    have hx : l[m]? = some l[m] := List.getElem?_eq_getElem (by omega)
    generalize l[m] = x at hx
    have hxn := cnames_get hx
    simp only [spec_IsClocks_loop0, atI_nat, hx, Option.bind_some, show (m : Int) < (k : Int) from by omega, if_true, W_in (show (-9223372036854775808 : Int) ≤ (m : Int) + 1 by omega) (by omega)]
    split
    · rename_i e
      right
      rw [if_pos]
      rw [← e]
      refine List.mem_iff_getElem?.2 ⟨m, ?_⟩
      rw [List.getElem?_take, if_pos hm, hxn]
    · rename_i e
      refine .inl ⟨_, rfl, by simp, ?_⟩
      rw [take_snoc hxn]
      simp only [List.mem_append, List.mem_singleton, not_or]
      exact ⟨hn, fun h => e h.symm⟩
  · rintro ⟨i, ⟨⟩⟩ ⟨hi, hn⟩
    simp only at hi
    subst hi
    have hw : within (TClock.Source c) 0 (IntKind.i64.wrap ((k : Int) - 1)) = true → spec_l14Of l k = some (wvS (wave l k)) := fun hh =>
      spec_l14Of_eq (clock_wave (by omega) (by omega) (by omega) hpre (by simpa using hc) (within_src (by omega) (by omega) hh).2)
    rw [if_neg hn]
    simp only [spec_IsClocks_loop0, Int.lt_irrefl, if_false, spec_l14Primary_eq, spec_l01In_eq, Option.bind_some, W_in (show (-9223372036854775808 : Int) ≤ (k : Int) + 1 by omega) (by omega)]
    have e : clockOk l k c = (plainOk c && _) := rfl
    rw [e, hpl, Bool.true_and]
    by_cases a1 : TClock.Source c = -1
    · rw [if_pos a1, if_pos a1]
      cases primOk c <;> simp
    rw [if_neg a1, if_neg a1]
    unfold genOk
    cases hw5 : within (TClock.Source c) 0 (IntKind.i64.wrap ((k : Int) - 1))
    · simp
    rw [hw hw5]
    simp only [if_true, Bool.true_and, Option.bind_some]
    cases within (TClock.Divide c) 1 8
    · simp
    by_cases a7 : TClock.Period c = 0
    · by_cases a8 : TClock.RiseAt c = 0
      · by_cases a9 : TClock.FallAt c = 0
        · by_cases a10 : 100000 < (wave l k).period
          · have : ¬ (wave l k).period ≤ 100000 := by omega
            simp [a7, a8, a9, wvS, a10, this]
          · have : (wave l k).period ≤ 100000 := by omega
            simp [a7, a8, a9, wvS, a10, this]
        · simp [a7, a8, a9]
      · simp [a7, a8]
    · simp [a7]

theorem spec_IsClocks_eq (l : List TClock) (hn : pNames l) (hl : l.length ≤ 4611686018427387904) : spec_IsClocks l = some (tr (ClocksOk l)) := by
  unfold spec_IsClocks
  refine whileM_rangeE l.length (fun k v => v.1 = (k : Int) ∧ (0 < k → l.length ≤ 6) ∧ PreOk l k ∧ NamesOk (cnames l) k) _ ⟨rfl, by omega, fun j s hj => by omega, fun j s hj => by omega⟩ ?_ ?_
  · rintro k ⟨i, ⟨⟩⟩ hk ⟨hi, _, hS, hN⟩
    simp only at hi
    subst hi
    have hx : l[k]? = some l[k] := List.getElem?_eq_getElem hk
    generalize l[k] = x at hx
    simp only [spec_IsClocks_loop1, atI_nat, hx, Option.bind_some, show (k : Int) < (l.length : Int) from by omega, if_true]
    split
    · rename_i h6
      have h6' : l.length ≤ 6 := by omega
      rw [spec_l14Plain_eq _ (hn x (List.mem_of_getElem? hx)), Option.bind_some]
      split
      · rename_i hp
        simp only [Bool.and_eq_true] at hp
        rw [specClocks_loop0_eq hk h6' hx hS hp.2]
        split
        · rename_i hm
          right
          rw [tr_neg]
          exact fun hh => (hh.2.2 k (TClock.Name x) hk (cnames_get hx)).2 hm
        · rename_i hm
          split
          · rename_i hok
            refine .inl ⟨_, rfl, by simp, fun _ => h6', fun j d hj hd => ?_, fun j s hj hs => ?_⟩
            · by_cases e : (j : Int) < k
              · exact hS j d e hd
              · have : j = k := by omega
                subst this
                rw [hx] at hd; injection hd with hd; subst hd
                exact hok
            · by_cases e : j < k
              · exact hN j s e hs
              · have : j = k := by omega
                subst this
                rw [cnames_get hx] at hs; injection hs with hs; subst hs
                exact ⟨hp.1, hm⟩
          · rename_i hok
            right
            rw [tr_neg]
            exact fun hh => hok (hh.2.1 k x (by omega) hx)
      · rename_i hp
        right
        rw [tr_neg]
        intro hh
        have h1 := (hh.2.2 k (TClock.Name x) hk (cnames_get hx)).1
        have h2 := hh.2.1 k x (by omega) hx
        unfold clockOk at h2
        simp only [Bool.and_eq_true] at h2
        exact hp (by rw [h1, h2.1]; rfl)
    · rename_i h6
      right
      rw [tr_neg (fun hh => h6 (by have := hh.1; omega))]
      simp [h6]
  · rintro ⟨i, ⟨⟩⟩ ⟨hi, _, hS, hN⟩
    simp only at hi
    subst hi
    simp only [spec_IsClocks_loop1, Int.lt_irrefl, if_false]
    by_cases h6 : (l.length : Int) ≤ 6
    · rw [tr_pos ⟨by omega, hS, hN⟩, decide_eq_true h6]
    · rw [tr_neg (fun hh => h6 (by have := hh.1; omega)), decide_eq_false h6]

/-! ### codes -/

def allIn (l : List Int) (lo hi : Int) : Bool := l.all (fun n => within n lo hi)

theorem impl_areWithin_eq (l : List Int) (lo hi : Int) (hl : l.length ≤ 4611686018427387904) : impl_areWithin l lo hi = some (allIn l lo hi) := by
  have h1 : ∃ r, slices_IndexFunc_Sint64_int64_at_impl_areWithin_c1 l (lo, hi, ()) = some r ∧ (0 ≤ r ↔ allIn l lo hi = false) := by
    unfold slices_IndexFunc_Sint64_int64_at_impl_areWithin_c1
    refine whileM_range l.length (fun k v => v.1 = (k : Int) ∧ allIn (l.take k) lo hi = true) _ ⟨rfl, rfl⟩ ?_ ?_
    · rintro k ⟨i, ⟨⟩⟩ hk ⟨rfl, hS⟩
      have hx : l[k]? = some l[k] := List.getElem?_eq_getElem hk
      generalize l[k] = x at hx
      simp only [slices_IndexFunc_Sint64_int64_at_impl_areWithin_c1_loop0, impl_areWithin_c1, impl_within_eq, atI_nat, hx, Option.bind_some, show (k : Int) < (l.length : Int) from by omega, if_true, W_in (show (-9223372036854775808 : Int) ≤ (k : Int) + 1 by omega) (by omega)]
      cases hw : within x lo hi
      · refine .inr ⟨_, rfl, fun _ => ?_, fun _ => by simp⟩
        rw [allIn, List.all_eq_false]
        exact ⟨x, List.mem_of_getElem? hx, by simp [hw]⟩
      · refine .inl ⟨_, rfl, by simp, ?_⟩
        rw [take_snoc hx, allIn, List.all_append]
        simp only [allIn] at hS
        simp [hS, hw]
    · rintro ⟨i, ⟨⟩⟩ ⟨rfl, hS⟩
      rw [List.take_length] at hS
      simp only [slices_IndexFunc_Sint64_int64_at_impl_areWithin_c1_loop0, Int.lt_irrefl, if_false]
      exact ⟨_, rfl, fun h => by omega, fun h => by rw [hS] at h; cases h⟩
  obtain ⟨r, h1, h2⟩ := h1
  unfold impl_areWithin slices_ContainsFunc_Sint64_int64_at_impl_areWithin_c1
  rw [h1]
  simp only [Option.bind_some, h2]
  cases allIn l lo hi <;> simp

/-- the code of clocks and some of them -/
noncomputable def codeOf (l : List TClock) (ks : List Int) : Int := if tr (ClocksOk l) = true then (if allIn ks 0 ((l.length : Int) - 1) = true then 0 else 4) else 1

theorem impl_clockCode_eq (l : List TClock) (ks : List Int) (hks : ks.length ≤ 1000) : impl_clockCode l ks = some (codeOf l ks) := by
  unfold impl_clockCode impl_length_impl_Clock codeOf
  rw [impl_IsClocks_eq, Option.bind_some]
  split
  · rename_i h
    have h6 := ((tr_iff _).1 h).1
    rw [Option.bind_some, W_in (by omega) (by omega), impl_areWithin_eq _ _ _ (by omega), Option.bind_some]
    split <;> rfl
  · rfl

theorem spec_l14Code_eq (l : List TClock) (k : Int) (hn : pNames l) (hl : l.length ≤ 4611686018427387904) : spec_l14Code l k = some (codeOf l [k]) := by
  unfold spec_l14Code codeOf
  rw [spec_IsClocks_eq l hn hl, Option.bind_some]
  split
  · rw [spec_l01In_eq, Option.bind_some, W_in (by omega) (by omega)]
    simp only [allIn, List.all_cons, List.all_nil, Bool.and_true]
    split <;> rfl
  · rfl

/-! ### the waves of valid clocks -/

structure WvOk (w : Wv) : Prop where
  p1 : 2 ≤ w.period
  p2 : w.period ≤ 100000
  r1 : 0 ≤ w.rise
  r2 : w.rise < w.period
  f1 : 0 ≤ w.fall
  f2 : w.fall < w.period

theorem wvOkK {l : List TClock} {m : Int} (hm : m ≤ 6) (h : PreOk l m) : ∀ (n : Nat) (k : Int), k < n → 0 ≤ k → k < m → k < l.length → WvOk (wave l k)
  | 0, k, h1, h2, _, _ => by omega
  | n + 1, k, h1, h2, h3, h4 => by
    obtain ⟨c, hc⟩ : ∃ c, l[k.toNat]? = some c := ⟨_, List.getElem?_eq_getElem (by omega)⟩
    have hck := h k.toNat c (by omega) hc
    rw [show ((k.toNat : Nat) : Int) = k by omega] at hck
    have hsrc : SrcOk l (k + 1) := fun j d hj hd => h.src (by omega) j d (by omega) hd
    have hw := wave_eq l k h2 c hc hsrc
    simp only [clockOk, Bool.and_eq_true] at hck
    obtain ⟨hpl, hck⟩ := hck
    split at hck
    · rename_i hs
      rw [if_pos (by omega)] at hw
      simp only [primOk, within, Bool.and_eq_true, decide_eq_true_eq] at hck
      obtain ⟨⟨⟨⟨⟨⟨a1, a2⟩, a3, a4⟩, a5, a6⟩, _⟩, _⟩, _⟩ := hck
      rw [W_in (by omega) (by omega)] at a4 a6
      rw [hw]
      constructor <;> simp only <;> omega
    · simp only [genOk, within, Bool.and_eq_true, decide_eq_true_eq] at hck
      obtain ⟨⟨⟨⟨⟨⟨a1, a2⟩, a3, a4⟩, _⟩, _⟩, _⟩, a5⟩ := hck
      rw [W_in (by omega) (by omega)] at a2
      rw [if_neg (by omega)] at hw
      have ih := wvOkK hm h n (TClock.Source c) (by omega) a1 (by omega) (by omega)
      have b1 := ih.p1; have b2 := ih.p2; have b3 := ih.r1; have b4 := ih.r2; have b5 := ih.f1; have b6 := ih.f2
      rw [hw] at a5 ⊢
      clear hw ih
      simp only [wstep] at a5 ⊢
      generalize wave l (TClock.Source c) = w at *
      generalize TClock.Divide c = dv at *
      have q1 : 0 ≤ dv.tdiv 2 ∧ dv.tdiv 2 ≤ 4 := by
        rw [Int.tdiv_eq_ediv_of_nonneg (by omega)]; omega
      have q2 : 2 * 1 ≤ dv * w.period ∧ dv * w.period ≤ 8 * 100000 := by
        constructor
        · have := Int.mul_le_mul a3 b1 (by omega) (by omega); omega
        · exact Int.mul_le_mul a4 b2 (by omega) (by omega)
      have q3 : 0 ≤ dv.tdiv 2 * w.period ∧ dv.tdiv 2 * w.period ≤ 4 * 100000 := by
        constructor
        · exact Int.mul_nonneg q1.1 (by omega)
        · exact Int.mul_le_mul q1.2 b2 (by omega) (by omega)
      have q4 : 1 < dv → dv.tdiv 2 * w.period ≤ dv * w.period - w.period := by
        intro hd
        have h1 : dv.tdiv 2 ≤ dv - 1 := by rw [Int.tdiv_eq_ediv_of_nonneg (by omega)]; omega
        have := Int.mul_le_mul_of_nonneg_right h1 (show 0 ≤ w.period by omega)
        rw [Int.sub_mul, Int.one_mul] at this
        exact this
      have q5 : 1 < dv → w.period ≤ dv * w.period := by
        intro hd
        have := Int.mul_le_mul_of_nonneg_right (show (1 : Int) ≤ dv by omega) (show 0 ≤ w.period by omega)
        rw [Int.one_mul] at this
        exact this
      rw [W_in (n := dv * w.period) (by omega) (by omega), W_in (n := dv.tdiv 2) (by omega) (by omega), W_in (n := dv.tdiv 2 * w.period) (by omega) (by omega), W_in (n := w.rise + dv.tdiv 2 * w.period) (by omega) (by omega)] at a5 ⊢
      by_cases c1 : 1 < dv <;> by_cases c2 : TClock.Invert c = true
      all_goals simp only [c1, c2, if_true, if_false, Bool.false_eq_true, true_implies, false_implies] at a5 q4 q5 ⊢
      all_goals (constructor <;> (try simp only) <;> omega)

theorem wvOk {l : List TClock} {k : Int} (h : ClocksOk l) (h0 : 0 ≤ k) (hk : k < l.length) : WvOk (wave l k) := by
  have h6 := h.1
  exact wvOkK (by omega) h.2.1 (k.toNat + 1) k (by omega) h0 hk hk

theorem pWave_of {l : List TClock} {k : Int} (h : ClocksOk l) (h0 : 0 ≤ k) (hk : k < l.length) : pWave l k :=
  ⟨h0, hk, fun j c hj hc => h.2.1.src (by have := h.1; omega) j c (by omega) hc⟩

theorem pHyper_of {l : List TClock} {a b : Int} (h : ClocksOk l) (ha0 : 0 ≤ a) (ha : a < l.length) (hb0 : 0 ≤ b) (hb : b < l.length) : PHyper l a b :=
  ⟨pWave_of h ha0 ha, pWave_of h hb0 hb, by have := (wvOk h ha0 ha).p1; omega, by have := (wvOk h hb0 hb).p1; omega⟩

end Go.Proofs.YtmaogoofmebdbaaGreatDoor
