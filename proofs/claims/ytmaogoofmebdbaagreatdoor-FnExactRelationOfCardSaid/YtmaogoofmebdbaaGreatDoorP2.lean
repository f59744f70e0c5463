/-
  Plain laws: clocks, their waves, roots, periods; which clocks are valid.
-/
import Derived.Test.YtmaogoofmebdbaaGreatDoorP1
namespace Go.Proofs.YtmaogoofmebdbaaGreatDoor
set_option linter.unusedVariables false
set_option linter.unusedSimpArgs false
open Go Go.Sx

structure Wv where
  period : Int
  rise : Int
  fall : Int

def wstep (c : TClock) (w : Wv) : Wv :=
  let w1 : Wv := if 1 < TClock.Divide c then ⟨IntKind.i64.wrap (TClock.Divide c * w.period), w.rise, IntKind.i64.wrap (w.rise + IntKind.i64.wrap (IntKind.i64.wrap ((TClock.Divide c).tdiv 2) * w.period))⟩ else w
  if TClock.Invert c = true then ⟨w1.period, w1.fall, w1.rise⟩ else w1

def waveF (l : List TClock) : Nat → Int → Wv
  | 0, _ => ⟨0, 0, 0⟩
  | n + 1, k => match l[k.toNat]? with
    | none => ⟨0, 0, 0⟩
    | some c => if TClock.Source c < 0 then ⟨TClock.Period c, TClock.RiseAt c, TClock.FallAt c⟩ else wstep c (waveF l n (TClock.Source c))

def wave (l : List TClock) (k : Int) : Wv := waveF l (k.toNat + 1) k

/-- the sources of the first m clocks lie ahead of them -/
def SrcOk (l : List TClock) (m : Int) : Prop := ∀ (j : Nat) (c : TClock), (j : Int) < m → l[j]? = some c → TClock.Source c < (j : Int)

theorem waveF_fuel (l : List TClock) : ∀ (n : Nat) (k : Int), 0 ≤ k → k < n → SrcOk l (k + 1) → waveF l n k = wave l k
  | 0, k, h0, h1, _ => by omega
  | n + 1, k, h0, h1, hs => by
    unfold wave
    simp only [waveF]
    cases hc : l[k.toNat]? with
    | none => rfl
    | some c =>
      simp only
      split
      · rfl
      · rename_i hsrc
        have hlt := hs k.toNat c (by omega) hc
        have hs' : SrcOk l (TClock.Source c + 1) := fun j c' hj hc' => hs j c' (by omega) hc'
        have e1 := waveF_fuel l n (TClock.Source c) (by omega) (by omega) hs'
        rw [e1]
        have : ∀ m : Nat, TClock.Source c < m → m < n + 1 → waveF l m (TClock.Source c) = wave l (TClock.Source c) := fun m hm hmn => waveF_fuel l m (TClock.Source c) (by omega) hm hs'
        by_cases hk : k.toNat < n + 1 ∧ TClock.Source c < (k.toNat : Int)
        · rw [this k.toNat hk.2 hk.1]
        · omega
  termination_by n => n

theorem wave_eq (l : List TClock) (k : Int) (h0 : 0 ≤ k) (c : TClock) (hc : l[k.toNat]? = some c) (hs : SrcOk l (k + 1)) :
    wave l k = if TClock.Source c < 0 then ⟨TClock.Period c, TClock.RiseAt c, TClock.FallAt c⟩ else wstep c (wave l (TClock.Source c)) := by
  unfold wave
  rw [waveF, hc]
  simp only
  split
  · rfl
  · rename_i hsrc
    have hlt := hs k.toNat c (by omega) hc
    rw [waveF_fuel l k.toNat (TClock.Source c) (by omega) hlt (fun j c' hj hc' => hs j c' (by omega) hc')]
    rfl

def wvI (w : Wv) : Twave := (w.period, (w.rise, w.fall, ()), ())
def wvS (w : Wv) : Tl14Wave := (w.period, w.rise, w.fall, ())

def pWave (l : List TClock) (k : Int) : Prop := 0 ≤ k ∧ k < l.length ∧ SrcOk l (k + 1)

theorem impl_waveOf_n_eq (l : List TClock) : ∀ (n : Nat) (k : Int), pWave l k → (∀ r, impl_waveOf_n n l k = some r → r = wvI (wave l k)) ∧ (k < n → impl_waveOf_n n l k = some (wvI (wave l k)))
  | 0, k, hp => ⟨fun r h => by simp [impl_waveOf_n] at h, fun h => by have := hp.1; omega⟩
  | n + 1, k, hp => by
    obtain ⟨h0, h1, h2⟩ := hp
    obtain ⟨c, hc, hc'⟩ := atI_ex h0 h1
    have hw := wave_eq l k h0 c hc' h2
    simp only [impl_waveOf_n, impl_waveOf_body, hc, Option.bind_some]
    split
    · rename_i hs
      rw [if_pos hs] at hw
      rw [hw]
      exact ⟨fun r h => by injection h with h; exact h.symm, fun _ => rfl⟩
    · rename_i hs
      rw [if_neg hs] at hw
      have hlt := h2 k.toNat c (by omega) hc'
      have ih := impl_waveOf_n_eq l n (TClock.Source c) ⟨by omega, by omega, fun j d hj hd => h2 j d (by omega) hd⟩
      have fin : ∀ o : Option Twave, (∀ r, o = some r → r = wvI (wave l (TClock.Source c))) → ∀ F : Twave → Option Twave, F (wvI (wave l (TClock.Source c))) = some (wvI (wave l k)) → (∀ r, o.bind F = some r → r = wvI (wave l k)) ∧ (o ≠ none → o.bind F = some (wvI (wave l k))) := by
        intro o ho F hF
        cases o with
        | none => exact ⟨fun r h => (by cases h), fun h => absurd rfl h⟩
        | some x =>
          have := ho x rfl
          subst this
          rw [Option.bind_some, hF]
          exact ⟨fun r h => by injection h with h; exact h.symm, fun _ => rfl⟩
      refine And.imp_right (fun h2 hk => h2 (by rw [ih.2 (by omega)]; simp)) (fin _ ih.1 _ ?_)
      rw [hw]
      simp only [wstep, wvI]
      split <;> split <;> simp [*]

theorem impl_waveOf_eq {l : List TClock} {k : Int} (hp : pWave l k) : impl_waveOf l k = some (wvI (wave l k)) :=
  recM_eq ⟨k.toNat + 1, (impl_waveOf_n_eq l _ k hp).2 (by have := hp.1; omega)⟩ (fun n r h => (impl_waveOf_n_eq l n k hp).1 r h)

theorem spec_l14Of_n_eq (l : List TClock) : ∀ (n : Nat) (k : Int), pWave l k → (∀ r, spec_l14Of_n n l k = some r → r = wvS (wave l k)) ∧ (k < n → spec_l14Of_n n l k = some (wvS (wave l k)))
  | 0, k, hp => ⟨fun r h => by simp [spec_l14Of_n] at h, fun h => by have := hp.1; omega⟩
  | n + 1, k, hp => by
    obtain ⟨h0, h1, h2⟩ := hp
    obtain ⟨c, hc, hc'⟩ := atI_ex h0 h1
    have hw := wave_eq l k h0 c hc' h2
    simp only [spec_l14Of_n, spec_l14Of_body, hc, Option.bind_some]
    split
    · rename_i hs
      rw [if_pos hs] at hw
      rw [hw]
      exact ⟨fun r h => by injection h with h; exact h.symm, fun _ => rfl⟩
    · rename_i hs
      rw [if_neg hs] at hw
      have hlt := h2 k.toNat c (by omega) hc'
      have ih := spec_l14Of_n_eq l n (TClock.Source c) ⟨by omega, by omega, fun j d hj hd => h2 j d (by omega) hd⟩
      have fin : ∀ o : Option Tl14Wave, (∀ r, o = some r → r = wvS (wave l (TClock.Source c))) → ∀ F : Tl14Wave → Option Tl14Wave, F (wvS (wave l (TClock.Source c))) = some (wvS (wave l k)) → (∀ r, o.bind F = some r → r = wvS (wave l k)) ∧ (o ≠ none → o.bind F = some (wvS (wave l k))) := by
        intro o ho F hF
        cases o with
        | none => exact ⟨fun r h => (by cases h), fun h => absurd rfl h⟩
        | some x =>
          have := ho x rfl
          subst this
          rw [Option.bind_some, hF]
          exact ⟨fun r h => by injection h with h; exact h.symm, fun _ => rfl⟩
      refine And.imp_right (fun h2 hk => h2 (by rw [ih.2 (by omega)]; simp)) (fin _ ih.1 _ ?_)
      rw [hw]
      simp only [wstep, wvS]
      split <;> split <;> simp [*, Int.mul_comm]

theorem spec_l14Of_eq {l : List TClock} {k : Int} (hp : pWave l k) : spec_l14Of l k = some (wvS (wave l k)) :=
  recM_eq ⟨k.toNat + 1, (spec_l14Of_n_eq l _ k hp).2 (by have := hp.1; omega)⟩ (fun n r h => (spec_l14Of_n_eq l n k hp).1 r h)

/-! ### roots -/

def rootF (l : List TClock) : Nat → Int → Int
  | 0, k => k
  | n + 1, k => match l[k.toNat]? with
    | none => k
    | some c => if TClock.Source c < 0 then k else rootF l n (TClock.Source c)
def root (l : List TClock) (k : Int) : Int := rootF l (k.toNat + 1) k

theorem rootF_fuel (l : List TClock) : ∀ (n m : Nat) (k : Int), 0 ≤ k → k < n → k < m → SrcOk l (k + 1) → rootF l n k = rootF l m k
  | 0, m, k, h0, h1, _, _ => by omega
  | n + 1, 0, k, h0, _, h1, _ => by omega
  | n + 1, m + 1, k, h0, h1, h2, hs => by
    simp only [rootF]
    cases hc : l[k.toNat]? with
    | none => rfl
    | some c =>
      simp only
      split
      · rfl
      · have hlt := hs k.toNat c (by omega) hc
        exact rootF_fuel l n m (TClock.Source c) (by omega) (by omega) (by omega) (fun j c' hj hc' => hs j c' (by omega) hc')

theorem root_eq (l : List TClock) (k : Int) (h0 : 0 ≤ k) (c : TClock) (hc : l[k.toNat]? = some c) (hs : SrcOk l (k + 1)) : root l k = if TClock.Source c < 0 then k else root l (TClock.Source c) := by
  unfold root
  rw [rootF, hc]
  simp only
  split
  · rfl
  · rename_i hsrc
    have hlt := hs k.toNat c (by omega) hc
    exact rootF_fuel l _ _ (TClock.Source c) (by omega) (by omega) (by omega) (fun j c' hj hc' => hs j c' (by omega) hc')

theorem impl_rootOf_eq {l : List TClock} {k : Int} (hp : pWave l k) : impl_rootOf l k = some (root l k) := by
  unfold impl_rootOf
  refine whileM_invE (fun v => pWave l v.1 ∧ root l v.1 = root l k) (fun v => v.1.toNat) _ ⟨hp, rfl⟩ ?_
  rintro ⟨v, ⟨⟩⟩ ⟨⟨h0, h1, h2⟩, hr⟩
  obtain ⟨c, hc, hc'⟩ := atI_ex h0 h1
  have he := root_eq l v h0 c hc' h2
  simp only at hr
  simp only [impl_rootOf_loop0, hc, Option.bind_some]
  split
  · rename_i hs
    have hlt := h2 v.toNat c (by omega) hc'
    rw [if_neg (by omega)] at he
    exact .inl ⟨_, rfl, ⟨⟨hs, by dsimp only; omega, fun j d hj hd => h2 j d (by dsimp only at hj; omega) hd⟩, by rw [← hr, he]⟩, by dsimp only; omega⟩
  · rename_i hs
    rw [if_pos (by omega)] at he
    exact .inr (by rw [← hr, he])

theorem spec_l14Root_eq {l : List TClock} {k : Int} (hp : pWave l k) : spec_l14Root l k = some (root l k) := by
  unfold spec_l14Root
  refine whileM_invE (fun v => pWave l v.1 ∧ root l v.1 = root l k) (fun v => v.1.toNat) _ ⟨hp, rfl⟩ ?_
  rintro ⟨v, ⟨⟩⟩ ⟨⟨h0, h1, h2⟩, hr⟩
  obtain ⟨c, hc, hc'⟩ := atI_ex h0 h1
  have he := root_eq l v h0 c hc' h2
  simp only at hr
  simp only [spec_l14Root_loop0, hc, Option.bind_some]
  split
  · rename_i hs
    have hlt := h2 v.toNat c (by omega) hc'
    rw [if_neg (by omega)] at he
    exact .inl ⟨_, rfl, ⟨⟨hs, by dsimp only; omega, fun j d hj hd => h2 j d (by dsimp only at hj; omega) hd⟩, by rw [← hr, he]⟩, by dsimp only; omega⟩
  · rename_i hs
    rw [if_pos (by omega)] at he
    exact .inr (by rw [← hr, he])

/-! ### greatest common divisors, periods -/

theorem gcd_step (a b : Int) (h1 : 0 ≤ a) : Int.gcd b (a.tmod b) = Int.gcd a b := by
  rw [Int.tmod_eq_emod_of_nonneg h1, Int.gcd_comm, Int.emod_def]
  simp

theorem impl_gcd_eq {a b : Int} (h1 : 0 ≤ a) (h2 : 0 ≤ b) : impl_gcd a b = some (Int.gcd a b : Int) := by
  unfold impl_gcd
  refine whileM_invE (fun v => 0 ≤ v.1 ∧ 0 ≤ v.2.1 ∧ Int.gcd v.1 v.2.1 = Int.gcd a b) (fun v => v.2.1.toNat) _ ⟨h1, h2, rfl⟩ ?_
  rintro ⟨x, y, ⟨⟩⟩ ⟨g1, g2, g3⟩
  simp only at g1 g2 g3
  simp only [impl_gcd_loop0]
  split
  · rename_i hs
    subst hs
    right
    rw [← g3, Int.gcd_zero_right]
    congr 2; omega
  · rename_i hs
    rw [guardO_pos hs]
    have b1 := Int.tmod_nonneg y g1
    have b2 := Int.tmod_lt_of_pos x (show 0 < y by omega)
    exact .inl ⟨_, rfl, ⟨g2, b1, by rw [← g3]; exact gcd_step x y g1⟩, by dsimp only; omega⟩

theorem spec_l14Gcd_eq {a b : Int} (h1 : 0 ≤ a) (h2 : 0 ≤ b) : spec_l14Gcd a b = some (Int.gcd a b : Int) := by
  unfold spec_l14Gcd
  refine whileM_invE (fun v => 0 ≤ v.1 ∧ 0 ≤ v.2.1 ∧ Int.gcd v.1 v.2.1 = Int.gcd a b) (fun v => v.2.1.toNat) _ ⟨h1, h2, rfl⟩ ?_
  rintro ⟨x, y, ⟨⟩⟩ ⟨g1, g2, g3⟩
  simp only at g1 g2 g3
  simp only [spec_l14Gcd_loop0]
  split
  · rename_i hs
    rw [guardO_pos (by omega)]
    have b1 := Int.tmod_nonneg y g1
    have b2 := Int.tmod_lt_of_pos x (show 0 < y by omega)
    exact .inl ⟨_, rfl, ⟨g2, b1, by rw [← g3]; exact gcd_step x y g1⟩, by dsimp only; omega⟩
  · rename_i hs
    have hy : y = 0 := by omega
    subst hy
    right
    rw [← g3, Int.gcd_zero_right]
    congr 2; omega

def hyp (x y : Int) : Int := IntKind.i64.wrap (IntKind.i64.wrap (x.tdiv (Int.gcd x y)) * y)
structure PHyper (l : List TClock) (a b : Int) : Prop where
  wa : pWave l a
  wb : pWave l b
  pa : 1 ≤ (wave l a).period
  pb : 1 ≤ (wave l b).period

theorem PHyper.gcd {l : List TClock} {a b : Int} (h : PHyper l a b) : ((Int.gcd (wave l a).period (wave l b).period : Nat) : Int) ≠ 0 := by
  have := h.pa
  have h2 : Int.gcd (wave l a).period (wave l b).period ≠ 0 := by
    intro e
    rw [Int.gcd_eq_zero_iff] at e
    omega
  omega

theorem impl_hyperPeriod_eq {l : List TClock} {a b : Int} (h : PHyper l a b) : impl_hyperPeriod l a b = some (hyp (wave l a).period (wave l b).period) := by
  unfold impl_hyperPeriod
  rw [impl_waveOf_eq h.wa, Option.bind_some, impl_waveOf_eq h.wb, Option.bind_some]
  have ha := h.pa; have hb := h.pb
  simp only [wvI, Twave.period]
  rw [impl_gcd_eq (by omega) (by omega), Option.bind_some, guardO_pos h.gcd]
  rfl

theorem spec_l14Hyper_eq {l : List TClock} {a b : Int} (h : PHyper l a b) : spec_l14Hyper l a b = some (hyp (wave l a).period (wave l b).period) := by
  unfold spec_l14Hyper
  rw [spec_l14Of_eq h.wa, Option.bind_some, spec_l14Of_eq h.wb, Option.bind_some]
  have ha := h.pa; have hb := h.pb
  simp only [wvS, Tl14Wave.period]
  rw [spec_l14Gcd_eq (by omega) (by omega), Option.bind_some, guardO_pos h.gcd]
  rfl

/-! ### valid clocks -/

def plainOk (c : TClock) : Bool := decide (0 ≤ TClock.Place c) && decide (0 ≤ TClock.EarlyLatency c) && decide (TClock.EarlyLatency c ≤ TClock.LateLatency c) && decide (TClock.LateLatency c ≤ 100000) && within (TClock.Uncertainty c) 0 100000
def primOk (c : TClock) : Bool := within (TClock.Period c) 2 100000 && within (TClock.RiseAt c) 0 (IntKind.i64.wrap (TClock.Period c - 1)) && within (TClock.FallAt c) 0 (IntKind.i64.wrap (TClock.Period c - 1)) && decide (TClock.RiseAt c ≠ TClock.FallAt c) && decide (TClock.Divide c = 1) && !TClock.Invert c
def genOk (l : List TClock) (k : Int) (c : TClock) : Bool := within (TClock.Source c) 0 (IntKind.i64.wrap (k - 1)) && within (TClock.Divide c) 1 8 && decide (TClock.Period c = 0) && decide (TClock.RiseAt c = 0) && decide (TClock.FallAt c = 0) && decide ((wave l k).period ≤ 100000)
def clockOk (l : List TClock) (k : Int) (c : TClock) : Bool := plainOk c && (if TClock.Source c = -1 then primOk c else genOk l k c)

theorem impl_isPrimary_eq (c : TClock) : impl_Clock_isPrimary c = some (primOk c) := by
  unfold impl_Clock_isPrimary
  simp only [impl_within_eq, Option.bind_some]
  repeat' split
  all_goals simp [primOk, *]

theorem spec_l14Primary_eq (c : TClock) : spec_l14Primary c = some (primOk c) := by
  unfold spec_l14Primary
  simp only [spec_l01In_eq, Option.bind_some]
  repeat' split
  all_goals simp [primOk, *]

theorem plain_eq (c : TClock) : plainOk c = (decide (0 ≤ TClock.Place c) && within (TClock.EarlyLatency c) 0 100000 && within (TClock.LateLatency c) (TClock.EarlyLatency c) 100000 && within (TClock.Uncertainty c) 0 100000) := by
  rw [Bool.eq_iff_iff]
  simp only [plainOk, within, Bool.and_eq_true, decide_eq_true_eq]
  omega

theorem spec_l14Plain_eq (c : TClock) (hl : (TClock.Name c).length ≤ 4611686018427387904) : spec_l14Plain c = some (nameOk (TClock.Name c) && plainOk c) := by
  unfold spec_l14Plain
  rw [spec_l03Name_eq _ hl, plain_eq]
  simp only [spec_l01In_eq, Option.bind_some]
  repeat' split
  all_goals simp [*]

/-- the first m clocks are valid, but for their names -/
def PreOk (l : List TClock) (m : Int) : Prop := ∀ (j : Nat) (c : TClock), (j : Int) < m → l[j]? = some c → clockOk l j c = true

theorem clockOk_src {l : List TClock} {k : Nat} {c : TClock} (h : clockOk l k c = true) (hk : (k : Int) ≤ 1000000) : TClock.Source c = -1 ∨ 0 ≤ TClock.Source c ∧ TClock.Source c < k := by
  unfold clockOk at h
  simp only [Bool.and_eq_true] at h
  split at h
  · exact .inl (by assumption)
  · have h2 := h.2
    unfold genOk at h2
    simp only [within, Bool.and_eq_true, decide_eq_true_eq] at h2
    rw [W_in (by omega) (by omega)] at h2
    omega

theorem PreOk.src {l : List TClock} {m : Int} (h : PreOk l m) (hm : m ≤ 1000000) : SrcOk l m := by
  intro j c hj hc
  have := clockOk_src (h j c hj hc) (by omega)
  omega

theorem clock_wave {l : List TClock} {k : Int} {c : TClock} (h0 : 0 ≤ k) (h1 : k < l.length) (hk : k ≤ 1000) (h : PreOk l k) (hc : l[k.toNat]? = some c) (hs : TClock.Source c < k) : pWave l k := by
  refine ⟨h0, h1, fun j d hj hd => ?_⟩
  by_cases hjk : (j : Int) < k
  · exact h.src (by omega) j d hjk hd
  · have : j = k.toNat := by omega
    subst this
    rw [hc] at hd; injection hd with hd; subst hd
    omega

theorem within_src {s k : Int} (hk0 : 0 ≤ k) (hk : k ≤ 1000) (h : within s 0 (IntKind.i64.wrap (k - 1)) = true) : 0 ≤ s ∧ s < k := by
  rw [within_iff, W_in (by omega) (by omega)] at h
  omega

theorem clockOk_eq (l : List TClock) (k : Int) (c : TClock) : clockOk l k c = (decide (0 ≤ TClock.Place c) && decide (0 ≤ TClock.EarlyLatency c) && decide (TClock.EarlyLatency c ≤ TClock.LateLatency c) && decide (TClock.LateLatency c ≤ 100000) && within (TClock.Uncertainty c) 0 100000 &&
    (if TClock.Source c = -1 then primOk c else within (TClock.Source c) 0 (IntKind.i64.wrap (k - 1)) && within (TClock.Divide c) 1 8 && decide (TClock.Period c = 0) && decide (TClock.RiseAt c = 0) && decide (TClock.FallAt c = 0) && decide ((wave l k).period ≤ 100000))) := rfl

theorem impl_isClock_eq {l : List TClock} {k : Int} {c : TClock} (h0 : 0 ≤ k) (h1 : k < l.length) (hk : k ≤ 1000) (h : PreOk l k) (hc : l[k.toNat]? = some c) : impl_isClock l k = some (clockOk l k c) := by
  have hw : within (TClock.Source c) 0 (IntKind.i64.wrap (k - 1)) = true → impl_waveOf l k = some (wvI (wave l k)) := fun hh => impl_waveOf_eq (clock_wave h0 h1 hk h hc (within_src h0 hk hh).2)
  unfold impl_isClock
  rw [atI_some h0 hc, clockOk_eq]
  clear h0 h1 hk h hc
  simp only [impl_within_eq, Option.bind_some, impl_isPrimary_eq]
  generalize primOk c = pr
  generalize TClock.Place c = v1 at *
  generalize TClock.EarlyLatency c = v2 at *
  generalize TClock.LateLatency c = v3 at *
  generalize TClock.Uncertainty c = v4 at *
  generalize TClock.Source c = v5 at *
  generalize TClock.Divide c = v6 at *
  generalize TClock.Period c = v7 at *
  generalize TClock.RiseAt c = v8 at *
  generalize TClock.FallAt c = v9 at *
  by_cases a1 : v1 < 0
  · have : ¬ 0 ≤ v1 := by omega
    simp [a1, this]
  by_cases a2 : v2 < 0
  · have : ¬ 0 ≤ v2 := by omega
    simp [a1, a2, this]
  by_cases a3 : v3 < v2
  · have : ¬ v2 ≤ v3 := by omega
    simp [a1, a2, a3, this]
  by_cases a4 : 100000 < v3
  · have : ¬ v3 ≤ 100000 := by omega
    simp [a1, a2, a3, a4, this]
  rw [if_neg a1, if_neg a2, if_neg a3, if_neg a4, decide_eq_true (show 0 ≤ v1 by omega), decide_eq_true (show 0 ≤ v2 by omega), decide_eq_true (show v2 ≤ v3 by omega), decide_eq_true (show v3 ≤ 100000 by omega)]
  cases within v4 0 100000
  · simp
  simp only [if_true, Bool.true_and]
  by_cases a5 : v5 = -1
  · rw [if_pos a5, if_pos a5]
  rw [if_neg a5, if_neg a5]
  cases hw5 : within v5 0 (IntKind.i64.wrap (k - 1))
  · simp
  rw [hw hw5]
  simp only [if_true, Bool.true_and]
  cases within v6 1 8
  · simp
  by_cases a7 : v7 = 0
  · by_cases a8 : v8 = 0
    · by_cases a9 : v9 = 0
      · simp [a7, a8, a9, wvI]
      · simp [a7, a8, a9]
    · simp [a7, a8]
  · simp [a7]

def cnames (l : List TClock) : List (List UInt8) := l.map TClock.Name
def ClocksOk (l : List TClock) : Prop := l.length ≤ 6 ∧ PreOk l l.length ∧ NamesOk (cnames l) l.length

theorem impl_IsClocks_eq (l : List TClock) : impl_IsClocks l = some (tr (ClocksOk l)) := by
  unfold impl_IsClocks
  split
  · rename_i h
    rw [tr_neg]
    intro hh
    have := hh.1
    omega
  · rename_i h6
    refine whileM_rangeE l.length (fun k v => v.2.1 = (k : Int) ∧ v.1 = cnames (l.take k) ∧ PreOk l k) _ ⟨rfl, rfl, fun j s hj => by omega⟩ ?_ ?_
    · rintro k ⟨ns, i, ⟨⟩⟩ hk ⟨hi, hns, hS⟩
      simp only at hi hns
      subst hi
      have hx : l[k]? = some l[k] := List.getElem?_eq_getElem hk
      generalize l[k] = x at hx
      simp only [impl_IsClocks_loop0, atI_nat, hx, Option.bind_some, show (k : Int) < (l.length : Int) from by omega, if_true, W_in (show (-9223372036854775808 : Int) ≤ (k : Int) + 1 by omega) (by omega)]
      rw [impl_isClock_eq (by omega) (by omega) (by omega) hS (by simpa using hx), Option.bind_some]
      split
      · rename_i hok
        have hlen : ns.length = k := by rw [hns]; simp [cnames]; omega
        rw [guardO_pos (by simp only [List.length_singleton]; omega)]
        refine .inl ⟨_, rfl, by simp, by rw [hns, take_snoc hx]; simp [cnames], fun j d hj hd => ?_⟩
        by_cases e : (j : Int) < k
        · exact hS j d e hd
        · have : j = k := by omega
          subst this
          rw [hx] at hd; injection hd with hd; subst hd
          exact hok
      · rename_i hok
        right
        rw [tr_neg]
        intro hh
        exact hok (hh.2.1 k x (by omega) hx)
    · rintro ⟨ns, i, ⟨⟩⟩ ⟨hi, hns, hS⟩
      simp only at hi hns
      subst hi
      rw [List.take_length] at hns
      have hlen : (cnames l).length = l.length := by simp [cnames]
      subst hns
      simp only [impl_IsClocks_loop0, Int.lt_irrefl, if_false]
      rw [impl_areNames_eq _ (by omega), Option.bind_some, hlen]
      congr 2
      by_cases hN : NamesOk (cnames l) l.length
      · rw [tr_pos hN, tr_pos ⟨by omega, hS, hN⟩]
      · rw [tr_neg hN, tr_neg (fun hh => hN hh.2.2)]

end Go.Proofs.YtmaogoofmebdbaaGreatDoor
