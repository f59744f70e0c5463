/-
  Plain laws: relations of clocks.
-/
import Derived.Test.YtmaogoofmebdbaaGreatDoorP3
namespace Go.Proofs.YtmaogoofmebdbaaGreatDoor
set_option linter.unusedVariables false
set_option linter.unusedSimpArgs false
open Go Go.Sx

def isTr (n : Int) : Bool := within n 0 1
theorem isTr_iff (n : Int) : isTr n = true ↔ n = 0 ∨ n = 1 := by unfold isTr; rw [within_iff]; omega
theorem impl_isTransition_eq (n : Int) : impl_isTransition n = some (isTr n) := by
  unfold impl_isTransition
  split
  · rename_i h; rw [(isTr_iff n).2 (.inl h)]
  · rename_i h
    congr 1
    rw [Bool.eq_iff_iff, isTr_iff, decide_eq_true_eq]
    omega

noncomputable def relCode (l : List TClock) (a ea b eb : Int) : Int :=
  if tr (ClocksOk l) = true then
    if (within a 0 ((l.length : Int) - 1) && within b 0 ((l.length : Int) - 1)) = true then
      if (isTr ea && isTr eb) = true then
        if root l a = root l b then
          if 100000000 < hyp (wave l a).period (wave l b).period then 3
          else if 200 < IntKind.i64.wrap ((hyp (wave l a).period (wave l b).period).tdiv (wave l a).period) then 3 else 0
        else 5
      else 2
    else 4
  else 1

/-- what holds where the code is none -/
structure RelOk (l : List TClock) (a ea b eb : Int) : Prop where
  ok : ClocksOk l
  a0 : 0 ≤ a
  a1 : a < l.length
  b0 : 0 ≤ b
  b1 : b < l.length
  ea : ea = 0 ∨ ea = 1
  eb : eb = 0 ∨ eb = 1
  h : hyp (wave l a).period (wave l b).period ≤ 100000000

theorem relOk {l : List TClock} {a ea b eb : Int} (h : relCode l a ea b eb = 0) : RelOk l a ea b eb := by
  unfold relCode at h
  split at h <;> try (cases h; done)
  rename_i h1
  split at h <;> try (cases h; done)
  rename_i h2
  split at h <;> try (cases h; done)
  rename_i h3
  split at h <;> try (cases h; done)
  split at h <;> try (cases h; done)
  rename_i h5
  simp only [Bool.and_eq_true, within_iff] at h2
  simp only [Bool.and_eq_true, isTr_iff] at h3
  exact ⟨(tr_iff _).1 h1, h2.1.1, by omega, h2.2.1, by omega, h3.1, h3.2, by omega⟩

theorem spec_l15Code_eq (l : List TClock) (a ea b eb : Int) (hn : pNames l) (hl : l.length ≤ 4611686018427387904) : spec_l15Code l a ea b eb = some (relCode l a ea b eb) := by
  unfold spec_l15Code relCode
  rw [spec_IsClocks_eq l hn hl, Option.bind_some]
  split <;> try rfl
  rename_i hok
  have hok := (tr_iff _).1 hok
  rw [W_in (by omega) (by omega)]
  simp only [spec_l01In_eq, Option.bind_some]
  cases ha : within a 0 ((l.length : Int) - 1)
  · simp
  cases hb : within b 0 ((l.length : Int) - 1)
  · simp
  simp only [if_true, Bool.true_and]
  have e1 : within ea 0 1 = isTr ea := rfl
  have e2 : within eb 0 1 = isTr eb := rfl
  rw [e1, e2]
  cases isTr ea
  · simp
  cases isTr eb
  · simp
  rw [within_iff] at ha hb
  have pa := pWave_of hok ha.1 (by omega)
  have pb := pWave_of hok hb.1 (by omega)
  have hp := (wvOk hok ha.1 (by omega)).p1
  simp only [if_true, Bool.true_and, spec_l14Root_eq pa, spec_l14Root_eq pb, Option.bind_some]
  split <;> try rfl
  rw [spec_l14Hyper_eq (pHyper_of hok ha.1 (by omega) hb.1 (by omega)), Option.bind_some]
  split <;> try rfl
  rw [spec_l14Of_eq pa, Option.bind_some]
  simp only [wvS, Tl14Wave.period]
  rw [guardO_pos (by omega)]
  by_cases h2 : 200 < IntKind.i64.wrap ((hyp (wave l a).period (wave l b).period).tdiv (wave l a).period) <;> simp [h2]

def edges0 : Tedges := ((0, (0, 0, ()), ()), (0, (0, 0, ()), ()), 0, 0, 0, ())
def edgesAt (l : List TClock) (a ea b eb : Int) : Tedges := (wvI (wave l a), wvI (wave l b), ea, eb, hyp (wave l a).period (wave l b).period, ())

theorem impl_edgesOf_eq (l : List TClock) (a ea b eb : Int) : impl_edgesOf l a ea b eb = some (if relCode l a ea b eb = 0 then edgesAt l a ea b eb else edges0, relCode l a ea b eb) := by
  unfold impl_edgesOf relCode
  rw [impl_clockCode_eq _ _ (by simp), Option.bind_some]
  unfold codeOf
  cases hok : tr (ClocksOk l)
  · simp [edges0]
  have hok := (tr_iff _).1 hok
  have e0 : allIn [a, b] 0 ((l.length : Int) - 1) = (within a 0 ((l.length : Int) - 1) && within b 0 ((l.length : Int) - 1)) := by simp [allIn]
  rw [e0]
  cases hab : (within a 0 ((l.length : Int) - 1) && within b 0 ((l.length : Int) - 1))
  · simp [edges0]
  simp only [if_true, impl_isTransition_eq, Option.bind_some]
  cases isTr ea
  · simp [edges0]
  cases isTr eb
  · simp [edges0]
  simp only [Bool.and_eq_true, within_iff] at hab
  have pa := pWave_of hok hab.1.1 (by omega)
  have pb := pWave_of hok hab.2.1 (by omega)
  have hp := (wvOk hok hab.1.1 (by omega)).p1
  simp only [if_true, Bool.true_and, impl_rootOf_eq pa, impl_rootOf_eq pb, Option.bind_some]
  by_cases hr : root l a = root l b
  · simp only [hr, if_true, impl_waveOf_eq pa, impl_waveOf_eq pb, Option.bind_some, impl_hyperPeriod_eq (pHyper_of hok hab.1.1 (by omega) hab.2.1 (by omega))]
    by_cases hh : 100000000 < hyp (wave l a).period (wave l b).period
    · simp [hh, edges0]
    · simp only [hh, if_false, wvI, Twave.period]
      rw [guardO_pos (by omega)]
      by_cases h2 : 200 < IntKind.i64.wrap ((hyp (wave l a).period (wave l b).period).tdiv (wave l a).period)
      · simp [h2, edges0]
      · simp [h2, edgesAt, wvI]
  · simp [hr, edges0]

/-! ### the next edge -/

def edgeAt (w : Wv) (e : Int) : Int := if e = 0 then w.rise else w.fall
def nextE (w : Wv) (e t : Int) : Int := t + (edgeAt w e - t) % w.period

theorem edge_bound {w : Wv} (h : WvOk w) (e : Int) : 0 ≤ edgeAt w e ∧ edgeAt w e < w.period := by
  unfold edgeAt
  split
  · exact ⟨h.r1, h.r2⟩
  · exact ⟨h.f1, h.f2⟩

theorem modulo_eq (a b : Int) (h1 : -1000000000000 ≤ a) (h2 : a ≤ 1000000000000) (h3 : 1 ≤ b) (h4 : b ≤ 1000000000000) : (IntKind.i64.wrap (a.tmod b + b)).tmod b = a % b := by
  have e1 : a.tmod b = a - b * (a.tdiv b) := by rw [Int.tmod_def]
  have hb : -b < a.tmod b ∧ a.tmod b < b := ⟨by have := Int.lt_tmod_of_pos a (by omega : 0 < b); omega, Int.tmod_lt_of_pos a (by omega)⟩
  rw [W_in (by omega) (by omega), Int.tmod_eq_emod_of_nonneg (by omega)]
  rw [e1, Int.add_emod_right, Int.sub_mul_emod_self_left]

theorem next_aux {w : Wv} (hw : WvOk w) (e : Int) {t : Int} (h1 : -10000000000 ≤ t) (h2 : t ≤ 10000000000) :
    IntKind.i64.wrap (t + (IntKind.i64.wrap ((IntKind.i64.wrap (edgeAt w e - t)).tmod w.period + w.period)).tmod w.period) = nextE w e t := by
  have b := edge_bound hw e
  have p1 := hw.p1; have p2 := hw.p2
  rw [W_in (n := edgeAt w e - t) (by omega) (by omega), modulo_eq _ _ (by omega) (by omega) (by omega) (by omega)]
  have := Int.emod_nonneg (edgeAt w e - t) (show w.period ≠ 0 by omega)
  have := Int.emod_lt_of_pos (edgeAt w e - t) (show 0 < w.period by omega)
  exact W_in (by omega) (by omega)

theorem impl_next_eq {w : Wv} (hw : WvOk w) {e t : Int} (he : e = 0 ∨ e = 1) (h1 : -10000000000 ≤ t) (h2 : t ≤ 10000000000) : impl_wave_next (wvI w) e t = some (nextE w e t) := by
  have p1 := hw.p1
  have := next_aux hw e h1 h2
  unfold impl_wave_next impl_modulo
  rcases he with rfl | rfl
  · simp only [wvI, Twave.edges, Twave.period, edgeAt, if_true] at this ⊢
    rw [guardO_pos (by omega), guardO_pos (by omega), guardO_pos (by omega), Option.bind_some, this]
  · have e1 : ¬ (1 : Int) = 0 := by omega
    simp only [wvI, Twave.edges, Twave.period, edgeAt, e1, if_true, if_false] at this ⊢
    rw [guardO_pos (by omega), guardO_pos (by omega), guardO_pos (by omega), Option.bind_some, this]

theorem spec_after_eq {w : Wv} (hw : WvOk w) {e t : Int} (h1 : -10000000000 ≤ t) (h2 : t ≤ 10000000000) : spec_l14After (wvS w) e t = some (nextE w e t) := by
  have p1 := hw.p1
  have := next_aux hw e h1 h2
  have e1 : spec_l14Edge (wvS w) e = some (edgeAt w e) := by
    unfold spec_l14Edge edgeAt
    split <;> rfl
  unfold spec_l14After
  rw [e1, Option.bind_some]
  simp only [wvS, Tl14Wave.period] at this ⊢
  rw [guardO_pos (by omega), this]

/-! ### pairs -/

def pairsN (s p : Int) (w : Wv) (e : Int) (n : Nat) : List (List Int) := (List.range n).map fun (i : Nat) => [s + (i : Int) * p, nextE w e (s + (i : Int) * p + 1)]
theorem pairsN_succ (s p : Int) (w : Wv) (e : Int) (n : Nat) : pairsN s p w e (n + 1) = pairsN s p w e n ++ [[s + n * p, nextE w e (s + n * p + 1)]] := by
  simp [pairsN, List.range_succ]
theorem pairsN_length (s p : Int) (w : Wv) (e : Int) (n : Nat) : (pairsN s p w e n).length = n := by simp [pairsN]

/-- how many -/
def count (s p h : Int) : Nat := ((h - s + p - 1) / p).toNat
theorem count_lt {s p h : Int} (hp : 0 < p) {i : Nat} (hi : i < count s p h) : s + i * p < h := by
  unfold count at hi
  have h1 : ((i : Int) + 1) ≤ (h - s + p - 1) / p := by omega
  have h2 := (Int.le_ediv_iff_mul_le hp).1 h1
  rw [Int.add_mul] at h2
  omega
theorem count_ge {s p h : Int} (hp : 0 < p) : h ≤ s + (count s p h : Int) * p := by
  unfold count
  have h1 := Int.lt_ediv_add_one_mul_self (h - s + p - 1) hp
  have h2 : (h - s + p - 1) / p ≤ (((h - s + p - 1) / p).toNat : Int) := Int.self_le_toNat _
  have h3 := Int.mul_le_mul_of_nonneg_right h2 (show 0 ≤ p by omega)
  rw [Int.add_mul] at h1
  omega

structure PPairs (wa wb : Wv) (s h : Int) : Prop where
  wa : WvOk wa
  wb : WvOk wb
  s0 : 0 ≤ s
  s1 : s ≤ 100000
  hh : h ≤ 100000000

/-- the loop of the pairs, in either text -/
theorem pairs_loop {wa wb : Wv} {s h eb : Int} (hp : PPairs wa wb s h) {step : List (List Int) × Int × Unit → Option ((List (List Int) × Int × Unit) ⊕ List (List Int))}
    (hstep : ∀ (out : List (List Int)) (at0 : Int), 0 ≤ at0 → at0 ≤ 10000000 * 100 → step (out, at0, ()) =
      if at0 < h then guardO ((out.length + List.length [[at0, nextE wb eb (at0 + 1)]]) * 24 ≤ 140737488355328) (some (.inl (out ++ [[at0, nextE wb eb (at0 + 1)]], IntKind.i64.wrap (at0 + wa.period), ()))) else some (.inr out)) :
    whileM step ([], s, ()) = some (pairsN s wa.period wb eb (count s wa.period h)) := by
  have p1 := hp.wa.p1; have p2 := hp.wa.p2; have s0 := hp.s0; have s1 := hp.s1; have hh := hp.hh
  have hcnt : count s wa.period h ≤ 200000000 := by
    unfold count
    by_cases hneg : 0 ≤ h - s + wa.period - 1
    · have := Int.ediv_le_self (b := wa.period) hneg
      omega
    · have : (h - s + wa.period - 1) / wa.period ≤ 0 := by
        have := Int.ediv_neg_of_neg_of_pos (show h - s + wa.period - 1 < 0 by omega) (show 0 < wa.period by omega)
        omega
      omega
  refine whileM_rangeE (count s wa.period h) (fun k v => v = (pairsN s wa.period wb eb k, s + (k : Int) * wa.period, ())) _ (by simp [pairsN]) ?_ ?_
  · rintro k _ hk rfl
    have h1 := count_lt (show 0 < wa.period by omega) hk
    have h2 : 0 ≤ (k : Int) * wa.period := Int.mul_nonneg (by omega) (by omega)
    rw [hstep _ _ (by omega) (by omega), if_pos h1, guardO_pos (by rw [pairsN_length]; simp; omega)]
    left
    refine ⟨_, rfl, ?_⟩
    rw [pairsN_succ, W_in (by omega) (by omega)]
    simp only [Prod.mk.injEq, and_true, true_and]
    rw [Int.natCast_add, Int.add_mul]
    omega
  · rintro _ rfl
    have h1 := count_ge (s := s) (h := h) (show 0 < wa.period by omega)
    have h2 : 0 ≤ (count s wa.period h : Int) * wa.period := Int.mul_nonneg (by omega) (by omega)
    by_cases hz : count s wa.period h = 0
    · rw [hstep _ _ (by omega) (by rw [hz]; simp; omega), if_neg (by omega)]
    · have h3 := count_lt (s := s) (h := h) (show 0 < wa.period by omega) (show count s wa.period h - 1 < count s wa.period h by omega)
      have h4 : ((count s wa.period h - 1 : Nat) : Int) = (count s wa.period h : Int) - 1 := by omega
      rw [h4, Int.sub_mul] at h3
      rw [hstep _ _ (by omega) (by omega), if_neg (by omega)]

theorem hyp_ge {x y : Int} (hx : 2 ≤ x) (hx2 : x ≤ 100000) (hy : 2 ≤ y) (hy2 : y ≤ 100000) : x ≤ hyp x y := by
  unfold hyp
  have g0 : 0 < Int.gcd x y := Int.gcd_pos_of_ne_zero_left y (by omega)
  have gx : ((Int.gcd x y : Nat) : Int) ∣ x := Int.gcd_dvd_left ..
  have gy : ((Int.gcd x y : Nat) : Int) ∣ y := Int.gcd_dvd_right ..
  generalize Int.gcd x y = g at *
  obtain ⟨p, hp⟩ := gx
  obtain ⟨q, hq⟩ := gy
  have hpos : 0 < (g : Int) := by omega
  have hp0 : 0 < p := by
    rcases Int.lt_or_le 0 p with h | h
    · exact h
    · have := Int.mul_nonneg (show 0 ≤ (g : Int) by omega) (show 0 ≤ -p by omega); rw [Int.mul_neg] at this; omega
  have hq0 : 0 < q := by
    rcases Int.lt_or_le 0 q with h | h
    · exact h
    · have := Int.mul_nonneg (show 0 ≤ (g : Int) by omega) (show 0 ≤ -q by omega); rw [Int.mul_neg] at this; omega
  have e1 : x.tdiv g = p := by rw [hp, Int.mul_tdiv_cancel_left _ (by omega)]
  have hpx : p ≤ x := by
    have := Int.mul_le_mul_of_nonneg_right (show (1 : Int) ≤ g by omega) (show 0 ≤ p by omega)
    rw [Int.one_mul] at this; omega
  have hb : 0 ≤ p * y ∧ p * y ≤ 100000 * 100000 := ⟨Int.mul_nonneg (by omega) (by omega), Int.mul_le_mul (by omega) hy2 (by omega) (by omega)⟩
  rw [e1, W_in (n := p) (by omega) (by omega), W_in (by omega) (by omega)]
  have h1 := Int.mul_le_mul_of_nonneg_left (show (g : Int) ≤ y by
    have := Int.mul_le_mul_of_nonneg_left (show (1 : Int) ≤ q by omega) (show 0 ≤ (g : Int) by omega)
    rw [Int.mul_one] at this; omega) (show 0 ≤ p by omega)
  rw [Int.mul_comm p g] at h1
  omega

/-- the pairs of two clocks' edges -/
noncomputable def pairsOf (l : List TClock) (a ea b eb : Int) : List (List Int) :=
  pairsN (edgeAt (wave l a) ea) (wave l a).period (wave l b) eb (count (edgeAt (wave l a) ea) (wave l a).period (hyp (wave l a).period (wave l b).period))

theorem pp_of {l : List TClock} {a ea b eb : Int} (h : RelOk l a ea b eb) : PPairs (wave l a) (wave l b) (edgeAt (wave l a) ea) (hyp (wave l a).period (wave l b).period) := by
  have wa := wvOk h.ok h.a0 h.a1
  have be := edge_bound wa ea
  have := wa.p2
  exact ⟨wa, wvOk h.ok h.b0 h.b1, by omega, by omega, h.h⟩

theorem impl_pairs_eq {l : List TClock} {a ea b eb : Int} (h : RelOk l a ea b eb) : impl_edges_pairs (edgesAt l a ea b eb) = some (pairsOf l a ea b eb) := by
  have pp := pp_of h
  have wb := pp.wb
  have lp := pairs_loop (eb := eb) pp (step := fun v => impl_edges_pairs_loop0 (edgesAt l a ea b eb) v.1 v.2.1) (fun out at0 h0 h1 => by
    simp only [impl_edges_pairs_loop0, edgesAt, Tedges.hyper, Tedges.to, Tedges.eb, Tedges.from]
    rw [W_in (n := at0 + 1) (by omega) (by omega), impl_next_eq wb h.eb (by omega) (by omega), Option.bind_some]
    rfl)
  unfold impl_edges_pairs pairsOf
  rcases h.ea with rfl | rfl
  · simp only [edgesAt, Tedges.ea, Tedges.from, Twave.edges, wvI, edgeAt, if_true] at lp ⊢
    rw [guardO_pos (by omega), guardO_pos (by omega)]
    exact lp
  · have e1 : ¬ (1 : Int) = 0 := by omega
    simp only [edgesAt, Tedges.ea, Tedges.from, Twave.edges, wvI, edgeAt, e1, if_true, if_false] at lp ⊢
    rw [guardO_pos (by omega), guardO_pos (by omega)]
    exact lp

theorem spec_pairs_eq {l : List TClock} {a ea b eb : Int} (h : RelOk l a ea b eb) : spec_l15Pairs l a ea b eb = some (pairsOf l a ea b eb) := by
  have pp := pp_of h
  have wa := pp.wa
  have wb := pp.wb
  have be := edge_bound wa ea
  have e0 : nextE (wave l a) ea 0 = edgeAt (wave l a) ea := by
    unfold nextE
    rw [Int.sub_zero, Int.emod_eq_of_lt be.1 be.2]; omega
  unfold spec_l15Pairs pairsOf
  rw [spec_l14Hyper_eq (pHyper_of h.ok h.a0 h.a1 h.b0 h.b1), Option.bind_some, spec_l14Of_eq (pWave_of h.ok h.a0 h.a1), Option.bind_some, spec_l14Of_eq (pWave_of h.ok h.b0 h.b1), Option.bind_some,
    spec_after_eq wa (by omega) (by omega), Option.bind_some, e0]
  refine pairs_loop pp (fun out at0 h0 h1 => ?_)
  simp only [spec_l15Pairs_loop0]
  rw [W_in (n := at0 + 1) (by omega) (by omega), spec_after_eq wb (by omega) (by omega), Option.bind_some]
  rfl

/-! ### separations -/

/-- a pair of a launching and a capturing edge -/
structure IsPair (x : List Int) (wb : Wv) : Prop where
  two : ∃ u v, x = [u, v] ∧ 0 ≤ u ∧ u ≤ 100000000 ∧ 1 ≤ v - u ∧ v - u ≤ wb.period

def dif (x : List Int) : Int := (x[1]?.getD 0) - (x[0]?.getD 0)

theorem pairsOf_pair {l : List TClock} {a ea b eb : Int} (h : RelOk l a ea b eb) : ∀ x ∈ pairsOf l a ea b eb, IsPair x (wave l b) := by
  have pp := pp_of h
  intro x hx
  simp only [pairsOf, pairsN, List.mem_map, List.mem_range] at hx
  obtain ⟨i, hi, rfl⟩ := hx
  have p1 := pp.wa.p1; have p3 := pp.wb.p1; have s0 := pp.s0; have hh := pp.hh
  have h1 := count_lt (by omega) hi
  have h2 : 0 ≤ (i : Int) * (wave l a).period := Int.mul_nonneg (by omega) (by omega)
  refine ⟨_, _, rfl, by omega, by omega, ?_⟩
  unfold nextE
  generalize edgeAt (wave l a) ea + (i : Int) * (wave l a).period = t at *
  have := Int.emod_nonneg (edgeAt (wave l b) eb - (t + 1)) (show (wave l b).period ≠ 0 by omega)
  have := Int.emod_lt_of_pos (edgeAt (wave l b) eb - (t + 1)) (show 0 < (wave l b).period by omega)
  omega

theorem pairsOf_ne {l : List TClock} {a ea b eb : Int} (h : RelOk l a ea b eb) : ∃ x r, pairsOf l a ea b eb = x :: r := by
  have pp := pp_of h
  have be := edge_bound pp.wa ea
  have p1 := pp.wa.p1; have p2 := pp.wa.p2; have p3 := pp.wb.p1; have p4 := pp.wb.p2
  have hge := hyp_ge p1 p2 p3 p4
  have hc := count_ge (s := edgeAt (wave l a) ea) (h := hyp (wave l a).period (wave l b).period) (show 0 < (wave l a).period by omega)
  cases hn : count (edgeAt (wave l a) ea) (wave l a).period (hyp (wave l a).period (wave l b).period) with
  | zero => rw [hn] at hc; simp at hc; omega
  | succ n =>
    have : (pairsOf l a ea b eb).length = n + 1 := by rw [pairsOf, pairsN_length, hn]
    cases hp : pairsOf l a ea b eb with
    | nil => rw [hp] at this; simp at this
    | cons x r => exact ⟨x, r, rfl⟩

/-- a fold over pairs, as a loop -/
theorem fold_loop {ρ : Type} {L : List (List Int)} {wb : Wv} (hL : ∀ x ∈ L, IsPair x wb) (hlen : L.length ≤ 4611686018427387904) {g : Int → Int → Int} {out : Int → ρ} {init : Int}
    {step : Int × Int × Unit → Option ((Int × Int × Unit) ⊕ ρ)}
    (hstep : ∀ (m : Int) (k : Nat), step (m, (k : Int), ()) = if (k : Int) < (L.length : Int) then (atI L (k : Int)).bind fun x => (atI x 1).bind fun v => (atI x 0).bind fun u =>
      some (.inl (g m (IntKind.i64.wrap (v - u)), IntKind.i64.wrap ((k : Int) + 1), ())) else some (.inr (out m)))
    (hwb : wb.period ≤ 100000) : whileM step (init, 0, ()) = some (out ((L.map dif).foldl g init)) := by
  refine whileM_rangeE L.length (fun k v => v = (((L.take k).map dif).foldl g init, (k : Int), ())) _ rfl ?_ ?_
  · rintro k _ hk rfl
    have hx : L[k]? = some L[k] := List.getElem?_eq_getElem hk
    generalize L[k] = x at hx
    obtain ⟨u, v, rfl, h1, h2, h3, h4⟩ := (hL x (List.mem_of_getElem? hx)).two
    rw [hstep, if_pos (by omega), atI_nat, hx, Option.bind_some]
    have e1 : atI [u, v] 1 = some v := rfl
    have e0 : atI [u, v] 0 = some u := rfl
    rw [e1, Option.bind_some, e0, Option.bind_some, W_in (n := v - u) (by omega) (by omega), W_in (by omega) (by omega)]
    refine .inl ⟨_, rfl, ?_⟩
    rw [take_snoc hx]
    simp [dif]
  · rintro _ rfl
    rw [hstep, if_neg (by omega), List.take_length]

theorem W_dif {x : List Int} {wb : Wv} (h : IsPair x wb) (hwb : wb.period ≤ 100000) : ∃ u v, x = [u, v] ∧ IntKind.i64.wrap (v - u) = dif x ∧ 1 ≤ dif x ∧ dif x ≤ wb.period := by
  obtain ⟨u, v, rfl, h1, h2, h3, h4⟩ := h.two
  exact ⟨u, v, rfl, by rw [W_in (by omega) (by omega)]; rfl, h3, h4⟩

noncomputable def setupOf (l : List TClock) (a ea b eb : Int) : Int := ((pairsOf l a ea b eb).map dif).foldl min (wave l b).period
noncomputable def holdOf (l : List TClock) (a ea b eb : Int) : Int := ((pairsOf l a ea b eb).map dif).foldl (fun m d => max m (d - min (wave l b).period (wave l a).period)) (-(wave l b).period - (wave l a).period)

theorem pairsOf_len {l : List TClock} {a ea b eb : Int} (h : RelOk l a ea b eb) : (pairsOf l a ea b eb).length ≤ 4611686018427387904 := by
  have pp := pp_of h
  rw [pairsOf, pairsN_length]
  cases hn : count (edgeAt (wave l a) ea) (wave l a).period (hyp (wave l a).period (wave l b).period) with
  | zero => omega
  | succ n =>
    have p1 := pp.wa.p1; have hh := pp.hh; have s0 := pp.s0
    have h1 := count_lt (s := edgeAt (wave l a) ea) (h := hyp (wave l a).period (wave l b).period) (show 0 < (wave l a).period by omega) (show n < _ by rw [hn]; omega)
    have h2 := Int.mul_le_mul_of_nonneg_left (show (1 : Int) ≤ (wave l a).period by omega) (show 0 ≤ (n : Int) by omega)
    omega

theorem impl_setup_eq {l : List TClock} {a ea b eb : Int} (h : RelOk l a ea b eb) : impl_edges_setup (edgesAt l a ea b eb) = some (setupOf l a ea b eb) := by
  unfold impl_edges_setup
  rw [impl_pairs_eq h, Option.bind_some]
  exact fold_loop (out := fun m => m) (pairsOf_pair h) (pairsOf_len h) (fun m k => rfl) (pp_of h).wb.p2

theorem impl_hold_eq {l : List TClock} {a ea b eb : Int} (h : RelOk l a ea b eb) : impl_edges_hold (edgesAt l a ea b eb) = some (holdOf l a ea b eb) := by
  have pp := pp_of h
  have p1 := pp.wa.p1; have p2 := pp.wa.p2; have p3 := pp.wb.p1; have p4 := pp.wb.p2
  unfold impl_edges_hold
  rw [impl_pairs_eq h, Option.bind_some]
  have := fold_loop (ρ := Int) (out := fun m => m) (g := fun m d => max m (IntKind.i64.wrap (d - min (wave l b).period (wave l a).period))) (init := IntKind.i64.wrap (IntKind.i64.wrap (0 - (wave l b).period) - (wave l a).period)) (pairsOf_pair h) (pairsOf_len h)
    (step := fun v => impl_edges_hold_loop0 (edgesAt l a ea b eb) (pairsOf l a ea b eb) v.1 v.2.1) (fun m k => rfl) p4
  refine this.trans ?_
  rw [W_in (n := 0 - (wave l b).period) (by omega) (by omega), W_in (n := 0 - (wave l b).period - (wave l a).period) (by omega) (by omega)]
  unfold holdOf
  congr 1
  rw [Int.zero_sub]
  have hb : ∀ d ∈ (pairsOf l a ea b eb).map dif, 1 ≤ d ∧ d ≤ 100000 := by
    intro d hd
    obtain ⟨x, hx, rfl⟩ := List.mem_map.1 hd
    obtain ⟨u, v, _, _, h1, h2⟩ := W_dif (pairsOf_pair h x hx) p4
    omega
  generalize (pairsOf l a ea b eb).map dif = D at hb
  generalize -(wave l b).period - (wave l a).period = m0
  induction D generalizing m0 with
  | nil => rfl
  | cons d D ih =>
    have := hb d (by simp)
    simp only [List.foldl_cons]
    rw [W_in (n := d - min (wave l b).period (wave l a).period) (by omega) (by omega)]
    exact ih (fun d hd => hb d (by simp [hd])) _

theorem foldl_min_first {d i : Int} {r : List Int} (h : d ≤ i) : (d :: r).foldl min i = (d :: r).foldl min d := by
  simp only [List.foldl_cons]
  rw [show min i d = d by omega, show min d d = d by omega]

theorem spec_setup_eq {l : List TClock} {a ea b eb : Int} (hn : pNames l) (hl : l.length ≤ 4611686018427387904) :
    spec_SetupSeparation l a ea b eb = some (if relCode l a ea b eb = 0 then setupOf l a ea b eb else 0, relCode l a ea b eb) := by
  unfold spec_SetupSeparation
  rw [spec_l15Code_eq l a ea b eb hn hl, Option.bind_some]
  split
  · rename_i hc
    have h := relOk hc
    have pp := pp_of h
    obtain ⟨x, r, hx⟩ := pairsOf_ne h
    have hpx := pairsOf_pair h x (by rw [hx]; simp)
    obtain ⟨u, v, hxuv, hwd, hd1, hd2⟩ := W_dif hpx pp.wb.p2
    rw [spec_pairs_eq h, Option.bind_some, hc]
    have e : atI (pairsOf l a ea b eb) 0 = some x := by rw [hx]; rfl
    have e1 : atI x 1 = some v := by rw [hxuv]; rfl
    have e0 : atI x 0 = some u := by rw [hxuv]; rfl
    rw [e, Option.bind_some, e1, Option.bind_some, e0, Option.bind_some, hwd]
    rw [fold_loop (g := min) (out := fun m => (m, (0 : Int))) (pairsOf_pair h) (pairsOf_len h) (fun m k => rfl) pp.wb.p2]
    unfold setupOf
    rw [hx, List.map_cons, foldl_min_first hd2]
  · rfl

theorem foldl_max_first {d i c : Int} {r : List Int} (h : i ≤ d - c) : (d :: r).foldl (fun m d => max m (d - c)) i = (d :: r).foldl (fun m d => max m (d - c)) (d - c) := by
  simp only [List.foldl_cons]
  rw [show max i (d - c) = d - c by omega, show max (d - c) (d - c) = d - c by omega]

theorem spec_hold_eq {l : List TClock} {a ea b eb : Int} (hn : pNames l) (hl : l.length ≤ 4611686018427387904) :
    spec_HoldSeparation l a ea b eb = some (if relCode l a ea b eb = 0 then holdOf l a ea b eb else 0, relCode l a ea b eb) := by
  unfold spec_HoldSeparation
  rw [spec_l15Code_eq l a ea b eb hn hl, Option.bind_some]
  split
  · rename_i hc
    have h := relOk hc
    have pp := pp_of h
    have p1 := pp.wa.p1; have p2 := pp.wa.p2; have p3 := pp.wb.p1; have p4 := pp.wb.p2
    obtain ⟨x, r, hx⟩ := pairsOf_ne h
    have hpx := pairsOf_pair h x (by rw [hx]; simp)
    obtain ⟨u, v, hxuv, hwd, hd1, hd2⟩ := W_dif hpx pp.wb.p2
    rw [spec_pairs_eq h, Option.bind_some, spec_l14Of_eq (pWave_of h.ok h.a0 h.a1), Option.bind_some, spec_l14Of_eq (pWave_of h.ok h.b0 h.b1), Option.bind_some, hc]
    have e : atI (pairsOf l a ea b eb) 0 = some x := by rw [hx]; rfl
    have e1 : atI x 1 = some v := by rw [hxuv]; rfl
    have e0 : atI x 0 = some u := by rw [hxuv]; rfl
    rw [e, Option.bind_some, e1, Option.bind_some, e0, Option.bind_some, hwd]
    simp only [wvS, Tl14Wave.period]
    have := fold_loop (g := fun m d => max m (IntKind.i64.wrap (d - min (wave l a).period (wave l b).period))) (out := fun m => (m, (0 : Int))) (init := IntKind.i64.wrap (dif x - min (wave l a).period (wave l b).period)) (pairsOf_pair h) (pairsOf_len h)
      (step := fun v => spec_HoldSeparation_loop0 (pairsOf l a ea b eb) (wvS (wave l a)) (wvS (wave l b)) v.1 v.2.1) (fun m k => rfl) p4
    refine this.trans ?_
    have hb : ∀ d ∈ (pairsOf l a ea b eb).map dif, 1 ≤ d ∧ d ≤ 100000 := by
      intro d hd
      obtain ⟨x, hx, rfl⟩ := List.mem_map.1 hd
      obtain ⟨u, v, _, _, h1, h2⟩ := W_dif (pairsOf_pair h x hx) p4
      omega
    have step : ∀ (D : List Int), (∀ d ∈ D, 1 ≤ d ∧ d ≤ 100000) → ∀ m0, D.foldl (fun m d => max m (IntKind.i64.wrap (d - min (wave l a).period (wave l b).period))) m0 = D.foldl (fun m d => max m (d - min (wave l b).period (wave l a).period)) m0 := by
      intro D
      induction D with
      | nil => intro _ _; rfl
      | cons d D ih =>
        intro hb m0
        have := hb d (by simp)
        simp only [List.foldl_cons]
        rw [W_in (n := d - min (wave l a).period (wave l b).period) (by omega) (by omega), ih (fun d hd => hb d (by simp [hd]))]
        congr 2; omega
    rw [step _ hb, W_in (by omega) (by omega)]
    unfold holdOf
    rw [hx, List.map_cons, foldl_max_first (i := -(wave l b).period - (wave l a).period) (by omega), show min (wave l a).period (wave l b).period = min (wave l b).period (wave l a).period by omega]
  · rfl

end Go.Proofs.YtmaogoofmebdbaaGreatDoor
