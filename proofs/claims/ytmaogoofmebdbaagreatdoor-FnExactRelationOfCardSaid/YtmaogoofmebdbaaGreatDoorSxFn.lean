/-
  A whole function: its contract out of the verification condition of its body.
-/
import Derived.Test.YtmaogoofmebdbaaGreatDoorSxCode
namespace Go.Sx
set_option linter.unusedVariables false
set_option linter.unusedSimpArgs false

def entryR : (l : List Sh) → Shs l → Nat → (List SV → List Entry → Prop) → Prop
  | [], _, _, K => K [] []
  | .dat t :: r, d, n, K => splitK d fun x d' => toCellsR t x fun cs => datSV t cs fun s => entryR r d' n fun ss H => K (s :: ss) H
  | .io t :: r, d, n, K => splitK d fun x d' => toCellsR t x fun cs => entryR r d' (n + 1) fun ss H => K (.ptr n 0 :: ss) (.box cs :: H)
  | .own _ _ :: _, _, _, _ => False

def undefs : Nat → List SV → (List SV → Prop) → Prop
  | 0, l, K => K l
  | n + 1, l, K => undefs n (.tup [] :: l) K

theorem undefs_eq : ∀ (n : Nat) (l : List SV) (K : List SV → Prop), undefs n l K = K (List.replicate n (.tup []) ++ l)
  | 0, _, _ => rfl
  | n + 1, l, K => by
    simp only [undefs, undefs_eq n]
    congr 1
    rw [List.replicate_succ', List.append_assoc]
    rfl

def resK (Δ : Tab) : List ResultVar → List SV → List Entry → (List SV → Prop) → Prop
  | [], _, _, K => K []
  | .tmp t :: r, regs, H, K => getR regs t fun s => resK Δ r regs H fun ss => K (s :: ss)
  | .cell a T :: r, regs, H, K => getR regs a fun sa => tlook Δ T fun ti => loadK ti sa H fun s => resK Δ r regs H fun ss => K (s :: ss)

/-- what is handed back as data is turned into data -/
def frzOut : (l : List Sh) → List SV → List Entry → (List (List SV) → List Entry → Prop) → Prop
  | [], ss, H, K => match ss with
    | [] => K [] H
    | _ => False
  | .dat t :: r, ss, H, K => match ss with
    | s :: ss => if s.whole = true ∧ t.agg = s.isAgg then frzCells s.cells H fun cs H1 => frzOut r ss H1 fun css H2 => K (cs :: css) H2 else False
    | _ => False
  | .own _ _ :: r, ss, H, K => match ss with
    | s :: ss => frzOut r ss H fun css H2 => K ([s] :: css) H2
    | _ => False
  | .io _ :: _, _, _, _ => False

def frzIos : (l : List Sh) → Nat → List Entry → (List (List SV) → List Entry → Prop) → Prop
  | [], _, H, K => K [] H
  | .io _ :: r, n, H, K => getE H n fun e => match e with
    | .box cells => frzCells cells H fun cs H1 => frzIos r (n + 1) H1 fun css H2 => K (cs :: css) H2
    | _ => False
  | .dat _ :: r, n, H, K => frzIos r n H K
  | .own _ _ :: r, n, H, K => frzIos r n H K

def getOut : (l : List Sh) → List (List SV) → List Entry → List Nat → (Shs l → Prop) → Prop
  | [], _, _, _, K => K ()
  | .dat t :: r, css, H, ids, K => match css with
    | cs :: css => ofCellsR t cs fun d rest => match rest with
      | [] => getOut r css H ids fun ds => K (d, ds)
      | _ => False
    | _ => False
  | .own et t :: r, css, H, ids, K => match css with
    | [.nsl] :: css => getOut r css H ids fun ds => K ([], ds)
    | [.own id] :: css => if ids.contains id = true then False else getE H id fun e => match e with
      | .arr et' t' d => if h : t' = t then (if et' = et then getOut r css H (id :: ids) fun ds => castK h d fun d' => K (d', ds) else False) else False
      | _ => False
    | _ => False
  | .io _ :: _, _, _, _, _ => False

def getIos : (l : List Sh) → List (List SV) → (Ios l → Prop) → Prop
  | [], _, K => K ()
  | .io t :: r, css, K => match css with
    | cs :: css => ofCellsR t cs fun d rest => match rest with
      | [] => getIos r css fun ds => K (d, ds)
      | _ => False
    | _ => False
  | .dat _ :: r, css, K => getIos r css K
  | .own _ _ :: r, css, K => getIos r css K

def outK (Δ : Tab) (C : Ctr) (res : List ResultVar) (regs : List SV) (H : List Entry) (K : Shs C.rets → Ios C.args → Prop) : Prop :=
  resK Δ res regs H fun ss => frzOut C.rets ss H fun css H1 => frzIos C.args 0 H1 fun dss H2 => getOut C.rets css H2 [] fun rs => getIos C.args dss fun ios => K rs ios

/-- THE VERIFICATION CONDITION OF A FUNCTION. -/
def fnK (Δ : Tab) (Γ : Gam) (A : Ann) (C : Ctr) (fn : Func) (as : Shs C.args) (K : Shs C.rets → Ios C.args → Prop) : Prop :=
  match fn.body with
  | none => False
  | some c => entryR C.args as 0 fun ss H => lenR ss 0 fun n => undefs (fn.ntmps - n) [] fun us => appR ss us fun regs =>
    sx Δ Γ A c 0 (fun e regs' H' => match e with
      | .normal => outK Δ C fn.results.toList regs' H' K
      | .ret => outK Δ C fn.results.toList regs' H' K
      | _ => False) regs H

theorem entryR_ok {w : World} {S : Nat → Prop} : ∀ (l : List Sh) (d : Shs l) (vs : List Value) (pre : List Value) (_ : shsden S w l d vs) {K : List SV → List Entry → Prop} (_ : entryR l d pre.length K),
    ∃ ss H, K ss H ∧ ss.length = vs.length ∧ ∃ ids, ids.length = H.length ∧ dens ⟨S, w, pre ++ ids⟩ ss vs ∧
      (∀ (i : Nat) (e : Entry), H[i]? = some e → ∃ cells b cs T, e = .box cells ∧ ids[i]? = some (.pointer (some ⟨b, 0, none⟩)) ∧ w.heap[b]? = some (.cells cs T (0, 0)) ∧ dens ⟨S, w, pre ++ ids⟩ cells cs.toList) ∧
      ids.filterMap blkOf = priv l vs
  | [], d, vs, pre, h, K, hk => ⟨[], [], hk, by cases h; rfl, [], rfl, by cases h; trivial, fun i e hi => by simp at hi, by cases h; simp [priv]⟩
  | .dat t :: r, d, _, pre, ⟨v, vr, e, h1, h2⟩, K, hk => by
    subst e
    simp only [entryR, splitK_eq, toCellsR_eq] at hk
    -- the value does not hang on the variables
    have hany : ∀ ids, ∀ K', datSV t (toCells t d.1) K' → ∃ s, den ⟨S, w, ids⟩ s v ∧ K' s := fun ids K' hk' => datSV_ok (E := ⟨S, w, ids⟩) h1 hk'
    unfold datSV at hk
    obtain ⟨g1, g2, g3⟩ := h1
    split at hk
    · rename_i ha
      obtain ⟨ss, H, hk, hl, ids, a1, a2, a3, a4⟩ := entryR_ok r d.2 vr pre h2 hk
      obtain ⟨cs, rfl⟩ := g1 ha
      exact ⟨_, H, hk, by simp [hl], ids, a1, ⟨by simp only [den]; exact ⟨cs.toList, by simp, dens_toCells (E := ⟨S, w, pre ++ ids⟩) t d.1 _ g3⟩, a2⟩, a3, by simpa [priv] using a4⟩
    · rename_i ha
      have hv := g2 (by simpa using ha)
      split at hk
      · rename_i c q heq
        obtain ⟨ss, H, hk, hl, ids, a1, a2, a3, a4⟩ := entryR_ok r d.2 vr pre h2 hk
        have hd := dens_toCells (E := ⟨S, w, pre ++ ids⟩) t d.1 _ g3
        rw [heq, hv] at hd
        simp only [dens] at hd
        exact ⟨_, H, hk, by simp [hl], ids, a1, ⟨hd.1, a2⟩, a3, by simpa [priv] using a4⟩
      · exact hk.elim
  | .io t :: r, d, _, pre, ⟨v, vr, e, ⟨b, cs, T, g1, g2, g3⟩, h2⟩, K, hk => by
    subst e; subst g1
    simp only [entryR, splitK_eq, toCellsR_eq] at hk
    obtain ⟨ss, H, hk, hl, ids, a1, a2, a3, a4⟩ := entryR_ok r d.2 vr (pre ++ [.pointer (some ⟨b, 0, none⟩)]) h2 (by simpa using hk)
    rw [List.append_assoc] at a2
    have happ : pre ++ ([Value.pointer (some ⟨b, 0, none⟩)] ++ ids) = pre ++ (.pointer (some ⟨b, 0, none⟩) :: ids) := rfl
    rw [happ] at a2
    refine ⟨_, _, hk, by simp [hl], .pointer (some ⟨b, 0, none⟩) :: ids, by simp [a1], ⟨?_, a2⟩, fun i e hi => ?_, by simp [priv, blkOf, a4]⟩
    · simp only [den]; exact ⟨b, by simp, rfl⟩
    · cases i with
      | zero => simp at hi; subst hi; exact ⟨_, b, cs, T, rfl, rfl, g2, dens_toCells (E := ⟨S, w, pre ++ (.pointer (some ⟨b, 0, none⟩) :: ids)⟩) t d.1 _ g3⟩
      | succ i =>
        obtain ⟨cells, b', cs', T', c1, c2, c3, c4⟩ := a3 i e (by simpa using hi)
        rw [List.append_assoc] at c4
        exact ⟨cells, b', cs', T', c1, by simpa using c2, c3, c4⟩
  | .own _ _ :: _, _, _, _, _, _, hk => by simp only [entryR] at hk

def resF (tmps : Array Value) : ResultVar → Sem Value
  | .tmp t => pure (tmps.getD t undef)
  | .cell a t => asAddr (tmps.getD a undef) >>= fun p => loadVar t p

theorem resK_ok {P : Program} {Δ : Tab} (hΔ : Δ.ok P) {B : Base} {E : Env} {H : List Entry} (hI : Inv B E H) {regs : List SV} {tmps : Array Value} (hd : dens E regs tmps.toList) : ∀ (l : List ResultVar) {K : List SV → Prop} (_ : resK Δ l regs H K),
    ∃ ss us, (l.mapM (resF tmps)).run P E.w = .ok us E.w ∧ dens E ss us ∧ K ss
  | [], K, hk => ⟨[], [], rfl, trivial, hk⟩
  | .tmp t :: r, K, hk => by
    simp only [resK] at hk
    obtain ⟨s, v, hv, hs, hk, _⟩ := getR_ok _ _ hd hk
    obtain ⟨ss, us, h1, h2, h3⟩ := resK_ok hΔ hI hd r hk
    have hv' : tmps.getD t undef = v := by
      have : tmps[t]? = some v := by simpa using hv
      simp [this]
    refine ⟨s :: ss, v :: us, ?_, ⟨hs, h2⟩, h3⟩
    rw [List.mapM_cons, Sem.run_bind, resF, hv', Sem.run_pure, Result.andThen_ok, Sem.run_bind, h1]
    rfl
  | .cell a T :: r, K, hk => by
    simp only [resK] at hk
    obtain ⟨sa, va, hv, hs, hk, _⟩ := getR_ok _ _ hd hk
    obtain ⟨ti, ht, hk⟩ := tlook_ok Δ hΔ hk
    obtain ⟨u, s, h0, hu, hk⟩ := loadK_ok hI ht hs hk
    have h0 := h0.here
    obtain ⟨ss, us, h1, h2, h3⟩ := resK_ok hΔ hI hd r hk
    have hv' : tmps.getD a undef = va := by
      have : tmps[a]? = some va := by simpa using hv
      simp [this]
    have hptr : ∃ p, va = .pointer (some p) := by
      cases va with
      | pointer p => cases p with
        | some p => exact ⟨p, rfl⟩
        | none => simp [Instr.loadAt, Instr.sureAddr] at h0
      | _ => simp [Instr.loadAt, Instr.sureAddr] at h0
    obtain ⟨p, rfl⟩ := hptr
    have h0' : (loadVar T p).run P E.w = .ok u E.w := by simpa [Instr.loadAt, Instr.sureAddr] using h0
    refine ⟨s :: ss, u :: us, ?_, ⟨hu, h2⟩, h3⟩
    rw [List.mapM_cons, Sem.run_bind, resF, hv', asAddr, pure_bind, h0', Result.andThen_ok, Sem.run_bind, h1]
    rfl

theorem results_eq (fn : Func) (tmps : Array Value) : results fn tmps = (fn.results.mapM (resF tmps) >>= fun vs => pure (if h : vs.size = 1 then vs[0] else .tuple vs)) := by
  have e : (fun x => match x with
    | ResultVar.tmp t => pure (tmps.getD t undef)
    | ResultVar.cell a t => do loadVar t (← asAddr (tmps.getD a undef)) : ResultVar → Sem Value) = resF tmps := by
    funext x; cases x <;> rfl
  rw [← e]
  rfl

theorem run_results {P : Program} {fn : Func} {tmps : Array Value} {us : List Value} {w : World} (h : (fn.results.toList.mapM (resF tmps)).run P w = .ok us w) :
    ∃ v, (results fn tmps).run P w = .ok v w ∧ retv us v := by
  have h' : (fn.results.mapM (resF tmps)).run P w = .ok us.toArray w := by
    rw [← Array.toArray_toList (xs := fn.results), List.mapM_toArray]
    simp only [Sem.run_map, h, Result.andThen_ok]
  rw [results_eq, Sem.run_bind, h', Result.andThen_ok]
  unfold retv
  match us with
  | [u] => exact ⟨u, rfl, rfl⟩
  | [] => exact ⟨_, rfl, rfl⟩
  | a :: b :: r => exact ⟨.tuple (a :: b :: r).toArray, by simp, rfl⟩

/-- what has been turned into data, cell by cell, beside what it came of -/
def outden (E : Env) : List (List SV) → List Value → List Bool → Prop
  | [], [], _ => True
  | cs :: css, u :: us, b :: bs => (if b = true then dens E cs u.cells.toList else dens E cs [u]) ∧ outden E css us bs
  | _, _, _ => False

def isDat : Sh → Bool
  | .dat _ => true
  | _ => false

theorem outden_mono {E E' : Env} (h : E.le E') : ∀ (css : List (List SV)) (us : List Value) (bs : List Bool), outden E css us bs → outden E' css us bs
  | [], [], _, _ => trivial
  | cs :: css, u :: us, b :: bs, h1 => by
    simp only [outden] at h1 ⊢
    refine ⟨?_, outden_mono h css us bs h1.2⟩
    cases b
    · simpa using dens_mono h _ _ (by simpa using h1.1)
    · simpa using dens_mono h _ _ (by simpa using h1.1)
  | [], _ :: _, _, h1 => by simp [outden] at h1
  | _ :: _, [], _, h1 => by simp [outden] at h1
  | _ :: _, _ :: _, [], h1 => by simp [outden] at h1

/-- the form of each value that is data -/
def formden : (l : List Sh) → List Value → Prop
  | [], us => us = []
  | .dat t :: r, us => ∃ u ur, us = u :: ur ∧ (t.agg = true → ∃ cs, u = .agg cs) ∧ (t.agg = false → u.cells = #[u]) ∧ formden r ur
  | _ :: r, us => ∃ u ur, us = u :: ur ∧ formden r ur

theorem frzOut_ok {B : Base} : ∀ (l : List Sh) (ss : List SV) {E : Env} {H : List Entry} (_ : Inv B E H) {us : List Value} (_ : dens E ss us) {K : List (List SV) → List Entry → Prop} (_ : frzOut l ss H K),
    ∃ E1 H1 css, E1.w = E.w ∧ E1.ids = E.ids ∧ Inv B E1 H1 ∧ E.le E1 ∧ outden E1 css us (l.map isDat) ∧ formden l us ∧ K css H1
  | [], ss, E, H, hI, us, hd, K, hk => by
    simp only [frzOut] at hk
    split at hk
    · match us, hd with
      | [], _ => exact ⟨E, H, [], rfl, rfl, hI, Env.le.refl E, trivial, rfl, hk⟩
      | _ :: _, hd => simp [dens] at hd
    · exact hk.elim
  | .dat t :: r, ss, E, H, hI, us, hd, K, hk => by
    simp only [frzOut] at hk
    split at hk
    · rename_i s ss
      match us, hd with
      | [], hd => simp [dens] at hd
      | u :: us, hd =>
        simp only [dens] at hd
        split at hk
        · rename_i hc
          obtain ⟨E1, H1, cs, hw1, hid1, hI1, hle1, hd1, hk⟩ := frzCells_ok _ hI (cells_den hd.1 hc.1) hk
          obtain ⟨E2, H2, css, hw2, hid2, hI2, hle2, hd2, hf2, hk⟩ := frzOut_ok r ss hI1 (dens_mono hle1 _ _ hd.2) hk
          have hag' := isAgg_ok hd.1 hc.1
          exact ⟨E2, H2, cs :: css, hw2.trans hw1, hid2.trans hid1, hI2, hle1.trans hle2, ⟨by simpa [isDat] using dens_mono hle2 _ _ hd1, hd2⟩,
            ⟨u, us, rfl, fun h => hag'.1 (by rw [← hc.2]; exact h), fun h => hag'.2 (by rw [← hc.2]; exact h), hf2⟩, hk⟩
        · exact hk.elim
    · exact hk.elim
  | .own et t :: r, ss, E, H, hI, us, hd, K, hk => by
    simp only [frzOut] at hk
    split at hk
    · rename_i s ss
      match us, hd with
      | [], hd => simp [dens] at hd
      | u :: us, hd =>
        simp only [dens] at hd
        obtain ⟨E2, H2, css, hw2, hid2, hI2, hle2, hd2, hf2, hk⟩ := frzOut_ok r ss hI hd.2 hk
        exact ⟨E2, H2, [s] :: css, hw2, hid2, hI2, hle2, ⟨by simpa [isDat, dens] using den_mono hle2 _ _ hd.1, hd2⟩, ⟨u, us, rfl, hf2⟩, hk⟩
    · exact hk.elim
  | .io _ :: _, ss, _, _, _, _, _, _, hk => by simp only [frzOut] at hk

/-- the variables that are handed in, in their order -/
def iovals : List Sh → List Value → List Value
  | .io _ :: r, v :: vs => v :: iovals r vs
  | .dat _ :: r, _ :: vs => iovals r vs
  | .own _ _ :: r, _ :: vs => iovals r vs
  | _, _ => []

theorem iovals_zip : ∀ (l : List Sh) (vs : List Value), l.length = vs.length → ((l.zip vs).filterMap fun x => match x.1 with | .io _ => some x.2 | _ => none) = iovals l vs
  | [], _, _ => rfl
  | .io _ :: r, v :: vs, h => by simp [iovals, iovals_zip r vs (by simpa using h)]
  | .dat _ :: r, v :: vs, h => by simp [iovals, iovals_zip r vs (by simpa using h)]
  | .own _ _ :: r, v :: vs, h => by simp [iovals, iovals_zip r vs (by simpa using h)]
  | _ :: _, [], h => by simp at h

theorem frzIos_ok {B : Base} : ∀ (l : List Sh) (n : Nat) {E : Env} {H : List Entry} (_ : Inv B E H) (vs : List Value) (_ : ∀ (i : Nat) (u : Value), ((l.zip vs).filterMap fun x => match x.1 with | .io _ => some x.2 | _ => none)[i]? = some u → E.ids[n + i]? = some u)
    (_ : l.length = vs.length) {K : List (List SV) → List Entry → Prop} (_ : frzIos l n H K),
    ∃ E1 H1 css, E1.w = E.w ∧ E1.ids = E.ids ∧ Inv B E1 H1 ∧ E.le E1 ∧ K css H1 ∧ (∀ (i : Nat) (c : List SV), H[i]? = some (.box c) ↔ H1[i]? = some (.box c)) ∧
      (∀ i, i < (iovals l vs).length → ∃ c, H1[n + i]? = some (.box c)) ∧
      (∀ ios : Ios l → Prop, ∀ (E2 : Env), E1.le E2 → E2.w = E.w → getIos l css ios → ∃ d, ios d ∧ iosden E2.S E2.w l d vs)
  | [], n, E, H, hI, vs, hp, hlen, K, hk => ⟨E, H, [], rfl, rfl, hI, Env.le.refl E, hk, fun _ _ => Iff.rfl, fun i hi => by simp [iovals] at hi, fun ios E2 _ _ h => ⟨(), h, trivial⟩⟩
  | .io t :: r, n, E, H, hI, vs, hp, hlen, K, hk => by
    match vs, hlen with
    | v :: vs, hlen =>
      simp only [frzIos] at hk
      obtain ⟨e, he, hk⟩ := getE_ok H hk
      split at hk
      · rename_i cells
        have hv0 : E.ids[n]? = some v := by simpa using hp 0 v (by simp)
        obtain ⟨b, cs0, T, e1, e2, e3⟩ := hI.ent n _ he
        have := hv0.symm.trans e1; simp at this; subst this
        obtain ⟨E1, H1, cs, hw1, hid1, hI1, hle1, hd1, hk, hb1⟩ := frzCells_box _ hI e3 hk
        obtain ⟨E2, H2, css, hw2, hid2, hI2, hle2, hk, hb2, hbx2, hg⟩ := frzIos_ok r (n + 1) hI1 vs (fun i u hu => by
          have := hp (i + 1) u (by simpa using hu)
          rw [hid1, show n + 1 + i = n + (i + 1) by omega]; exact this) (by simpa using hlen) hk
        refine ⟨E2, H2, cs :: css, hw2.trans hw1, hid2.trans hid1, hI2, hle1.trans hle2, hk, fun i c => (hb1 i c).trans (hb2 i c), fun i hi => ?_, fun ios E3 hle3 hw3 h => ?_⟩
        · cases i with
          | zero => exact ⟨cells, (hb2 _ _).1 ((hb1 _ _).1 he)⟩
          | succ i =>
            have := hbx2 i (by simpa [iovals] using hi)
            rwa [show n + 1 + i = n + (i + 1) by omega] at this
        simp only [getIos] at h
        obtain ⟨d, rest, v1, v2, e12, hr, hrest, h⟩ := ofCellsR_ok t cs _ _ (dens_mono (hle2.trans hle3) _ _ hd1) h
        split at h
        · have hv2 : v2 = [] := by cases v2 with
            | nil => rfl
            | cons => simp [dens] at hrest
          subst hv2
          rw [List.append_nil] at e12
          obtain ⟨ds, h, hio⟩ := hg _ E3 hle3 (by rw [hw3, hw1]) h
          exact ⟨(d, ds), h, _, vs, rfl, ⟨b, cs0, T, rfl, by rw [hw3]; exact e2, by rw [e12]; exact hr⟩, hio⟩
        · exact h.elim
      · exact hk.elim
  | .dat _ :: r, n, E, H, hI, vs, hp, hlen, K, hk => by
    match vs, hlen with
    | v :: vs, hlen =>
      obtain ⟨E2, H2, css, hw2, hid2, hI2, hle2, hk, hb2, hbx2, hg⟩ := frzIos_ok r n hI vs (fun i u hu => hp i u (by simpa using hu)) (by simpa using hlen) hk
      refine ⟨E2, H2, css, hw2, hid2, hI2, hle2, hk, hb2, hbx2, fun ios E3 hle3 hw3 h => ?_⟩
      obtain ⟨ds, h, hio⟩ := hg _ E3 hle3 hw3 h
      exact ⟨ds, h, v, vs, rfl, hio⟩
  | .own _ _ :: r, n, E, H, hI, vs, hp, hlen, K, hk => by
    match vs, hlen with
    | v :: vs, hlen =>
      obtain ⟨E2, H2, css, hw2, hid2, hI2, hle2, hk, hb2, hbx2, hg⟩ := frzIos_ok r n hI vs (fun i u hu => hp i u (by simpa using hu)) (by simpa using hlen) hk
      refine ⟨E2, H2, css, hw2, hid2, hI2, hle2, hk, hb2, hbx2, fun ios E3 hle3 hw3 h => ?_⟩
      obtain ⟨ds, h, hio⟩ := hg _ E3 hle3 hw3 h
      exact ⟨ds, h, v, vs, rfl, hio⟩

/-- what is handed back, as data and as lists of its own -/
theorem getOut_ok {B : Base} {E : Env} {H : List Entry} (hI : Inv B E H) : ∀ (l : List Sh) (css : List (List SV)) (us : List Value) (ids : List Nat) (_ : outden E css us (l.map isDat)) (_ : formden l us) {K : Shs l → Prop} (_ : getOut l css H ids K),
    ∃ rs, K rs ∧ shsden E.S E.w l rs us ∧ (priv l us).Nodup ∧ (∀ g ∈ priv l us, ∃ (id : Nat) (et : TypeId) (t : Ty) (d : List t.den) (v : Value), id ∉ ids ∧ H[id]? = some (.arr et t d) ∧ E.ids[id]? = some v ∧ blkOf v = some g)
  | [], css, us, ids, hd, hf, K, hk => by
    have : us = [] := hf
    subst this
    exact ⟨(), hk, rfl, by simp [priv], fun g hg => by simp [priv] at hg⟩
  | .dat t :: r, css, us, ids, hd, hf, K, hk => by
    obtain ⟨u, ur, e, f1, f2, f3⟩ := hf
    subst e
    simp only [getOut] at hk
    split at hk
    · rename_i cs css
      simp only [List.map_cons, isDat, outden, if_true] at hd
      obtain ⟨d, rest, v1, v2, e12, hr, hrest, hk⟩ := ofCellsR_ok t cs _ _ hd.1 hk
      split at hk
      · have hv2 : v2 = [] := by cases v2 with
          | nil => rfl
          | cons => simp [dens] at hrest
        subst hv2
        rw [List.append_nil] at e12
        obtain ⟨rs, hk, h1, h2, h3⟩ := getOut_ok hI r css ur ids hd.2 f3 hk
        exact ⟨(d, rs), hk, ⟨u, ur, rfl, ⟨f1, f2, by rw [e12]; exact hr⟩, h1⟩, by simpa [priv] using h2, fun g hg => h3 g (by simpa [priv] using hg)⟩
      · exact hk.elim
    · exact hk.elim
  | .own et t :: r, css, us, ids, hd, hf, K, hk => by
    obtain ⟨u, ur, e, f3⟩ := hf
    subst e
    simp only [getOut] at hk
    split at hk
    · rename_i css
      simp only [List.map_cons, isDat, outden, Bool.false_eq_true, if_false, dens, den] at hd
      obtain ⟨⟨rfl, _⟩, hd2⟩ := hd
      obtain ⟨rs, hk, h1, h2, h3⟩ := getOut_ok hI r css ur ids hd2 f3 hk
      exact ⟨([], rs), hk, ⟨_, ur, rfl, ⟨[], World.ownsRow_nil _ _ _ _, rfl⟩, h1⟩, by simpa [priv, blkOf] using h2, fun g hg => h3 g (by simpa [priv, blkOf] using hg)⟩
    · rename_i id css
      split at hk
      · exact hk.elim
      · rename_i hnot
        obtain ⟨e, he, hk⟩ := getE_ok H hk
        split at hk
        · rename_i et' t' d
          split at hk
          · rename_i ht; subst ht
            split at hk
            · rename_i het; subst het
              simp only [List.map_cons, isDat, outden, Bool.false_eq_true, if_false, dens, den] at hd
              obtain ⟨⟨⟨hid, _⟩, _⟩, hd2⟩ := hd
              obtain ⟨v', xs, e1, ho, hr⟩ := hI.ent id _ he
              have := hid.symm.trans e1; simp at this; subst this
              obtain ⟨rs, hk, h1, h2, h3⟩ := getOut_ok hI r css ur (id :: ids) hd2 f3 hk
              have hnot' : id ∉ ids := by simpa using hnot
              refine ⟨(d, rs), hk, ⟨u, ur, rfl, ⟨xs, ho, hr⟩, h1⟩, ?_, fun g hg => ?_⟩
              · simp only [priv]
                cases hb : blkOf u with
                | none => exact h2
                | some g =>
                  refine List.nodup_cons.2 ⟨fun hg => ?_, h2⟩
                  obtain ⟨id', et2, t2, d2, v', a1, a2, a4, a5⟩ := h3 g hg
                  have := hI.sep id' id _ _ v' u g a2 he rfl rfl a4 e1 a5 hb
                  subst this; exact a1 (by simp)
              · have hg' : g ∈ priv r ur ∨ blkOf u = some g := by
                  simp only [priv] at hg
                  cases hb : blkOf u with
                  | none => rw [hb] at hg; exact .inl hg
                  | some g' =>
                    rw [hb] at hg
                    rcases List.mem_cons.1 hg with rfl | hg
                    · exact .inr rfl
                    · exact .inl hg
                rcases hg' with hg' | hg'
                · obtain ⟨id', et2, t2, d2, v', a1, a2, a4, a5⟩ := h3 g hg'
                  exact ⟨id', et2, t2, d2, v', fun hm => a1 (by simp [hm]), a2, a4, a5⟩
                · exact ⟨id, _, _, _, u, hnot', he, e1, hg'⟩
            · exact hk.elim
          · exact hk.elim
        · exact hk.elim
    · exact hk.elim
  | .io _ :: _, css, us, ids, hd, hf, K, hk => by simp only [getOut] at hk

theorem ios_zip {w : World} {S : Nat → Prop} : ∀ (l : List Sh) (d : Shs l) (vs : List Value), shsden S w l d vs → l.length = vs.length
  | [], _, _, h => by cases h; rfl
  | _ :: r, d, _, ⟨v, vr, e, _, h⟩ => by subst e; simp [ios_zip r d.2 vr h]

theorem entry_ids {w : World} {S : Nat → Prop} : ∀ (l : List Sh) (d : Shs l) (vs : List Value) (pre : List Value) (_ : shsden S w l d vs) {K : List SV → List Entry → Prop} (_ : entryR l d pre.length K),
    ∃ ss H, K ss H ∧ ss.length = vs.length ∧ (iovals l vs).length = H.length ∧ dens ⟨S, w, pre ++ iovals l vs⟩ ss vs ∧
      (∀ (i : Nat) (e : Entry), H[i]? = some e → ∃ cells b cs T, e = .box cells ∧ (iovals l vs)[i]? = some (.pointer (some ⟨b, 0, none⟩)) ∧ w.heap[b]? = some (.cells cs T (0, 0)) ∧ dens ⟨S, w, pre ++ iovals l vs⟩ cells cs.toList) ∧
      (iovals l vs).filterMap blkOf = priv l vs
  | [], d, vs, pre, h, K, hk => ⟨[], [], hk, by cases h; rfl, rfl, by cases h; trivial, fun i e hi => by simp at hi, by cases h; simp [priv, iovals]⟩
  | .dat t :: r, d, _, pre, ⟨v, vr, e, h1, h2⟩, K, hk => by
    subst e
    simp only [entryR, splitK_eq, toCellsR_eq] at hk
    unfold datSV at hk
    obtain ⟨g1, g2, g3⟩ := h1
    split at hk
    · rename_i ha
      obtain ⟨ss, H, hk, hl, a1, a2, a3, a4⟩ := entry_ids r d.2 vr pre h2 hk
      obtain ⟨cs, rfl⟩ := g1 ha
      exact ⟨_, H, hk, by simp [hl], a1, ⟨by simp only [den]; exact ⟨cs.toList, by simp, dens_toCells (E := ⟨S, w, pre ++ iovals r vr⟩) t d.1 _ g3⟩, a2⟩, a3, by simpa [priv, iovals] using a4⟩
    · rename_i ha
      have hv := g2 (by simpa using ha)
      split at hk
      · rename_i c q heq
        obtain ⟨ss, H, hk, hl, a1, a2, a3, a4⟩ := entry_ids r d.2 vr pre h2 hk
        have hd := dens_toCells (E := ⟨S, w, pre ++ iovals r vr⟩) t d.1 _ g3
        rw [heq, hv] at hd
        simp only [dens] at hd
        exact ⟨_, H, hk, by simp [hl], a1, ⟨hd.1, a2⟩, a3, by simpa [priv, iovals] using a4⟩
      · exact hk.elim
  | .io t :: r, d, _, pre, ⟨v, vr, e, ⟨b, cs, T, g1, g2, g3⟩, h2⟩, K, hk => by
    subst e; subst g1
    simp only [entryR, splitK_eq, toCellsR_eq] at hk
    obtain ⟨ss, H, hk, hl, a1, a2, a3, a4⟩ := entry_ids r d.2 vr (pre ++ [.pointer (some ⟨b, 0, none⟩)]) h2 (by simpa using hk)
    rw [List.append_assoc] at a2
    have happ : pre ++ ([Value.pointer (some ⟨b, 0, none⟩)] ++ iovals r vr) = pre ++ (.pointer (some ⟨b, 0, none⟩) :: iovals r vr) := rfl
    rw [happ] at a2
    refine ⟨_, _, hk, by simp [hl], by simp [iovals, a1], ⟨?_, a2⟩, fun i e hi => ?_, by simp [priv, iovals, blkOf, a4]⟩
    · simp only [den]; exact ⟨b, by simp [iovals], rfl⟩
    · cases i with
      | zero => simp at hi; subst hi; exact ⟨_, b, cs, T, rfl, rfl, g2, dens_toCells (E := ⟨S, w, pre ++ (.pointer (some ⟨b, 0, none⟩) :: iovals r vr)⟩) t d.1 _ g3⟩
      | succ i =>
        obtain ⟨cells, b', cs', T', c1, c2, c3, c4⟩ := a3 i e (by simpa using hi)
        rw [List.append_assoc] at c4
        exact ⟨cells, b', cs', T', c1, by simpa [iovals] using c2, c3, c4⟩
  | .own _ _ :: _, _, _, _, _, _, hk => by simp only [entryR] at hk

theorem filterMap_inj {α β : Type} {f : α → Option β} : ∀ {l : List α} {i j : Nat} {a b : α} {g : β}, (l.filterMap f).Nodup → l[i]? = some a → l[j]? = some b → f a = some g → f b = some g → i = j
  | [], i, j, a, b, g, _, hi, _, _, _ => by simp at hi
  | x :: l, 0, 0, a, b, g, _, _, _, _, _ => rfl
  | x :: l, 0, j + 1, a, b, g, h, hi, hj, ha, hb => by
    simp at hi hj; subst hi
    rw [List.filterMap_cons, ha] at h
    exact absurd (List.mem_filterMap.2 ⟨b, List.mem_of_getElem? hj, hb⟩) (List.nodup_cons.1 h).1
  | x :: l, i + 1, 0, a, b, g, h, hi, hj, ha, hb => by
    simp at hi hj; subst hj
    rw [List.filterMap_cons, hb] at h
    exact absurd (List.mem_filterMap.2 ⟨a, List.mem_of_getElem? hi, ha⟩) (List.nodup_cons.1 h).1
  | x :: l, i + 1, j + 1, a, b, g, h, hi, hj, ha, hb => by
    have h' : (l.filterMap f).Nodup := by
      rw [List.filterMap_cons] at h
      split at h
      · exact h
      · exact (List.nodup_cons.1 h).2
    have hi' : l[i]? = some a := by simpa using hi
    have hj' : l[j]? = some b := by simpa using hj
    have := filterMap_inj h' hi' hj' ha hb
    omega

/-- A FUNCTION KEEPS ITS CONTRACT if its verification condition follows from it. -/
theorem fn_sound {P : Program} {Δ : Tab} (hΔ : Δ.ok P) {Γ : Gam} (hΓ : Γ.ok P) (hm : P.follows .mixedOrders = true) (A : Ann) {f : FuncId} {fn : Func} (hf : P.funcs[f]? = some fn) (hname : (fn.name == "runtime.NumGoroutine") = false) (hbody : fn.body.isNone = false) {C : Ctr}
    (hvc : ∀ (as : Shs C.args) (K : Shs C.rets → Ios C.args → Prop), C.tr as K → fnK Δ Γ A C fn as K) : SoundC P f C := by
  refine ⟨⟨fn, hf, hname, hbody⟩, ?_⟩
  · intro w S vs as K hSlt has hnd hpriv hK
    have hk := hvc as K hK
    unfold fnK at hk
    split at hk
    · exact hk.elim
    · rename_i c hbody'
      obtain ⟨ss, H, hk, hl, h1, h2, h3, h4⟩ := entry_ids C.args as vs [] has hk
      rw [lenR_eq, undefs_eq, appR_eq, Nat.zero_add, List.append_nil] at hk
      simp only [List.nil_append] at h2 h3
      let B : Base := ⟨w, S, fun b => b ∈ priv C.args vs, iovals C.args vs⟩
      have hlive : ∀ (i : Nat) (e : Entry) (v : Value) (g : Nat), H[i]? = some e → (iovals C.args vs)[i]? = some v → blkOf v = some g → g ∈ priv C.args vs := by
        intro i e v g _ hv hb
        rw [← h4]
        exact List.mem_filterMap.2 ⟨v, List.mem_of_getElem? hv, hb⟩
      have hI : Inv B ⟨S, w, iovals C.args vs⟩ H :=
        { keeps := ⟨rfl, rfl, rfl, Nat.le_refl _, fun _ _ _ => rfl⟩
          Slt := hSlt
          Sold := fun b hb _ => .inl hb
          len := h1
          pin := fun _ _ h => h
          ent := fun i e hi => by
            obtain ⟨cells, b, cs, T, rfl, c2, c3, c4⟩ := h3 i e hi
            exact ⟨b, cs, T, c2, c3, c4⟩
          free := fun i e v g hi _ hv hb => by
            have hm := hlive i e v g hi hv hb
            exact ⟨(hpriv g hm).1, .inr hm, (hpriv g hm).2⟩
          sep := fun i j ei ej vi vj g hi hj _ _ hvi hvj hbi hbj => by
            have hnd' : ((iovals C.args vs).filterMap blkOf).Nodup := by rw [h4]; exact hnd
            exact filterMap_inj hnd' hvi hvj hbi hbj }
      refine calls_of_wp hf hbody' ?_
      have hdens : dens ⟨S, w, iovals C.args vs⟩ (ss ++ List.replicate (fn.ntmps - ss.length) (.tup [])) (vs.toArray ++ Array.replicate (fn.ntmps - vs.toArray.size) undef).toList := by
        rw [Array.toList_append, Array.toList_replicate, List.toList_toArray, List.size_toArray, hl]
        refine dens_append _ _ h2 _ _ ?_
        have : ∀ n, dens ⟨S, w, iovals C.args vs⟩ (List.replicate n (.tup [])) (List.replicate n undef) := by
          intro n
          induction n with
          | zero => trivial
          | succ n ih => exact ⟨by simp only [den]; exact ⟨[], rfl, trivial⟩, ih⟩
        exact this _
      refine sx_ok hΔ hΓ A hm c 0 _ hk (B := B) ⟨_, rfl, hI, hdens, rfl⟩ _ ?_
      intro e regs' H' a' w' hq hc'
      obtain ⟨E2, hw2, hI2, hd2, hdef2⟩ := hc'
      subst hw2
      have fin : outK Δ C fn.results.toList regs' H' K → bodyPost P fn (fun e w' => ∃ v us rs ios S', e = .returned v ∧ retv us v ∧ K rs ios ∧ Keeps ⟨w, S, fun b => b ∈ priv C.args vs, []⟩ w' ∧ (∀ b, S b → S' b) ∧
          (∀ b, S' b → b < w'.heap.size ∧ (b < w.heap.size → S b)) ∧ shsden S' w' C.rets rs us ∧ iosden S' w' C.args ios vs ∧
          (priv C.rets us).Nodup ∧ ∀ g ∈ priv C.rets us, ¬ S' g ∧ w.heap.size ≤ g ∧ g < w'.heap.size) .ret a' E2.w := by
        intro hq
        unfold outK at hq
        obtain ⟨ss', us, hrun, hds, hq⟩ := resK_ok hΔ hI2 hd2 _ hq
        obtain ⟨E3, H3, css, hw3, hid3, hI3, hle3, hod, hform, hq⟩ := frzOut_ok _ _ hI2 hds hq
        obtain ⟨E4, H4, dss, hw4, hid4, hI4, hle4, hq, hbx, hbxs, hios⟩ := frzIos_ok C.args 0 hI3 vs (fun i u hu => by
          rw [iovals_zip _ _ (ios_zip _ _ _ has)] at hu
          rw [Nat.zero_add]
          exact hI3.pin i u hu) (ios_zip _ _ _ has) hq
        obtain ⟨rs, hq, hrs, hrn, hrl⟩ := getOut_ok hI4 _ _ _ [] (outden_mono hle4 _ _ _ hod) hform hq
        obtain ⟨ios, hq, hio⟩ := hios _ E4 (Env.le.refl E4) hw4 hq
        obtain ⟨v, hv, hret⟩ := run_results hrun
        have hww : E4.w = E2.w := by rw [hw4, hw3]
        have hold : ∀ b, E4.S b → b < w.heap.size → S b := by
          intro b hb hlt
          rcases hI4.Sold b hb hlt with h | h
          · exact h
          · exfalso
            have hm : b ∈ (iovals C.args vs).filterMap blkOf := by rw [h4]; exact h
            obtain ⟨u, hu, hub⟩ := List.mem_filterMap.1 hm
            obtain ⟨i, hi⟩ := List.mem_iff_getElem?.1 hu
            obtain ⟨c, hc⟩ := hbxs i (List.getElem?_eq_some_iff.1 hi).1
            rw [Nat.zero_add] at hc
            exact (hI4.free i _ u b hc rfl (hI4.pin i u hi) hub).1 hb
        refine bodyPost_ret hv hdef2 ⟨v, us, rs, ios, fun b => E4.S b ∨ S b, rfl, hret, hq, ?_, fun b hb => .inr hb, ?_, ?_, ?_, hrn, ?_⟩
        · have := hI2.keeps
          exact ⟨this.os, this.tape, this.output, this.size, this.block⟩
        · intro b hb
          rcases hb with hb | hb
          · exact ⟨by rw [← hww]; exact hI4.Slt b hb, hold b hb⟩
          · exact ⟨Nat.lt_of_lt_of_le (hSlt b hb) hI2.keeps.size, fun _ => hb⟩
        · rw [← hww]; exact shsden_mono (fun b hb => .inl hb) _ _ _ hrs
        · rw [← hww]; exact iosden_mono (fun b hb => .inl hb) _ _ _ hio
        · intro g hg
          obtain ⟨id, et, t, d, u, _, a2, a3, a4⟩ := hrl g hg
          obtain ⟨b1, b2, b3⟩ := hI4.free id _ u g a2 rfl a3 a4
          have hge : w.heap.size ≤ g := by
            rcases b2 with b2 | b2
            · exact b2
            · exfalso
              have hm : g ∈ (iovals C.args vs).filterMap blkOf := by rw [h4]; exact b2
              obtain ⟨u', hu, hub⟩ := List.mem_filterMap.1 hm
              obtain ⟨i, hi⟩ := List.mem_iff_getElem?.1 hu
              obtain ⟨c, hc⟩ := hbxs i (List.getElem?_eq_some_iff.1 hi).1
              rw [Nat.zero_add] at hc
              have := hI4.sep i id _ _ u' u g hc a2 rfl rfl (hI4.pin i u' hi) a3 hub a4
              subst this
              rw [hc] at a2; simp at a2
          refine ⟨fun hs => ?_, hge, by rw [← hww]; exact b3⟩
          rcases hs with hs | hs
          · exact b1 hs
          · have := hSlt g hs; omega
      cases e with
      | normal => exact fin hq
      | ret => exact fin hq
      | _ => exact hq.elim

end Go.Sx
