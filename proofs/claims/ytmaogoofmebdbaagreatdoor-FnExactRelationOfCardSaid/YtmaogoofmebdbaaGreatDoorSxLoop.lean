/-
  What a loop carries from round to round: values in slots and in variables, as data.
-/
import Derived.Test.YtmaogoofmebdbaaGreatDoorSxCall
namespace Go.Sx
set_option linter.unusedVariables false
set_option linter.unusedSimpArgs false

mutual
def ranged (n : Nat) : SV → Prop
  | .ptr id _ => id < n
  | .own id => id < n
  | .oep id _ _ _ => id < n
  | .fptr cs => rangeds n cs
  | .agg cs => rangeds n cs
  | .tup cs => rangeds n cs
  | .fn _ cs => rangeds n cs
  | _ => True
def rangeds (n : Nat) : List SV → Prop
  | [] => True
  | c :: cs => ranged n c ∧ rangeds n cs
end

mutual
theorem den_ranged {E : Env} : ∀ (s : SV) (v : Value), den E s v → ranged E.ids.length s
  | .bot, _, _ => by simp only [ranged]
  | .int _ _, _, _ => by simp only [ranged]
  | .bool _, _, _ => by simp only [ranged]
  | .blit _, _, _ => by simp only [ranged]
  | .str _, _, _ => by simp only [ranged]
  | .sl _ _, _, _ => by simp only [ranged]
  | .nsl, _, _ => by simp only [ranged]
  | .nilp, _, _ => by simp only [ranged]
  | .ptr id _, _, h => by simp only [den] at h; obtain ⟨b, e, _⟩ := h; simp only [ranged]; exact (List.getElem?_eq_some_iff.1 e).1
  | .own id, _, h => by simp only [den] at h; simp only [ranged]; exact (List.getElem?_eq_some_iff.1 h.1).1
  | .oep id _ _ _, _, h => by simp only [den] at h; obtain ⟨b, n, c, e, _⟩ := h; simp only [ranged]; exact (List.getElem?_eq_some_iff.1 e).1
  | .fptr cs, _, h => by simp only [den] at h; obtain ⟨p, vs, _, _, _, _, h⟩ := h; simp only [ranged]; exact dens_ranged cs vs h
  | .agg cs, _, h => by simp only [den] at h; obtain ⟨vs, _, h⟩ := h; simp only [ranged]; exact dens_ranged cs vs h
  | .tup cs, _, h => by simp only [den] at h; obtain ⟨vs, _, h⟩ := h; simp only [ranged]; exact dens_ranged cs vs h
  | .fn _ cs, _, h => by simp only [den] at h; obtain ⟨vs, _, h⟩ := h; simp only [ranged]; exact dens_ranged cs vs h
theorem dens_ranged {E : Env} : ∀ (cs : List SV) (vs : List Value), dens E cs vs → rangeds E.ids.length cs
  | [], _, _ => by simp only [rangeds]
  | c :: cs, v :: vs, h => by simp only [dens] at h; simp only [rangeds]; exact ⟨den_ranged c v h.1, dens_ranged cs vs h.2⟩
  | _ :: _, [], h => by simp [dens] at h
end

mutual
theorem den_trunc {E : Env} {n : Nat} : ∀ (s : SV) (v : Value), ranged n s → den E s v → den ⟨E.S, E.w, E.ids.take n⟩ s v
  | .bot, _, _, h => h
  | .int _ _, _, _, h => h
  | .bool _, _, _, h => h
  | .blit _, _, _, h => h
  | .str _, _, _, h => h
  | .sl _ _, _, _, h => h
  | .nsl, _, _, h => h
  | .nilp, _, _, h => h
  | .ptr id _, _, hs, h => by
    simp only [den] at h ⊢; simp only [ranged] at hs
    obtain ⟨b, e, e2⟩ := h; exact ⟨b, by rw [List.getElem?_take, if_pos hs]; exact e, e2⟩
  | .own id, _, hs, h => by
    simp only [den] at h ⊢; simp only [ranged] at hs
    exact ⟨by rw [List.getElem?_take, if_pos hs]; exact h.1, h.2⟩
  | .oep id _ _ _, _, hs, h => by
    simp only [den] at h ⊢; simp only [ranged] at hs
    obtain ⟨b, m, c, e, e2⟩ := h; exact ⟨b, m, c, by rw [List.getElem?_take, if_pos hs]; exact e, e2⟩
  | .fptr cs, _, hs, h => by
    simp only [den] at h ⊢; simp only [ranged] at hs
    obtain ⟨p, vs, a, b, c, d, h⟩ := h; exact ⟨p, vs, a, b, c, d, dens_trunc cs vs hs h⟩
  | .agg cs, _, hs, h => by simp only [den] at h ⊢; simp only [ranged] at hs; obtain ⟨vs, a, h⟩ := h; exact ⟨vs, a, dens_trunc cs vs hs h⟩
  | .tup cs, _, hs, h => by simp only [den] at h ⊢; simp only [ranged] at hs; obtain ⟨vs, a, h⟩ := h; exact ⟨vs, a, dens_trunc cs vs hs h⟩
  | .fn _ cs, _, hs, h => by simp only [den] at h ⊢; simp only [ranged] at hs; obtain ⟨vs, a, h⟩ := h; exact ⟨vs, a, dens_trunc cs vs hs h⟩
theorem dens_trunc {E : Env} {n : Nat} : ∀ (cs : List SV) (vs : List Value), rangeds n cs → dens E cs vs → dens ⟨E.S, E.w, E.ids.take n⟩ cs vs
  | [], [], _, _ => trivial
  | c :: cs, v :: vs, hs, h => by simp only [dens] at h ⊢; simp only [rangeds] at hs; exact ⟨den_trunc c v hs.1 h.1, dens_trunc cs vs hs.2 h.2⟩
  | _ :: _, [], _, h => by simp [dens] at h
  | [], _ :: _, _, h => by simp [dens] at h
end

def eranged (n : Nat) : Entry → Prop
  | .box cells => rangeds n cells
  | .fbx cells => rangeds n cells
  | _ => True

theorem eden_ranged {E : Env} {i : Nat} {e : Entry} (h : eden E i e) : eranged E.ids.length e := by
  cases e with
  | box cells => obtain ⟨b, cs, T, _, _, h⟩ := h; exact dens_ranged _ _ h
  | fbx cells => obtain ⟨b, cs, T, _, _, _, h⟩ := h; exact dens_ranged _ _ h
  | _ => trivial

/-- entries from a place on are let go -/
theorem Inv.trunc {B : Base} {E : Env} {H : List Entry} (h : Inv B E H) (n : Nat) (hn : B.pin.length ≤ n) (hs : ∀ e ∈ H.take n, eranged n e) : Inv B ⟨E.S, E.w, E.ids.take n⟩ (H.take n) := by
  have hH : ∀ (i : Nat) (e : Entry), (H.take n)[i]? = some e → i < n ∧ H[i]? = some e := by
    intro i e hi
    rw [List.getElem?_take] at hi
    split at hi
    · exact ⟨‹_›, hi⟩
    · cases hi
  have hid : ∀ (i : Nat) (v : Value), i < n → E.ids[i]? = some v → (E.ids.take n)[i]? = some v := by
    intro i v hi hv
    rw [List.getElem?_take, if_pos hi]; exact hv
  have hid' : ∀ (i : Nat) (v : Value), (E.ids.take n)[i]? = some v → E.ids[i]? = some v := by
    intro i v hv
    rw [List.getElem?_take] at hv
    split at hv
    · exact hv
    · cases hv
  exact
    { keeps := h.keeps, Slt := h.Slt, Sold := h.Sold, len := by simp [h.len]
      pin := fun i v hv => hid i v (Nat.lt_of_lt_of_le (List.getElem?_eq_some_iff.1 hv).1 hn) (h.pin i v hv)
      ent := fun i e hi => by
        have hmem := List.mem_of_getElem? hi
        obtain ⟨hlt, hi'⟩ := hH i e hi
        have he := h.ent i e hi'
        cases e with
        | gone => trivial
        | box cells =>
          obtain ⟨b, cs, T, a1, a2, a3⟩ := he
          exact ⟨b, cs, T, hid _ _ hlt a1, a2, dens_trunc _ _ (hs _ hmem) a3⟩
        | arr et t d => obtain ⟨v, xs, a1, a2, a3⟩ := he; exact ⟨v, xs, hid _ _ hlt a1, a2, a3⟩
        | frz t d => obtain ⟨v, a1, a2⟩ := he; exact ⟨v, hid _ _ hlt a1, a2⟩
        | fbx cells =>
          obtain ⟨b, cs, T, a1, aS, a2, a3⟩ := he
          exact ⟨b, cs, T, hid _ _ hlt a1, aS, a2, dens_trunc _ _ (hs _ hmem) a3⟩
      free := fun i e v g hi hl hv hb => h.free i e v g (hH i e hi).2 hl (hid' _ _ hv) hb
      sep := fun i j ei ej vi vj g hi hj hli hlj hvi hvj => h.sep i j ei ej vi vj g (hH i ei hi).2 (hH j ej hj).2 hli hlj (hid' _ _ hvi) (hid' _ _ hvj) }

/-! ### what is carried -/

inductive Loc
  | reg (r : Nat) (s : Sh)
  | cell (id off : Nat) (t : Ty)

@[reducible] def Loc.den : Loc → Type
  | .reg _ s => s.den
  | .cell _ _ t => t.den

@[reducible] def Locs : List Loc → Type
  | [] => Unit
  | l :: r => l.den × Locs r

def takeL : (ls : List Loc) → List SV → List Entry → (Locs ls → List Entry → Prop) → Prop
  | [], _, H, K => K () H
  | .reg r (.dat t) :: q, regs, H, K => getR regs r fun s => frzCells [s] H fun cs H1 => ofCellsR t cs fun d rest => match rest with
      | [] => takeL q regs H1 fun ds H2 => K (d, ds) H2
      | _ => False
  | .reg r (.own et t) :: q, regs, H, K => getR regs r fun s => match s with
      | .nsl => takeL q regs H fun ds H2 => K ([], ds) H2
      | .own id => getE H id fun e => match e with
        | .arr et' t' d => if h : t' = t then (if et' = et then setE H id .gone fun H1 => takeL q regs H1 fun ds H2 => castK h d fun d' => K (d', ds) H2 else False) else False
        | _ => False
      | _ => False
  | .reg _ (.io _) :: _, _, _, _ => False
  | .cell id off t :: q, regs, H, K => getE H id fun e => match e with
      | .box cells => getR cells off fun s => frzCells [s] H fun cs H1 => ofCellsR t cs fun d rest => match rest with
        | [] => takeL q regs H1 fun ds H2 => K (d, ds) H2
        | _ => False
      | _ => False

def put1 (t : Ty) (d : t.den) (K : SV → Prop) : Prop := toCellsR t d fun cs => match cs with
  | [c] => K c
  | _ => False

def putL : (ls : List Loc) → Locs ls → List SV → List Entry → (List SV → List Entry → Prop) → Prop
  | [], _, regs, H, K => K regs H
  | .reg r (.dat t) :: q, v, regs, H, K => splitK v fun x v' => put1 t x fun c => setR regs r c fun regs' => putL q v' regs' H K
  | .reg r (.own et t) :: q, v, regs, H, K => splitK v fun x v' => newArr et t x H fun s H' => setR regs r s fun regs' => putL q v' regs' H' K
  | .reg _ (.io _) :: _, _, _, _, _ => False
  | .cell id off t :: q, v, regs, H, K => splitK v fun x v' => put1 t x fun c => getE H id fun e => match e with
      | .box cells => setR cells off c fun cells' => setE H id (.box cells') fun H' => putL q v' regs H' K
      | _ => False

/-- the cells that are carried are forgotten -/
def maskC : List Loc → List Entry → (List Entry → Prop) → Prop
  | [], H, K => K H
  | .cell id off _ :: q, H, K => getE H id fun e => match e with
      | .box cells => setR cells off .bot fun cells' => setE H id (.box cells') fun H' => maskC q H' K
      | _ => False
  | .reg _ _ :: q, H, K => maskC q H K

def maskR : List Nat → List SV → (List SV → Prop) → Prop
  | [], regs, K => K regs
  | r :: q, regs, K => setR regs r .bot fun regs' => maskR q regs' K

def locRegs : List Loc → List Nat → (List Nat → Prop) → Prop
  | [], W, K => K W
  | .reg r _ :: q, W, K => locRegs q W fun W' => K (r :: W')
  | .cell _ _ _ :: q, W, K => locRegs q W K

theorem maskR_ok {E : Env} : ∀ (W : List Nat) (regs : List SV) (vs : List Value), dens E regs vs → ∀ {K : List SV → Prop}, maskR W regs K → ∃ regs', dens E regs' vs ∧ K regs'
  | [], regs, vs, hd, K, hk => ⟨regs, hd, hk⟩
  | r :: W, regs, vs, hd, K, hk => by
    simp only [maskR, setR_eq] at hk
    have hd' : dens E (regs.set r .bot) vs := by
      by_cases hr : r < vs.length
      · have := dens_set _ _ hd r .bot vs[r] (by simp only [den])
        simpa using this
      · have hl := dens_length _ _ hd
        rw [List.set_eq_of_length_le (by omega)]; exact hd
    exact maskR_ok W _ vs hd' hk

/-- an entry that says less -/
theorem Inv.weaken {B : Base} {E : Env} {H : List Entry} (h : Inv B E H) {id : Nat} {cells cells' : List SV} (hi : H[id]? = some (.box cells)) (hc : ∀ b cs T, E.ids[id]? = some (.pointer (some ⟨b, 0, none⟩)) → E.w.heap[b]? = some (.cells cs T (0, 0)) → dens E cells cs.toList → dens E cells' cs.toList) :
    Inv B E (H.set id (.box cells')) := by
  have hlt : id < H.length := (List.getElem?_eq_some_iff.1 hi).1
  have old : ∀ (j : Nat) (e : Entry), (H.set id (.box cells'))[j]? = some e → ∃ e0, H[j]? = some e0 ∧ (e.live = true → e0.live = true) ∧ (j ≠ id → e = e0) ∧ (j = id → e = .box cells' ∧ e0 = .box cells) := by
    intro j e hj
    by_cases hji : id = j
    · subst hji
      rw [List.getElem?_set_self hlt] at hj
      simp at hj
      exact ⟨_, hi, fun _ => rfl, fun hne => absurd rfl hne, fun _ => ⟨hj.symm, rfl⟩⟩
    · rw [List.getElem?_set_ne hji] at hj
      exact ⟨e, hj, fun h => h, fun _ => rfl, fun e => absurd e.symm hji⟩
  exact
    { keeps := h.keeps, Slt := h.Slt, Sold := h.Sold, len := by simp [h.len], pin := h.pin
      ent := fun j e hj => by
        obtain ⟨e0, hj0, _, hne, heq⟩ := old j e hj
        by_cases hji : j = id
        · obtain ⟨rfl, rfl⟩ := heq hji
          obtain ⟨b, cs, T, a1, a2, a3⟩ := h.ent j _ hj0
          subst hji; exact ⟨b, cs, T, a1, a2, hc b cs T a1 a2 a3⟩
        · rw [hne hji]; exact h.ent j e0 hj0
      free := fun j e v g hj hl hv hb => by
        obtain ⟨e0, hj0, hl0, _⟩ := old j e hj
        exact h.free j e0 v g hj0 (hl0 hl) hv hb
      sep := fun i j ei ej vi vj g hi' hj' hli hlj hvi hvj hbi hbj => by
        obtain ⟨e0, hi0, hl0, _⟩ := old i ei hi'
        obtain ⟨e1, hj1, hl1, _⟩ := old j ej hj'
        exact h.sep i j e0 e1 vi vj g hi0 hj1 (hl0 hli) (hl1 hlj) hvi hvj hbi hbj }

theorem dens_set_bot {E : Env} {cells : List SV} {vs : List Value} (hd : dens E cells vs) (off : Nat) : dens E (cells.set off .bot) vs := by
  by_cases hr : off < vs.length
  · have := dens_set _ _ hd off .bot vs[off] (by simp only [den])
    simpa using this
  · have hl := dens_length _ _ hd
    rw [List.set_eq_of_length_le (by omega)]; exact hd

/-- what lies in the places that are carried; own lists lie apart from all else -/
def locsden (B : Base) (E : Env) (H : List Entry) (vs : List Value) : (ls : List Loc) → Locs ls → List Nat → Prop
  | [], _, gs => gs = []
  | .reg r (.dat t) :: q, v, gs => (∃ u, vs[r]? = some u ∧ rep E.S E.w t v.1 [u]) ∧ locsden B E H vs q v.2 gs
  | .reg r (.own et t) :: q, v, gs => ∃ u xs g1, vs[r]? = some u ∧ E.w.ownsRow 0 et t.size u v.1.length xs ∧ repsOf (rep E.S E.w t) v.1 xs ∧ gs = (blkOf u).toList ++ g1 ∧ locsden B E H vs q v.2 g1
  | .reg _ (.io _) :: _, _, _ => False
  | .cell id off t :: q, v, gs => (∃ b cs T cells u, H[id]? = some (.box cells) ∧ E.ids[id]? = some (.pointer (some ⟨b, 0, none⟩)) ∧ E.w.heap[b]? = some (.cells cs T (0, 0)) ∧ cs.toList[off]? = some u ∧ rep E.S E.w t v.1 [u]) ∧
      locsden B E H vs q v.2 gs

/-- lists that nobody else holds -/
structure Loose (B : Base) (E : Env) (H : List Entry) (gs : List Nat) : Prop where
  nodup : gs.Nodup
  free : ∀ g ∈ gs, ¬ E.S g ∧ (B.w.heap.size ≤ g ∨ B.io g) ∧ g < E.w.heap.size
  apart : ∀ g ∈ gs, ∀ (j : Nat) (ej : Entry) (vj : Value), H[j]? = some ej → ej.live = true → E.ids[j]? = some vj → blkOf vj ≠ some g

theorem freeze_keeps {B : Base} {E : Env} {H : List Entry} (hI : Inv B E H) {cs : List SV} {vs : List Value} (hd : dens E cs vs) {K : List SV → List Entry → Prop} (hk : frzCells cs H K) (gs : List Nat) (hL : Loose B E H gs) :
    ∃ E' H' cs', E'.w = E.w ∧ E'.ids = E.ids ∧ Inv B E' H' ∧ E.le E' ∧ dens E' cs' vs ∧ K cs' H' ∧ (∀ (i : Nat) (c : List SV), H[i]? = some (.box c) ↔ H'[i]? = some (.box c)) ∧ Loose B E' H' gs := by
  induction cs generalizing E H vs K with
  | nil => exact ⟨E, H, [], rfl, rfl, hI, Env.le.refl E, hd, hk, fun _ _ => Iff.rfl, hL⟩
  | cons s r ih =>
    match vs, hd with
    | [], hd => simp [dens] at hd
    | v :: vs, hd =>
      simp only [dens] at hd
      have other : (frzCells r H fun r' H' => K (s :: r') H') → ∃ E' H' cs', E'.w = E.w ∧ E'.ids = E.ids ∧ Inv B E' H' ∧ E.le E' ∧ dens E' cs' (v :: vs) ∧ K cs' H' ∧ (∀ (i : Nat) (c : List SV), H[i]? = some (.box c) ↔ H'[i]? = some (.box c)) ∧ Loose B E' H' gs := by
        intro hk
        obtain ⟨E', H', cs', h0, h0', h1, h2, h3, h4, h5, h6⟩ := ih hI hd.2 hk hL
        exact (⟨E', H', s :: cs', h0, h0', h1, h2, ⟨den_mono h2 s v hd.1, h3⟩, h4, h5, h6⟩ :
          ∃ E' H' cs', E'.w = E.w ∧ E'.ids = E.ids ∧ Inv B E' H' ∧ E.le E' ∧ dens E' cs' (v :: vs) ∧ K cs' H' ∧ (∀ (i : Nat) (c : List SV), H[i]? = some (.box c) ↔ H'[i]? = some (.box c)) ∧ Loose B E' H' gs)
      cases s with
      | own k =>
        simp only [frzCells] at hk
        obtain ⟨e, he, hk⟩ := getE_ok H hk
        have h1 := hd.1
        simp only [den] at h1
        split at hk
        · rename_i et t d
          rw [setE_eq] at hk
          obtain ⟨S', hle, hI', hr, hS'⟩ := hI.freeze he h1.1
          have hlt : k < H.length := (List.getElem?_eq_some_iff.1 he).1
          have hL' : Loose B ⟨S', E.w, E.ids⟩ (H.set k (.frz t d)) gs :=
            ⟨hL.nodup, fun g hg => by
              obtain ⟨a, b, c⟩ := hL.free g hg
              exact ⟨fun hs => (hS' g hs).elim a (fun hb => hL.apart g hg k _ v he rfl h1.1 hb), b, c⟩,
             fun g hg j ej vj hj hl hv hb => by
              by_cases hkj : k = j
              · subst hkj; rw [List.getElem?_set_self hlt] at hj; simp at hj; subst hj; simp [Entry.live] at hl
              · rw [List.getElem?_set_ne hkj] at hj; exact hL.apart g hg j ej vj hj hl hv hb⟩
          obtain ⟨E', H', cs', h0, h0', h1', h2, h3, h4, h5, h6⟩ := ih hI' (dens_mono hle _ _ hd.2) hk hL'
          refine ⟨E', H', .sl t d :: cs', h0, h0', h1', hle.trans h2, ⟨by simp only [den]; exact rep_mono h2.S h2.w (.sl t) d [v] hr, h3⟩, h4, fun i c => ?_, h6⟩
          rw [← h5 i c]
          by_cases hki : k = i
          · subst hki
            rw [he, List.getElem?_set_self hlt]; simp
          · rw [List.getElem?_set_ne hki]
        · rename_i t d
          obtain ⟨v', e1, h2⟩ := hI.ent k _ he
          have := h1.1.symm.trans e1; simp at this; subst this
          obtain ⟨E', H', cs', h0, h0', h1', h2', h3, h4, h5, h6⟩ := ih hI hd.2 hk hL
          exact ⟨E', H', .sl t d :: cs', h0, h0', h1', h2', ⟨by simp only [den]; exact rep_mono h2'.S h2'.w (.sl t) d [v] h2, h3⟩, h4, h5, h6⟩
        · exact hk.elim
      | _ => exact other (by simpa only [frzCells] using hk)

theorem rep_in {E E' : Env} (h : E.le E') {t : Ty} {d : t.den} {vs : List Value} (hr : rep E.S E.w t d vs) : rep E'.S E'.w t d vs := rep_mono h.S h.w t d vs hr

theorem locsden_mono {B : Base} {E E' : Env} {H H' : List Entry} (hw : E'.w = E.w) (hid : E'.ids = E.ids) (hle : E.le E') (hbox : ∀ (i : Nat) (c : List SV), H[i]? = some (.box c) → ∃ c', H'[i]? = some (.box c')) {vs : List Value} :
    ∀ (ls : List Loc) (v : Locs ls) (gs : List Nat), locsden B E H vs ls v gs → locsden B E' H' vs ls v gs
  | [], _, _, h => h
  | .reg _ (.dat t) :: q, v, gs, ⟨⟨u, a, b⟩, h⟩ => ⟨⟨u, a, rep_in hle b⟩, locsden_mono hw hid hle hbox q v.2 gs h⟩
  | .reg _ (.own et t) :: q, v, gs, ⟨u, xs, g1, a, b, c, d, h⟩ => ⟨u, xs, g1, a, by rw [hw]; exact b, repsOf_mono (fun d vs => rep_in hle) _ _ c, d, locsden_mono hw hid hle hbox q v.2 g1 h⟩
  | .cell id off t :: q, v, gs, ⟨⟨b, cs, T, cells, u, a1, a2, a3, a4, a5⟩, h⟩ => by
    obtain ⟨c', hc'⟩ := hbox _ _ a1
    exact ⟨⟨b, cs, T, c', u, hc', by rw [hid]; exact a2, by rw [hw]; exact a3, a4, rep_in hle a5⟩, locsden_mono hw hid hle hbox q v.2 gs h⟩

/-- STEP A: what is carried, taken out -/
theorem takeL_ok {B : Base} : ∀ (ls : List Loc) {E : Env} {H : List Entry} (_ : Inv B E H) {regs : List SV} {vs : List Value} (_ : dens E regs vs) (gs : List Nat) (_ : Loose B E H gs)
    {K : Locs ls → List Entry → Prop} (_ : takeL ls regs H K),
    ∃ E1 H1 v g1, E1.w = E.w ∧ E1.ids = E.ids ∧ Inv B E1 H1 ∧ E.le E1 ∧ K v H1 ∧ locsden B E1 H1 vs ls v g1 ∧ Loose B E1 H1 (g1 ++ gs) ∧ H1.length = H.length ∧ (∀ (i : Nat) (c : List SV), H[i]? = some (.box c) ↔ H1[i]? = some (.box c))
  | [], E, H, hI, regs, vs, hd, gs, hL, K, hk => ⟨E, H, (), [], rfl, rfl, hI, Env.le.refl E, hk, rfl, hL, rfl, fun _ _ => Iff.rfl⟩
  | .reg r (.dat t) :: q, E, H, hI, regs, vs, hd, gs, hL, K, hk => by
    simp only [takeL] at hk
    obtain ⟨s, u, hu, hs, hk, _⟩ := getR_ok _ _ hd hk
    obtain ⟨E1, H1, cs, hw1, hid1, hI1, hle1, hd1, hk, hb1, hL1⟩ := freeze_keeps hI (cs := [s]) (vs := [u]) ⟨hs, trivial⟩ hk gs hL
    obtain ⟨d, rest, v1, v2, e12, hr, hrest, hk⟩ := ofCellsR_ok t cs _ _ hd1 hk
    split at hk
    · have hv2 : v2 = [] := by cases v2 with
        | nil => rfl
        | cons => simp [dens] at hrest
      subst hv2
      rw [List.append_nil] at e12
      obtain ⟨E2, H2, v, g1, hw2, hid2, hI2, hle2, hk, hl, hL2, hlen, hb2⟩ := takeL_ok q hI1 (dens_mono hle1 _ _ hd) gs hL1 hk
      refine ⟨E2, H2, (d, v), g1, hw2.trans hw1, hid2.trans hid1, hI2, hle1.trans hle2, hk, ⟨⟨u, hu, ?_⟩, hl⟩, hL2, ?_, fun i c => (hb1 i c).trans (hb2 i c)⟩
      · rw [e12]; exact rep_in hle2 hr
      · have h1 := hI.len
        have h2 := hI1.len
        have h3 := congrArg List.length hid1
        omega
    · exact hk.elim
  | .reg r (.own et t) :: q, E, H, hI, regs, vs, hd, gs, hL, K, hk => by
    simp only [takeL] at hk
    obtain ⟨s, u, hu, hs, hk, _⟩ := getR_ok _ _ hd hk
    split at hk
    · simp only [den] at hs; subst hs
      obtain ⟨E2, H2, v, g1, hw2, hid2, hI2, hle2, hk, hl, hL2, hlen, hb2⟩ := takeL_ok q hI hd gs hL hk
      exact ⟨E2, H2, ([], v), g1, hw2, hid2, hI2, hle2, hk, ⟨_, [], g1, hu, World.ownsRow_nil _ _ _ _, rfl, rfl, hl⟩, hL2, hlen, hb2⟩
    · rename_i id _
      obtain ⟨e, he, hk⟩ := getE_ok H hk
      split at hk
      · rename_i et' t' d
        split at hk
        · rename_i ht; subst ht
          split at hk
          · rename_i het; subst het
            rw [setE_eq] at hk
            simp only [den] at hs
            obtain ⟨u', xs, e1, h2, h3⟩ := hI.ent id _ he
            have := hs.1.symm.trans e1; simp at this; subst this
            have hlt : id < H.length := (List.getElem?_eq_some_iff.1 he).1
            have hold : ∀ (j : Nat) (ej : Entry), (H.set id .gone)[j]? = some ej → ej.live = true → j ≠ id ∧ H[j]? = some ej := by
              intro j ej hj hl
              by_cases hji : id = j
              · subst hji; rw [List.getElem?_set_self hlt] at hj; simp at hj; subst hj; simp [Entry.live] at hl
              · rw [List.getElem?_set_ne hji] at hj; exact ⟨Ne.symm hji, hj⟩
            have hL' : Loose B E (H.set id .gone) ((blkOf u).toList ++ gs) := by
              refine ⟨?_, ?_, ?_⟩
              · cases hb : blkOf u with
                | none => simpa using hL.nodup
                | some g => simp only [Option.toList, List.cons_append, List.nil_append]; exact List.nodup_cons.2 ⟨fun hg => hL.apart g hg id _ u he rfl e1 hb, hL.nodup⟩
              · intro g hg
                rcases List.mem_append.1 hg with hg | hg
                · have hb : blkOf u = some g := by simpa using hg
                  exact hI.free id _ u g he rfl e1 hb
                · exact hL.free g hg
              · intro g hg j ej vj hj hl hv hb
                obtain ⟨hne, hj'⟩ := hold j ej hj hl
                rcases List.mem_append.1 hg with hg | hg
                · have hb' : blkOf u = some g := by simpa using hg
                  exact hne (hI.sep j id ej _ vj u g hj' he hl rfl hv e1 hb hb')
                · exact hL.apart g hg j ej vj hj' hl hv hb
            obtain ⟨E2, H2, v, g1, hw2, hid2, hI2, hle2, hk, hl, hL2, hlen, hb2⟩ := takeL_ok q (hI.drop id) hd ((blkOf u).toList ++ gs) hL' hk
            refine ⟨E2, H2, (d, v), (blkOf u).toList ++ g1, hw2, hid2, hI2, hle2, hk, ⟨u, xs, g1, hu, by rw [hw2]; exact h2, repsOf_mono (fun d vs => rep_in hle2) _ _ h3, rfl, hl⟩, ?_, by rw [hlen]; simp, fun i c => ?_⟩
            · refine ⟨?_, fun g hg => hL2.free g ?_, fun g hg => hL2.apart g ?_⟩
              · have := hL2.nodup
                rw [← List.append_assoc] at this
                exact ((List.perm_append_comm).append_right gs).nodup_iff.1 this
              · simp only [List.mem_append] at hg ⊢; rcases hg with (h | h) | h <;> simp [h]
              · simp only [List.mem_append] at hg ⊢; rcases hg with (h | h) | h <;> simp [h]
            · rw [← hb2 i c]
              by_cases hki : id = i
              · subst hki; rw [he, List.getElem?_set_self hlt]; simp
              · rw [List.getElem?_set_ne hki]
          · exact hk.elim
        · exact hk.elim
      · exact hk.elim
    · exact hk.elim
  | .reg _ (.io _) :: _, _, _, _, _, _, _, _, _, _, hk => by simp only [takeL] at hk
  | .cell id off t :: q, E, H, hI, regs, vs, hd, gs, hL, K, hk => by
    simp only [takeL] at hk
    obtain ⟨e, he, hk⟩ := getE_ok H hk
    split at hk
    · rename_i cells
      obtain ⟨b, cs0, T, e1, e2, e3⟩ := hI.ent id _ he
      obtain ⟨s, u, hu, hs, hk, _⟩ := getR_ok _ _ e3 hk
      obtain ⟨E1, H1, cs, hw1, hid1, hI1, hle1, hd1, hk, hb1, hL1⟩ := freeze_keeps hI (cs := [s]) (vs := [u]) ⟨hs, trivial⟩ hk gs hL
      obtain ⟨d, rest, v1, v2, e12, hr, hrest, hk⟩ := ofCellsR_ok t cs _ _ hd1 hk
      split at hk
      · have hv2 : v2 = [] := by cases v2 with
          | nil => rfl
          | cons => simp [dens] at hrest
        subst hv2
        rw [List.append_nil] at e12
        obtain ⟨E2, H2, v, g1, hw2, hid2, hI2, hle2, hk, hl, hL2, hlen, hb2⟩ := takeL_ok q hI1 (dens_mono hle1 _ _ hd) gs hL1 hk
        refine ⟨E2, H2, (d, v), g1, hw2.trans hw1, hid2.trans hid1, hI2, hle1.trans hle2, hk, ⟨⟨b, cs0, T, cells, u, ((hb1 _ _).trans (hb2 _ _)).1 he, by rw [hid2, hid1]; exact e1, by rw [hw2, hw1]; exact e2, hu, ?_⟩, hl⟩, hL2, ?_, fun i c => (hb1 i c).trans (hb2 i c)⟩
        · rw [e12]; exact rep_in hle2 hr
        · have h1 := hI.len
          have h2 := hI1.len
          have h3 := congrArg List.length hid1
          omega
      · exact hk.elim
    · exact hk.elim

theorem locsden_push {B : Base} {E : Env} {H : List Entry} {vs : List Value} (u : Value) (e : Entry) :
    ∀ (ls : List Loc) (v : Locs ls) (gs : List Nat), locsden B E H vs ls v gs → locsden B ⟨E.S, E.w, E.ids ++ [u]⟩ (H ++ [e]) vs ls v gs
  | [], _, _, h => h
  | .reg _ (.dat t) :: q, v, gs, ⟨a, h⟩ => ⟨a, locsden_push u e q v.2 gs h⟩
  | .reg _ (.own et t) :: q, v, gs, ⟨u', xs, g1, a, b, c, d, h⟩ => ⟨u', xs, g1, a, b, c, d, locsden_push u e q v.2 g1 h⟩
  | .cell id off t :: q, v, gs, ⟨⟨b, cs, T, cells, u', a1, a2, a3, a4, a5⟩, h⟩ => ⟨⟨b, cs, T, cells, u', by
      have := (List.getElem?_eq_some_iff.1 a1).1
      rw [List.getElem?_append_left this]; exact a1, (ids_le E u).ids _ _ a2, a3, a4, a5⟩, locsden_push u e q v.2 gs h⟩

/-- STEP C: what is carried, put in again -/
theorem putL_ok {B : Base} : ∀ (ls : List Loc) (v : Locs ls) {E : Env} {H : List Entry} (_ : Inv B E H) {regs : List SV} {vs : List Value} (_ : dens E regs vs) (g1 : List Nat) (_ : locsden B E H vs ls v g1) (_ : Loose B E H g1)
    {K : List SV → List Entry → Prop} (_ : putL ls v regs H K), ∃ E' H' regs', E'.w = E.w ∧ Inv B E' H' ∧ dens E' regs' vs ∧ K regs' H'
  | [], v, E, H, hI, regs, vs, hd, g1, hl, hL, K, hk => ⟨E, H, regs, rfl, hI, hd, hk⟩
  | .reg r (.dat t) :: q, v, E, H, hI, regs, vs, hd, g1, ⟨⟨u, hu, hr⟩, hl⟩, hL, K, hk => by
    simp only [putL, splitK_eq, put1, toCellsR_eq] at hk
    have hdc := dens_toCells t v.1 [u] hr
    split at hk
    · rename_i c hc
      rw [hc] at hdc
      simp only [dens] at hdc
      rw [setR_eq] at hk
      have hd' := dens_set _ _ hd r c u hdc.1
      have hvs : vs.set r u = vs := by
        apply List.ext_getElem?
        intro j
        by_cases hj : r = j
        · subst hj
          have := (List.getElem?_eq_some_iff.1 hu).1
          rw [List.getElem?_set_self this, hu]
        · rw [List.getElem?_set_ne hj]
      rw [hvs] at hd'
      exact putL_ok q v.2 hI hd' g1 hl hL hk
    · exact hk.elim
  | .reg r (.own et t) :: q, v, E, H, hI, regs, vs, hd, g1, ⟨u, xs, g2, hu, ho, hr, hg, hl⟩, hL, K, hk => by
    simp only [putL, splitK_eq, newArr, lenR_eq, appR_eq, setR_eq, Nat.zero_add] at hk
    subst hg
    have hid : (E.ids ++ [u])[H.length]? = some u := by rw [← hI.len]; simp
    have hI1 := hI.push u (.arr et t v.1) ⟨u, xs, hid, ho, hr⟩ (fun _ g hb => by
      have hm : g ∈ (blkOf u).toList ++ g2 := by simp [hb]
      obtain ⟨a, b, c⟩ := hL.free g hm
      exact ⟨a, b, c, hL.apart g hm⟩)
    have hle1 := ids_le E u
    have hsh : ∃ a n c, u = .slice a n c := by
      rcases ho.2 with ⟨rfl, _⟩ | ⟨g, cap, cur, rfl, _⟩
      · exact ⟨_, _, _, rfl⟩
      · exact ⟨_, _, _, rfl⟩
    have hd' := dens_set _ _ (dens_mono hle1 _ _ hd) r (.own H.length) u (by simp only [den]; exact ⟨hid, hsh⟩)
    have hvs : vs.set r u = vs := by
      apply List.ext_getElem?
      intro j
      by_cases hj : r = j
      · subst hj
        have := (List.getElem?_eq_some_iff.1 hu).1
        rw [List.getElem?_set_self this, hu]
      · rw [List.getElem?_set_ne hj]
    rw [hvs] at hd'
    have hnd := hL.nodup
    have hL1 : Loose B ⟨E.S, E.w, E.ids ++ [u]⟩ (H ++ [.arr et t v.1]) g2 := by
      refine ⟨(List.nodup_append.1 hnd).2.1, fun g hg => hL.free g (by simp [hg]), fun g hg j ej vj hj hl hv hb => ?_⟩
      by_cases hlt : j < H.length
      · rw [List.getElem?_append_left hlt] at hj
        have hv' : E.ids[j]? = some vj := by
          have hlt' : j < E.ids.length := by rw [hI.len]; exact hlt
          have hv0 : (E.ids ++ [u])[j]? = some vj := hv
          rw [List.getElem?_append_left hlt'] at hv0; exact hv0
        exact hL.apart g (by simp [hg]) j ej vj hj hl hv' hb
      · have h2 : j < (H ++ [Entry.arr et t v.1]).length := (List.getElem?_eq_some_iff.1 hj).1
        have : j = H.length := by simp at h2; omega
        subst this
        have hv' : (E.ids ++ [u])[H.length]? = some vj := hv
        rw [hid] at hv'; simp at hv'; subst hv'
        exact (List.nodup_append.1 hnd).2.2 g (by simp [hb]) g hg rfl
    have hl' := locsden_push u (.arr et t v.1) q v.2 g2 hl
    exact putL_ok q v.2 hI1 hd' g2 hl' hL1 hk
  | .reg _ (.io _) :: _, _, _, _, _, _, _, _, _, _, _, _, hk => by simp only [putL, splitK_eq] at hk
  | .cell id off t :: q, v, E, H, hI, regs, vs, hd, g1, ⟨⟨b, cs, T, cells0, u, a1, a2, a3, a4, a5⟩, hl⟩, hL, K, hk => by
    simp only [putL, splitK_eq, put1, toCellsR_eq] at hk
    have hdc := dens_toCells t v.1 [u] a5
    split at hk
    · rename_i c hc
      rw [hc] at hdc
      simp only [dens] at hdc
      obtain ⟨e, he, hk⟩ := getE_ok H hk
      split at hk
      · rename_i cells
        rw [setR_eq, setE_eq] at hk
        have hI1 := hI.weaken (cells' := cells.set off c) he (fun b' cs' T' h1 h2 h3 => by
          have := a2.symm.trans h1; simp at this; subst this
          have := a3.symm.trans h2; simp at this; obtain ⟨rfl, _⟩ := this
          have hset := dens_set _ _ h3 off c u hdc.1
          have hvs : cs.toList.set off u = cs.toList := by
            apply List.ext_getElem?
            intro j
            by_cases hj : off = j
            · subst hj
              have := (List.getElem?_eq_some_iff.1 a4).1
              rw [List.getElem?_set_self this, a4]
            · rw [List.getElem?_set_ne hj]
          rwa [hvs] at hset)
        have hlt : id < H.length := (List.getElem?_eq_some_iff.1 he).1
        refine putL_ok q v.2 hI1 hd g1 (locsden_mono rfl rfl (Env.le.refl E) (fun i c' hi => ?_) q v.2 g1 hl) ⟨hL.nodup, hL.free, fun g hg j ej vj hj hlv hv hb => ?_⟩ hk
        · by_cases hji : id = i
          · subst hji; exact ⟨_, List.getElem?_set_self hlt⟩
          · exact ⟨c', by rw [List.getElem?_set_ne hji]; exact hi⟩
        · by_cases hji : id = j
          · subst hji; exact hL.apart g hg id _ vj he rfl hv hb
          · rw [List.getElem?_set_ne hji] at hj; exact hL.apart g hg j ej vj hj hlv hv hb
      · exact hk.elim
    · exact hk.elim

end Go.Sx
