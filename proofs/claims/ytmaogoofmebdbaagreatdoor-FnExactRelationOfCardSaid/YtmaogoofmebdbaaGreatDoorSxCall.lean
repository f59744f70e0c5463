/-
  Contracts of functions over plain data; a call by its contract.
-/
import Derived.Test.YtmaogoofmebdbaaGreatDoorSxRun
namespace Go.Sx
set_option linter.unusedVariables false
set_option linter.unusedSimpArgs false

inductive Sh
  | dat (t : Ty)
  | own (et : TypeId) (t : Ty)
  | io (t : Ty)

@[reducible] def Sh.den : Sh → Type
  | .dat t => t.den
  | .own _ t => List t.den
  | .io t => t.den

@[reducible] def Shs : List Sh → Type
  | [] => Unit
  | s :: r => s.den × Shs r

@[reducible] def Ios : List Sh → Type
  | [] => Unit
  | .io t :: r => t.den × Ios r
  | .dat _ :: r => Ios r
  | .own _ _ :: r => Ios r

structure Ctr where
  args : List Sh
  rets : List Sh
  tr : Shs args → (Shs rets → Ios args → Prop) → Prop

def vrep (S : Nat → Prop) (w : World) (t : Ty) (d : t.den) (v : Value) : Prop :=
  (t.agg = true → ∃ cs, v = .agg cs) ∧ (t.agg = false → v.cells = #[v]) ∧ rep S w t d v.cells.toList

def shden (S : Nat → Prop) (w : World) : (s : Sh) → s.den → Value → Prop
  | .dat t, d, v => vrep S w t d v
  | .own et t, l, v => ∃ xs, w.ownsRow 0 et t.size v l.length xs ∧ repsOf (rep S w t) l xs
  | .io t, d, v => ∃ b cs T, v = .pointer (some ⟨b, 0, none⟩) ∧ w.heap[b]? = some (.cells cs T (0, 0)) ∧ rep S w t d cs.toList

def shsden (S : Nat → Prop) (w : World) : (l : List Sh) → Shs l → List Value → Prop
  | [], _, vs => vs = []
  | s :: r, d, vs => ∃ v vr, vs = v :: vr ∧ shden S w s d.1 v ∧ shsden S w r d.2 vr

def iosden (S : Nat → Prop) (w : World) : (l : List Sh) → Ios l → List Value → Prop
  | [], _, _ => True
  | .io t :: r, d, vs => ∃ v vr, vs = v :: vr ∧ shden S w (.io t) d.1 v ∧ iosden S w r d.2 vr
  | .dat _ :: r, d, vs => ∃ v vr, vs = v :: vr ∧ iosden S w r d vr
  | .own _ _ :: r, d, vs => ∃ v vr, vs = v :: vr ∧ iosden S w r d vr

/-- the blocks that a call may write, or hands over -/
def priv : List Sh → List Value → List Nat
  | .dat _ :: r, _ :: vs => priv r vs
  | _ :: r, v :: vs => match blkOf v with
    | some g => g :: priv r vs
    | none => priv r vs
  | _, _ => []

def retv (us : List Value) (v : Value) : Prop :=
  match us with
  | [u] => v = u
  | us => v = .tuple us.toArray

def Callable (P : Program) (f : FuncId) : Prop := ∃ fn, P.funcs[f]? = some fn ∧ (fn.name == "runtime.NumGoroutine") = false ∧ fn.body.isNone = false

/-- THE FUNCTION KEEPS THE CONTRACT. -/
def SoundC (P : Program) (f : FuncId) (C : Ctr) : Prop := Callable P f ∧
  ∀ (w : World) (S : Nat → Prop) (vs : List Value) (as : Shs C.args) (K : Shs C.rets → Ios C.args → Prop),
    (∀ b, S b → b < w.heap.size) → shsden S w C.args as vs → (priv C.args vs).Nodup → (∀ g ∈ priv C.args vs, ¬ S g ∧ g < w.heap.size) → C.tr as K →
    Calls P f vs.toArray w fun e w' => ∃ v us rs ios S', e = .returned v ∧ retv us v ∧ K rs ios ∧ Keeps ⟨w, S, fun b => b ∈ priv C.args vs, []⟩ w' ∧ (∀ b, S b → S' b) ∧
      (∀ b, S' b → b < w'.heap.size ∧ (b < w.heap.size → S b)) ∧ shsden S' w' C.rets rs us ∧ iosden S' w' C.args ios vs ∧
      (priv C.rets us).Nodup ∧ ∀ g ∈ priv C.rets us, ¬ S' g ∧ w.heap.size ≤ g ∧ g < w'.heap.size

def SV.isAgg : SV → Bool
  | .agg _ => true
  | _ => false

/-- a variable that is handed on is frozen -/
def frzPtr (s : SV) (H : List Entry) (K : SV → List Entry → Prop) : Prop :=
  match s with
  | .ptr id 0 => getE H id fun e => match e with
    | .box cells => frzCells cells H fun cs' H1 => setE H1 id (.fbx cs') fun H2 => K (.fptr cs') H2
    | .fbx cells => K (.fptr cells) H
    | _ => False
  | s => K s H

def frzCaps : List SV → List Entry → (List SV → List Entry → Prop) → Prop
  | [], H, K => K [] H
  | s :: r, H, K => frzPtr s H fun s' H1 => frzCaps r H1 fun r' H2 => K (s' :: r') H2

/-- an argument as data -/
def frzArg (s : SV) (H : List Entry) (K : List SV → List Entry → Prop) : Prop :=
  match s with
  | .fn f caps => frzCaps caps H fun caps' H1 => K [.fn f caps'] H1
  | .ptr id off => frzPtr (.ptr id off) H fun s' H1 => K [s'] H1
  | s => frzCells s.cells H K

def argsK : (l : List Sh) → List SV → List Entry → (Shs l → List Nat → List Entry → Prop) → Prop
  | [], ss, H, K => match ss with
    | [] => K () [] H
    | _ => False
  | .dat t :: r, ss, H, K => match ss with
    | s :: ss => if s.whole = true ∧ t.agg = s.isAgg then frzArg s H fun cs H1 => ofCellsR t cs fun d rest => match rest with
        | [] => argsK r ss H1 fun ds ids H2 => K (d, ds) ids H2
        | _ => False
      else False
    | _ => False
  | .io t :: r, ss, H, K => match ss with
    | .ptr id 0 :: ss => getE H id fun e => match e with
      | .box cells => frzCells cells H fun cs H1 => ofCellsR t cs fun d rest => match rest with
        | [] => argsK r ss H1 fun ds ids H2 => K (d, ds) (id :: ids) H2
        | _ => False
      | _ => False
    | _ => False
  | .own _ _ :: _, _, _, _ => False

def Sh.flat : Sh → Bool
  | .dat t => t.flat
  | .own _ t => t.flat
  | .io _ => false

def flatRets : List Sh → Bool
  | [] => true
  | s :: r => s.flat && flatRets r

def flatIos : List Sh → Bool
  | [] => true
  | .io t :: r => t.flat && flatIos r
  | _ :: r => flatIos r

def iosK : (l : List Sh) → List Nat → Ios l → List Entry → (List Entry → Prop) → Prop
  | [], _, _, H, K => K H
  | .io t :: r, ids, d, H, K => match ids with
    | id :: ids => splitK d fun x d' => toCellsR t x fun cells => setE H id (.box cells) fun H' => iosK r ids d' H' K
    | _ => False
  | .dat _ :: r, ids, d, H, K => iosK r ids d H K
  | .own _ _ :: r, ids, d, H, K => iosK r ids d H K

def datSV (t : Ty) (cs : List SV) (K : SV → Prop) : Prop :=
  if t.agg = true then K (.agg cs) else match cs with
    | c :: _ => K c
    | [] => False

def retsK : (l : List Sh) → Shs l → List Entry → (List SV → List Entry → Prop) → Prop
  | [], _, H, K => K [] H
  | .dat t :: r, d, H, K => splitK d fun x d' => toCellsR t x fun cs => datSV t cs fun s => retsK r d' H fun ss H' => K (s :: ss) H'
  | .own et t :: r, d, H, K => splitK d fun x d' => newArr et t x H fun s H' => retsK r d' H' fun ss H'' => K (s :: ss) H''
  | .io _ :: _, _, _, _ => False

def oneSV (ss : List SV) (K : SV → Prop) : Prop :=
  match ss with
  | [s] => K s
  | ss => K (.tup ss)

def nodupB : List Nat → Bool
  | [] => true
  | n :: r => !(r.contains n) && nodupB r

def allBoxB (H : List Entry) (ids : List Nat) : Bool := ids.all fun id => match H[id]? with
  | some (.box _) => true
  | _ => false

/-- a call by its contract -/
def callK (C : Ctr) (ss : List SV) (H : List Entry) (K : SV → List Entry → Prop) : Prop :=
  argsK C.args ss H fun as ids H1 => if (nodupB ids && allBoxB H1 ids) = true then C.tr as fun rs ios =>
    if (flatRets C.rets && flatIos C.args) = true then iosK C.args ids ios H fun H2 => retsK C.rets rs H2 fun ss' H3 => oneSV ss' fun s => K s H3
    else iosK C.args ids ios H1 fun H2 => retsK C.rets rs H2 fun ss' H3 => oneSV ss' fun s => K s H3
  else False

theorem nodupB_ok : ∀ (l : List Nat), nodupB l = true → l.Nodup
  | [], _ => List.nodup_nil
  | n :: r, h => by
    simp only [nodupB, Bool.and_eq_true, Bool.not_eq_true', List.contains_eq_mem, decide_eq_false_iff_not] at h
    exact List.nodup_cons.2 ⟨h.1, nodupB_ok r h.2⟩

/-- which entries stand for the variables that are handed on -/
def idsOf (E : Env) (H : List Entry) : List Sh → List Nat → List Value → Prop
  | [], ids, _ => ids = []
  | .io _ :: r, ids, vs => ∃ id ir v vr b cells, ids = id :: ir ∧ vs = v :: vr ∧ H[id]? = some (.box cells) ∧ E.ids[id]? = some v ∧ v = .pointer (some ⟨b, 0, none⟩) ∧ idsOf E H r ir vr
  | _ :: r, ids, vs => ∃ v vr, vs = v :: vr ∧ idsOf E H r ids vr

theorem frzCells_box {B : Base} : ∀ (cs : List SV) {E : Env} {H : List Entry} (_ : Inv B E H) {vs : List Value} (_ : dens E cs vs) {K : List SV → List Entry → Prop} (_ : frzCells cs H K),
    ∃ E' H' cs', E'.w = E.w ∧ E'.ids = E.ids ∧ Inv B E' H' ∧ E.le E' ∧ dens E' cs' vs ∧ K cs' H' ∧ ∀ (i : Nat) (c : List SV), H[i]? = some (.box c) ↔ H'[i]? = some (.box c)
  | [], E, H, hI, vs, hd, K, hk => ⟨E, H, [], rfl, rfl, hI, Env.le.refl E, hd, hk, fun _ _ => Iff.rfl⟩
  | s :: r, E, H, hI, vs, hd, K, hk => by
    match vs, hd with
    | [], hd => simp [dens] at hd
    | v :: vs, hd =>
      simp only [dens] at hd
      have other : (frzCells r H fun r' H' => K (s :: r') H') → ∃ E' H' cs', E'.w = E.w ∧ E'.ids = E.ids ∧ Inv B E' H' ∧ E.le E' ∧ dens E' cs' (v :: vs) ∧ K cs' H' ∧ ∀ (i : Nat) (c : List SV), H[i]? = some (.box c) ↔ H'[i]? = some (.box c) := by
        intro hk
        obtain ⟨E', H', cs', h0, h0', h1, h2, h3, h4, h5⟩ := frzCells_box r hI hd.2 hk
        exact ⟨E', H', s :: cs', h0, h0', h1, h2, ⟨den_mono h2 s v hd.1, h3⟩, h4, h5⟩
      cases s with
      | own k =>
        simp only [frzCells] at hk
        obtain ⟨e, he, hk⟩ := getE_ok H hk
        have h1 := hd.1
        simp only [den] at h1
        split at hk
        · rename_i et t d
          rw [setE_eq] at hk
          obtain ⟨S', hle, hI', hr, _⟩ := hI.freeze he h1.1
          obtain ⟨E', H', cs', h0, h0', h1', h2, h3, h4, h5⟩ := frzCells_box r hI' (dens_mono hle _ _ hd.2) hk
          refine ⟨E', H', .sl t d :: cs', h0, h0', h1', hle.trans h2, ⟨by simp only [den]; exact rep_mono h2.S h2.w (.sl t) d [v] hr, h3⟩, h4, fun i c => ?_⟩
          rw [← h5 i c]
          by_cases hki : k = i
          · subst hki
            have hlt : k < H.length := (List.getElem?_eq_some_iff.1 he).1
            rw [he, List.getElem?_set_self hlt]; simp
          · rw [List.getElem?_set_ne hki]
        · rename_i t d
          obtain ⟨v', e1, h2⟩ := hI.ent k _ he
          have := h1.1.symm.trans e1; simp at this; subst this
          obtain ⟨E', H', cs', h0, h0', h1', h2', h3, h4, h5⟩ := frzCells_box r hI hd.2 hk
          exact ⟨E', H', .sl t d :: cs', h0, h0', h1', h2', ⟨by simp only [den]; exact rep_mono h2'.S h2'.w (.sl t) d [v] h2, h3⟩, h4, h5⟩
        · exact hk.elim
      | _ => exact other (by simpa only [frzCells] using hk)

theorem frzPtr_ok {B : Base} {E : Env} {H : List Entry} (hI : Inv B E H) {s : SV} {v : Value} (hd : den E s v) {K : SV → List Entry → Prop} (hk : frzPtr s H K) :
    ∃ E' H' s', E'.w = E.w ∧ E'.ids = E.ids ∧ Inv B E' H' ∧ E.le E' ∧ den E' s' v ∧ K s' H' ∧ ∀ (i : Nat) (c : List SV), H'[i]? = some (.box c) → H[i]? = some (.box c) := by
  unfold frzPtr at hk
  split at hk
  · rename_i id
    obtain ⟨e, he, hk⟩ := getE_ok H hk
    simp only [den] at hd
    obtain ⟨b, h1, hv⟩ := hd
    split at hk
    · rename_i cells
      obtain ⟨b', cs, T, h1', h2, h3⟩ := hI.ent id _ he
      have := h1.symm.trans h1'; simp at this; subst this
      obtain ⟨E1, H1, cs', hw1, hid1, hI1, hle1, hd1, hk, hb1⟩ := frzCells_box _ hI h3 hk
      rw [setE_eq] at hk
      obtain ⟨S', hle2, hI2, hSb, hd2⟩ := hI1.freezeBox ((hb1 id cells).1 he) (by rw [hid1]; exact h1) (by rw [hw1]; exact h2) hd1
      refine ⟨⟨S', E1.w, E1.ids⟩, _, _, hw1, hid1, hI2, hle1.trans hle2, ?_, hk, fun i c hi => ?_⟩
      · simp only [den]
        refine ⟨⟨b, 0, none⟩, cs.toList, hv, rfl, hSb, fun j u hu => ?_, hd2⟩
        have := cells_at (w := E1.w) (b := b) (cs := cs) (T := T) (fr := (0, 0)) (by rw [hw1]; exact h2) 0 j u (by simpa using hu)
        exact this
      · by_cases hii : id = i
        · subst hii
          have hlt : id < H1.length := (List.getElem?_eq_some_iff.1 ((hb1 id cells).1 he)).1
          rw [List.getElem?_set_self hlt] at hi
          simp at hi
        · rw [List.getElem?_set_ne hii] at hi
          exact (hb1 i c).2 hi
    · rename_i cells
      obtain ⟨b', cs, T, h1', hS, h2, h3⟩ := hI.ent id _ he
      have := h1.symm.trans h1'; simp at this; subst this
      refine ⟨E, H, _, rfl, rfl, hI, Env.le.refl E, ?_, hk, fun i c h => h⟩
      simp only [den]
      refine ⟨⟨b, 0, none⟩, cs.toList, hv, rfl, hS, fun j u hu => ?_, h3⟩
      exact cells_at h2 0 j u (by simpa using hu)
    · exact hk.elim
  · exact ⟨E, H, _, rfl, rfl, hI, Env.le.refl E, hd, hk, fun i c h => h⟩

theorem frzCaps_ok {B : Base} : ∀ (cs : List SV) {E : Env} {H : List Entry} (_ : Inv B E H) {vs : List Value} (_ : dens E cs vs) {K : List SV → List Entry → Prop} (_ : frzCaps cs H K),
    ∃ E' H' cs', E'.w = E.w ∧ E'.ids = E.ids ∧ Inv B E' H' ∧ E.le E' ∧ dens E' cs' vs ∧ K cs' H' ∧ ∀ (i : Nat) (c : List SV), H'[i]? = some (.box c) → H[i]? = some (.box c)
  | [], E, H, hI, vs, hd, K, hk => ⟨E, H, [], rfl, rfl, hI, Env.le.refl E, hd, hk, fun _ _ h => h⟩
  | s :: r, E, H, hI, vs, hd, K, hk => by
    match vs, hd with
    | [], hd => simp [dens] at hd
    | v :: vs, hd =>
      simp only [dens] at hd
      simp only [frzCaps] at hk
      obtain ⟨E1, H1, s', hw1, hid1, hI1, hle1, hd1, hk, hb1⟩ := frzPtr_ok hI hd.1 hk
      obtain ⟨E2, H2, r', hw2, hid2, hI2, hle2, hd2, hk, hb2⟩ := frzCaps_ok r hI1 (dens_mono hle1 _ _ hd.2) hk
      exact ⟨E2, H2, s' :: r', hw2.trans hw1, hid2.trans hid1, hI2, hle1.trans hle2, ⟨den_mono hle2 _ _ hd1, hd2⟩, hk, fun i c h => hb1 i c (hb2 i c h)⟩

theorem frzArg_ok {B : Base} {E : Env} {H : List Entry} (hI : Inv B E H) {s : SV} {v : Value} (hd : den E s v) (hw : s.whole = true) {K : List SV → List Entry → Prop} (hk : frzArg s H K) :
    ∃ E' H' cs', E'.w = E.w ∧ E'.ids = E.ids ∧ Inv B E' H' ∧ E.le E' ∧ dens E' cs' v.cells.toList ∧ K cs' H' ∧ ∀ (i : Nat) (c : List SV), H'[i]? = some (.box c) → H[i]? = some (.box c) := by
  unfold frzArg at hk
  split at hk
  · rename_i f caps
    simp only [den] at hd
    obtain ⟨vs, rfl, hd⟩ := hd
    obtain ⟨E1, H1, cs', hw1, hid1, hI1, hle1, hd1, hk, hb1⟩ := frzCaps_ok _ hI hd hk
    exact ⟨E1, H1, [.fn f cs'], hw1, hid1, hI1, hle1, ⟨by simp only [den]; exact ⟨vs, rfl, hd1⟩, trivial⟩, hk, hb1⟩
  · rename_i id off
    have hc := (one_cells hd rfl).1
    obtain ⟨E1, H1, s', hw1, hid1, hI1, hle1, hd1, hk, hb1⟩ := frzPtr_ok hI hd hk
    exact ⟨E1, H1, [s'], hw1, hid1, hI1, hle1, by rw [hc]; exact ⟨hd1, trivial⟩, hk, hb1⟩
  · obtain ⟨E1, H1, cs', hw1, hid1, hI1, hle1, hd1, hk, hb1⟩ := frzCells_box _ hI (cells_den hd hw) hk
    exact ⟨E1, H1, _, hw1, hid1, hI1, hle1, hd1, hk, fun i c h => (hb1 i c).2 h⟩

theorem idsOf_mono {E E' : Env} {H H' : List Entry} (hids : E'.ids = E.ids) (hH : ∀ (i : Nat) (c : List SV), H[i]? = some (.box c) → H'[i]? = some (.box c)) :
    ∀ (l : List Sh) (ids : List Nat) (vs : List Value), idsOf E H l ids vs → idsOf E' H' l ids vs
  | [], _, _, h => h
  | .io _ :: r, _, _, ⟨id, ir, v, vr, b, cells, e1, e2, e3, e4, e5, e6⟩ => ⟨id, ir, v, vr, b, cells, e1, e2, hH _ _ e3, by rw [hids]; exact e4, e5, idsOf_mono hids hH r _ _ e6⟩
  | .dat _ :: r, _, _, ⟨v, vr, e1, e2⟩ => ⟨v, vr, e1, idsOf_mono hids hH r _ _ e2⟩
  | .own _ _ :: r, _, _, ⟨v, vr, e1, e2⟩ => ⟨v, vr, e1, idsOf_mono hids hH r _ _ e2⟩

theorem shden_mono {S S' : Nat → Prop} {w : World} (hS : ∀ b, S b → S' b) : ∀ (s : Sh) (d : s.den) (v : Value), shden S w s d v → shden S' w s d v
  | .dat t, _, _, ⟨h1, h2, h3⟩ => ⟨h1, h2, rep_mono hS (fun _ _ => rfl) t _ _ h3⟩
  | .own _ t, _, _, ⟨xs, h1, h2⟩ => ⟨xs, h1, repsOf_mono (fun d vs => rep_mono hS (fun _ _ => rfl) t d vs) _ _ h2⟩
  | .io t, _, _, ⟨b, cs, T, h1, h2, h3⟩ => ⟨b, cs, T, h1, h2, rep_mono hS (fun _ _ => rfl) t _ _ h3⟩

theorem shsden_mono {S S' : Nat → Prop} {w : World} (hS : ∀ b, S b → S' b) : ∀ (l : List Sh) (d : Shs l) (vs : List Value), shsden S w l d vs → shsden S' w l d vs
  | [], _, _, h => h
  | s :: r, _, _, ⟨v, vr, e, h1, h2⟩ => ⟨v, vr, e, shden_mono hS s _ _ h1, shsden_mono hS r _ _ h2⟩

theorem isAgg_ok {E : Env} {s : SV} {v : Value} (h : den E s v) (hw : s.whole = true) : (s.isAgg = true → ∃ cs, v = .agg cs) ∧ (s.isAgg = false → v.cells = #[v]) := by
  constructor
  · intro ha
    cases s <;> simp [SV.isAgg] at ha
    simp only [den] at h
    obtain ⟨vs, e, _⟩ := h
    exact ⟨_, e⟩
  · intro ha
    have h1 : s.one = true := by cases s <;> simp_all [SV.isAgg, SV.whole, SV.one]
    exact (one_cells h h1).1

def idsOf0 (E : Env) : List Sh → List Nat → List Value → Prop
  | [], ids, _ => ids = []
  | .io _ :: r, ids, vs => ∃ id ir v vr b, ids = id :: ir ∧ vs = v :: vr ∧ E.ids[id]? = some v ∧ v = .pointer (some ⟨b, 0, none⟩) ∧ idsOf0 E r ir vr
  | _ :: r, ids, vs => ∃ v vr, vs = v :: vr ∧ idsOf0 E r ids vr

theorem idsOf_of {E : Env} {H : List Entry} : ∀ (l : List Sh) (ids : List Nat) (vs : List Value), idsOf0 E l ids vs → (∀ id ∈ ids, ∃ c, H[id]? = some (.box c)) → idsOf E H l ids vs
  | [], _, _, h, _ => h
  | .io _ :: r, _, _, ⟨id, ir, v, vr, b, e1, e2, e3, e4, e5⟩, hb => by
    subst e1
    obtain ⟨c, hc⟩ := hb id (by simp)
    exact ⟨id, ir, v, vr, b, c, rfl, e2, hc, e3, e4, idsOf_of r ir vr e5 (fun i hi => hb i (by simp [hi]))⟩
  | .dat _ :: r, ids, _, ⟨v, vr, e1, e2⟩, hb => ⟨v, vr, e1, idsOf_of r ids vr e2 hb⟩
  | .own _ _ :: r, ids, _, ⟨v, vr, e1, e2⟩, hb => ⟨v, vr, e1, idsOf_of r ids vr e2 hb⟩

theorem allBoxB_ok {H : List Entry} {ids : List Nat} (h : allBoxB H ids = true) : ∀ id ∈ ids, ∃ c, H[id]? = some (.box c) := by
  intro id hid
  unfold allBoxB at h
  rw [List.all_eq_true] at h
  have := h id hid
  split at this
  · rename_i c hc; exact ⟨c, hc⟩
  · cases this

theorem argsK_ok {B : Base} : ∀ (l : List Sh) (ss : List SV) {E : Env} {H : List Entry} (_ : Inv B E H) {vs : List Value} (_ : dens E ss vs) {K : Shs l → List Nat → List Entry → Prop} (_ : argsK l ss H K),
    ∃ E1 H1 as ids, E1.w = E.w ∧ E1.ids = E.ids ∧ Inv B E1 H1 ∧ E.le E1 ∧ shsden E1.S E1.w l as vs ∧ idsOf0 E1 l ids vs ∧ K as ids H1 ∧ ∀ (i : Nat) (c : List SV), H1[i]? = some (.box c) → H[i]? = some (.box c)
  | [], ss, E, H, hI, vs, hd, K, hk => by
    simp only [argsK] at hk
    split at hk
    · match vs, hd with
      | [], _ => exact ⟨E, H, (), [], rfl, rfl, hI, Env.le.refl E, rfl, rfl, hk, fun _ _ h => h⟩
      | _ :: _, hd => simp [dens] at hd
    · exact hk.elim
  | .dat t :: r, ss, E, H, hI, vs, hd, K, hk => by
    simp only [argsK] at hk
    split at hk
    · rename_i s ss
      match vs, hd with
      | [], hd => simp [dens] at hd
      | v :: vs, hd =>
        simp only [dens] at hd
        split at hk
        · rename_i hc
          obtain ⟨hw, hag⟩ := hc
          obtain ⟨E1, H1, cs, hw1, hid1, hI1, hle1, hd1, hk, hb1⟩ := frzArg_ok hI hd.1 hw hk
          obtain ⟨d, rest, v1, v2, e12, hr, hrest, hk⟩ := ofCellsR_ok t cs _ _ hd1 hk
          split at hk
          · have hv2 : v2 = [] := by cases v2 with
              | nil => rfl
              | cons => simp [dens] at hrest
            subst hv2
            rw [List.append_nil] at e12
            obtain ⟨E2, H2, ds, ids, hw2, hid2, hI2, hle2, hds, hio, hk, hb2⟩ := argsK_ok r ss hI1 (dens_mono hle1 _ _ hd.2) hk
            have hag' := isAgg_ok hd.1 hw
            refine ⟨E2, H2, (d, ds), ids, hw2.trans hw1, hid2.trans hid1, hI2, hle1.trans hle2, ⟨v, vs, rfl, ⟨fun h => hag'.1 (by rw [← hag]; exact h), fun h => hag'.2 (by rw [← hag]; exact h), ?_⟩, hds⟩, ⟨v, vs, rfl, hio⟩, hk, fun i c h => hb1 i c (hb2 i c h)⟩
            rw [e12]
            exact rep_mono hle2.S (fun b hb => by rw [hw2]) t d v1 hr
          · exact hk.elim
        · exact hk.elim
    · exact hk.elim
  | .io t :: r, ss, E, H, hI, vs, hd, K, hk => by
    simp only [argsK] at hk
    split at hk
    · rename_i id ss
      match vs, hd with
      | [], hd => simp [dens] at hd
      | v :: vs, hd =>
        simp only [dens] at hd
        obtain ⟨e, he, hk⟩ := getE_ok H hk
        split at hk
        · rename_i cells
          have hv := hd.1
          simp only [den] at hv
          obtain ⟨b, hb0, hv⟩ := hv
          obtain ⟨b', cs0, T, e1, e2, e3⟩ := hI.ent id _ he
          have := hb0.symm.trans e1; simp at this; subst this
          obtain ⟨E1, H1, cs, hw1, hid1, hI1, hle1, hd1, hk, hb1⟩ := frzCells_box _ hI e3 hk
          obtain ⟨d, rest, v1, v2, e12, hr, hrest, hk⟩ := ofCellsR_ok t cs _ _ hd1 hk
          split at hk
          · have hv2 : v2 = [] := by cases v2 with
              | nil => rfl
              | cons => simp [dens] at hrest
            subst hv2
            rw [List.append_nil] at e12
            obtain ⟨E2, H2, ds, ids, hw2, hid2, hI2, hle2, hds, hio, hk, hb2⟩ := argsK_ok r ss hI1 (dens_mono hle1 _ _ hd.2) hk
            refine ⟨E2, H2, (d, ds), id :: ids, hw2.trans hw1, hid2.trans hid1, hI2, hle1.trans hle2, ⟨v, vs, rfl, ⟨b, cs0, T, hv, by rw [hw2, hw1]; exact e2, ?_⟩, hds⟩, ⟨id, ids, v, vs, b, rfl, rfl, by rw [hid2, hid1, hv]; exact hb0, hv, hio⟩, hk, fun i c h => (hb1 i c).2 (hb2 i c h)⟩
            rw [e12]
            exact rep_mono hle2.S (fun b hb => by rw [hw2]) t d v1 hr
          · exact hk.elim
        · exact hk.elim
    · exact hk.elim
  | .own _ _ :: _, ss, _, _, _, _, _, _, hk => by simp only [argsK] at hk

/-- the blocks of the entries that are handed on -/
theorem idsOf_priv {E : Env} {H : List Entry} : ∀ (l : List Sh) (ids : List Nat) (vs : List Value), idsOf E H l ids vs → (∀ s ∈ l, ∀ et t, s ≠ Sh.own et t) →
    (∀ g ∈ priv l vs, ∃ id ∈ ids, ∃ v c, H[id]? = some (.box c) ∧ E.ids[id]? = some v ∧ blkOf v = some g) ∧
    (∀ id ∈ ids, ∃ v c g, H[id]? = some (.box c) ∧ E.ids[id]? = some v ∧ blkOf v = some g ∧ g ∈ priv l vs)
  | [], _, _, h, _ => by subst h; exact ⟨fun g hg => by simp [priv] at hg, fun id hid => by simp at hid⟩
  | .io _ :: r, _, _, ⟨id, ir, v, vr, b, cells, e1, e2, e3, e4, e5, e6⟩, hn => by
    subst e1; subst e2; subst e5
    obtain ⟨h1, h2⟩ := idsOf_priv r ir vr e6 (fun s hs => hn s (List.mem_cons_of_mem _ hs))
    constructor
    · intro g hg
      simp only [priv, blkOf, List.mem_cons] at hg
      rcases hg with rfl | hg
      · exact ⟨id, by simp, _, cells, e3, e4, rfl⟩
      · obtain ⟨id', hid, x⟩ := h1 g hg
        exact ⟨id', by simp [hid], x⟩
    · intro id' hid
      rcases List.mem_cons.1 hid with rfl | hid
      · exact ⟨_, cells, b, e3, e4, rfl, by simp [priv, blkOf]⟩
      · obtain ⟨v, c, g, a1, a2, a3, a4⟩ := h2 id' hid
        exact ⟨v, c, g, a1, a2, a3, by simp [priv, blkOf, a4]⟩
  | .dat _ :: r, _, _, ⟨v, vr, e1, e2⟩, hn => by
    subst e1
    exact idsOf_priv r _ vr e2 (fun s hs => hn s (List.mem_cons_of_mem _ hs))
  | .own et t :: r, _, _, _, hn => absurd rfl (hn _ (by simp) et t)

theorem idsOf_nodup {B : Base} {E : Env} {H : List Entry} (hI : Inv B E H) : ∀ (l : List Sh) (ids : List Nat) (vs : List Value), idsOf E H l ids vs → (∀ s ∈ l, ∀ et t, s ≠ Sh.own et t) → ids.Nodup → (priv l vs).Nodup
  | [], _, vs, h, _, _ => by cases vs <;> simp [priv]
  | .io _ :: r, _, _, ⟨id, ir, v, vr, b, cells, e1, e2, e3, e4, e5, e6⟩, hn, hnd => by
    subst e1; subst e2; subst e5
    have hn' := fun s hs => hn s (List.mem_cons_of_mem _ hs)
    have hnd' := List.nodup_cons.1 hnd
    simp only [priv, blkOf]
    refine List.nodup_cons.2 ⟨fun hb => ?_, idsOf_nodup hI r ir vr e6 hn' hnd'.2⟩
    obtain ⟨id', hid, v', c', a1, a2, a3⟩ := (idsOf_priv r ir vr e6 hn').1 b hb
    have := hI.sep id id' _ _ _ v' b e3 a1 rfl rfl e4 a2 rfl a3
    subst this
    exact hnd'.1 hid
  | .dat _ :: r, _, _, ⟨v, vr, e1, e2⟩, hn, hnd => by
    subst e1
    exact idsOf_nodup hI r _ vr e2 (fun s hs => hn s (List.mem_cons_of_mem _ hs)) hnd
  | .own et t :: r, _, _, _, hn, _ => absurd rfl (hn _ (by simp) et t)

/-- the heap behind a call: the entries that were handed on are new, all others as they were -/
theorem Inv.behind {B : Base} {E : Env} {H : List Entry} (h : Inv B E H) (ids : List Nat) (ps : List Nat)
    (hids : ∀ id ∈ ids, ∃ v c g, H[id]? = some (.box c) ∧ E.ids[id]? = some v ∧ blkOf v = some g ∧ g ∈ ps)
    (hps : ∀ g ∈ ps, ∃ id ∈ ids, ∃ v c, H[id]? = some (.box c) ∧ E.ids[id]? = some v ∧ blkOf v = some g)
    {w' : World} {S0 : Nat → Prop} (hk : Keeps ⟨E.w, S0, fun b => b ∈ ps, []⟩ w') {S2 : Nat → Prop} (hS : ∀ b, E.S b → S2 b) (hS2 : ∀ b, S2 b → b < w'.heap.size ∧ (b < E.w.heap.size → E.S b)) :
    E.le ⟨S2, w', E.ids⟩ ∧ ∀ H' : List Entry, H'.length = H.length → (∀ (j : Nat) (e : Entry), H'[j]? = some e → (j ∈ ids ∧ e.live = true ∧ eden ⟨S2, w', E.ids⟩ j e) ∨ (j ∉ ids ∧ H[j]? = some e)) → Inv B ⟨S2, w', E.ids⟩ H' := by
  have live_of : ∀ g ∈ ps, ¬ E.S g ∧ (B.w.heap.size ≤ g ∨ B.io g) ∧ g < E.w.heap.size := by
    intro g hg
    obtain ⟨id, _, v, c, a1, a2, a3⟩ := hps g hg
    exact h.free id _ v g a1 rfl a2 a3
  have hle : E.le ⟨S2, w', E.ids⟩ := ⟨hS, fun b hb => hk.block b (h.Slt b hb) (fun hp => (live_of b hp).1 hb), fun _ _ hh => hh⟩
  refine ⟨hle, fun H' hlen hH' => ?_⟩
  have oldlive : ∀ (j : Nat) (e : Entry) (v : Value) (g : Nat), H'[j]? = some e → e.live = true → E.ids[j]? = some v → blkOf v = some g →
      ∃ e0, H[j]? = some e0 ∧ e0.live = true := by
    intro j e v g hj hl hv hb
    rcases hH' j e hj with ⟨hm, _, _⟩ | ⟨_, hj'⟩
    · obtain ⟨v', c, g', a1, _⟩ := hids j hm
      exact ⟨_, a1, rfl⟩
    · exact ⟨e, hj', hl⟩
  exact
    { keeps := ⟨hk.os.trans h.keeps.os, hk.tape.trans h.keeps.tape, hk.output.trans h.keeps.output, Nat.le_trans h.keeps.size hk.size, fun b hb hio =>
        (hk.block b (Nat.lt_of_lt_of_le hb h.keeps.size) (fun hp => by
          rcases (live_of b hp).2.1 with h1 | h1
          · omega
          · exact hio h1)).trans (h.keeps.block b hb hio)⟩
      Slt := fun b hb => (hS2 b hb).1
      Sold := fun b hb hlt => h.Sold b ((hS2 b hb).2 (Nat.lt_of_lt_of_le hlt h.keeps.size)) hlt
      len := by rw [hlen]; exact h.len
      pin := h.pin
      ent := fun j e hj => by
        rcases hH' j e hj with ⟨_, _, he⟩ | ⟨hm, hj'⟩
        · exact he
        · refine eden_keep hle j e (fun hl v g hv hb => ?_) (h.ent j e hj')
          refine hk.block g (h.free j e v g hj' hl hv hb).2.2 (fun hp => ?_)
          obtain ⟨id, hid, v', c, a1, a2, a3⟩ := hps g hp
          have := h.sep j id e _ v v' g hj' a1 hl rfl hv a2 hb a3
          subst this; exact hm hid
      free := fun j e v g hj hl hv hb => by
        obtain ⟨e0, hj0, hl0⟩ := oldlive j e v g hj hl hv hb
        obtain ⟨a, b, c⟩ := h.free j e0 v g hj0 hl0 hv hb
        exact ⟨fun hs => a ((hS2 g hs).2 c), b, Nat.lt_of_lt_of_le c hk.size⟩
      sep := fun i j ei ej vi vj g hi hj hli hlj hvi hvj hbi hbj => by
        obtain ⟨e0, hi0, hl0⟩ := oldlive i ei vi g hi hli hvi hbi
        obtain ⟨e1, hj1, hl1⟩ := oldlive j ej vj g hj hlj hvj hbj
        exact h.sep i j e0 e1 vi vj g hi0 hj1 hl0 hl1 hvi hvj hbi hbj }

theorem iosK_ok {E E2 : Env} (hE : E2.ids = E.ids) (S' : Nat → Prop) (hS : (∀ b, S' b → E2.S b) ) : ∀ (l : List Sh) (ids : List Nat) (vs : List Value) (H H0 : List Entry) (_ : idsOf E H0 l ids vs) (_ : ids.Nodup)
    (_ : ∀ id ∈ ids, id < H.length) (ios : Ios l) (_ : iosden S' E2.w l ios vs) {K : List Entry → Prop} (_ : iosK l ids ios H K),
    ∃ H2, H2.length = H.length ∧ K H2 ∧ ∀ (j : Nat) (e : Entry), H2[j]? = some e → (j ∈ ids ∧ e.live = true ∧ eden E2 j e) ∨ (j ∉ ids ∧ H[j]? = some e)
  | [], ids, vs, H, H0, hid, _, _, ios, _, K, hk => ⟨H, rfl, hk, fun j e hj => .inr ⟨by subst hid; simp, hj⟩⟩
  | .io t :: r, _, _, H, H0, ⟨id, ir, v, vr, b, cells, e1, e2, e3, e4, e5, e6⟩, hnd, hlt, ios, hio, K, hk => by
    subst e1; subst e2
    simp only [iosK, splitK_eq, toCellsR_eq, setE_eq] at hk
    obtain ⟨v', vr', ev, hsh, hio⟩ := hio
    simp at ev
    obtain ⟨rfl, rfl⟩ := ev
    have hnd' := List.nodup_cons.1 hnd
    obtain ⟨H2, hl2, hk, hj2⟩ := iosK_ok hE S' hS r ir vr (H.set id (.box (toCells t ios.1))) H0 e6 hnd'.2 (fun i hi => by rw [List.length_set]; exact hlt i (by simp [hi])) ios.2 hio hk
    refine ⟨H2, by rw [hl2, List.length_set], hk, fun j e hj => ?_⟩
    rcases hj2 j e hj with ⟨hm, a, b⟩ | ⟨hm, hj'⟩
    · exact .inl ⟨by simp [hm], a, b⟩
    · by_cases hji : id = j
      · subst hji
        have hl : id < H.length := hlt id (by simp)
        rw [List.getElem?_set_self hl] at hj'
        simp at hj'; subst hj'
        obtain ⟨b', cs, T, a1, a2, a3⟩ := hsh
        refine .inl ⟨by simp, rfl, b', cs, T, by rw [hE, e4, a1], a2, ?_⟩
        exact dens_toCells t _ _ (rep_mono hS (fun _ _ => rfl) t _ _ a3)
      · rw [List.getElem?_set_ne hji] at hj'
        exact .inr ⟨by simp [hm, Ne.symm hji], hj'⟩
  | .dat _ :: r, ids, _, H, H0, ⟨v, vr, e1, e2⟩, hnd, hlt, ios, hio, K, hk => by
    subst e1
    obtain ⟨v', vr', ev, hio⟩ := hio
    simp at ev
    obtain ⟨rfl, rfl⟩ := ev
    exact iosK_ok hE S' hS r ids vr H H0 e2 hnd hlt ios hio hk
  | .own _ _ :: r, ids, _, H, H0, ⟨v, vr, e1, e2⟩, hnd, hlt, ios, hio, K, hk => by
    subst e1
    obtain ⟨v', vr', ev, hio⟩ := hio
    simp at ev
    obtain ⟨rfl, rfl⟩ := ev
    exact iosK_ok hE S' hS r ids vr H H0 e2 hnd hlt ios hio hk

theorem datSV_ok {E : Env} {t : Ty} {d : t.den} {v : Value} (h : vrep E.S E.w t d v) {K : SV → Prop} (hk : datSV t (toCells t d) K) : ∃ s, den E s v ∧ K s := by
  obtain ⟨h1, h2, h3⟩ := h
  have hd := dens_toCells t d _ h3
  unfold datSV at hk
  split at hk
  · rename_i ha
    obtain ⟨cs, rfl⟩ := h1 ha
    exact ⟨.agg _, by simp only [den]; exact ⟨cs.toList, by simp, hd⟩, hk⟩
  · rename_i ha
    have hv := h2 (by simpa using ha)
    split at hk
    · rename_i c r heq
      rw [heq, hv] at hd
      simp only [dens] at hd
      exact ⟨c, hd.1, hk⟩
    · exact hk.elim

/-- what a call gives back -/
theorem retsK_ok {B : Base} (n0 : Nat) (hn0 : B.w.heap.size ≤ n0) : ∀ (l : List Sh) (rs : Shs l) (us : List Value) {E : Env} {H : List Entry} (_ : Inv B E H) (_ : shsden E.S E.w l rs us) (_ : (priv l us).Nodup)
    (_ : ∀ g ∈ priv l us, ¬ E.S g ∧ n0 ≤ g ∧ g < E.w.heap.size) (_ : ∀ (j : Nat) (ej : Entry) (vj : Value) (g : Nat), H[j]? = some ej → ej.live = true → E.ids[j]? = some vj → blkOf vj = some g → g ∉ priv l us)
    {K : List SV → List Entry → Prop} (_ : retsK l rs H K),
    ∃ E' H' ss, E'.w = E.w ∧ Inv B E' H' ∧ E.le E' ∧ dens E' ss us ∧ K ss H'
  | [], rs, us, E, H, hI, hd, _, _, _, K, hk => by
    cases hd
    exact ⟨E, H, [], rfl, hI, Env.le.refl E, trivial, hk⟩
  | .dat t :: r, rs, us, E, H, hI, ⟨u, ur, e, h1, h2⟩, hnd, hfr, hlv, K, hk => by
    subst e
    simp only [retsK, splitK_eq, toCellsR_eq] at hk
    obtain ⟨s, hs, hk⟩ := datSV_ok h1 hk
    obtain ⟨E', H', ss, hw, hI', hle, hds, hk⟩ := retsK_ok n0 hn0 r rs.2 ur hI h2 hnd hfr hlv hk
    exact ⟨E', H', s :: ss, hw, hI', hle, ⟨den_mono hle s u hs, hds⟩, hk⟩
  | .own et t :: r, rs, us, E, H, hI, ⟨u, ur, e, h1, h2⟩, hnd, hfr, hlv, K, hk => by
    subst e
    simp only [retsK, splitK_eq, newArr, lenR_eq, appR_eq, Nat.zero_add] at hk
    obtain ⟨xs, ho, hr⟩ := h1
    have hid : (E.ids ++ [u])[H.length]? = some u := by rw [← hI.len]; simp
    have hI1 := hI.push u (.arr et t rs.1) ⟨u, xs, hid, ho, hr⟩ (fun _ g hg => by
      have hm : g ∈ priv (.own et t :: r) (u :: ur) := by simp [priv, hg]
      obtain ⟨a, b, c⟩ := hfr g hm
      exact ⟨a, .inl (Nat.le_trans hn0 b), c, fun j ej vj hj hl hv hb => hlv j ej vj g hj hl hv hb hm⟩)
    have hle1 := ids_le E u
    have hsub : ∀ g ∈ priv r ur, g ∈ priv (.own et t :: r) (u :: ur) := by
      intro g hg
      simp only [priv]
      cases blkOf u <;> simp [hg]
    have hnd2 : (priv r ur).Nodup ∧ ∀ g, blkOf u = some g → g ∉ priv r ur := by
      simp only [priv] at hnd
      cases hb : blkOf u with
      | none => rw [hb] at hnd; exact ⟨hnd, fun g hg => by simp at hg⟩
      | some g0 => rw [hb] at hnd; have := List.nodup_cons.1 hnd; exact ⟨this.2, fun g hg => by simp at hg; subst hg; exact this.1⟩
    obtain ⟨E', H', ss, hw, hI', hle, hds, hk⟩ := retsK_ok n0 hn0 r rs.2 ur hI1 h2 hnd2.1 (fun g hg => hfr g (hsub g hg)) (fun j ej vj g hj hl hv hb hm => by
      by_cases hlt : j < H.length
      · rw [List.getElem?_append_left hlt] at hj
        have hv' : E.ids[j]? = some vj := by
          have hlt' : j < E.ids.length := by rw [hI.len]; exact hlt
          rw [List.getElem?_append_left hlt'] at hv; exact hv
        exact hlv j ej vj g hj hl hv' hb (hsub g hm)
      · have h2 : j < (H ++ [Entry.arr et t rs.1]).length := (List.getElem?_eq_some_iff.1 hj).1
        have : j = H.length := by simp at h2; omega
        subst this
        have hv' : (E.ids ++ [u])[H.length]? = some vj := hv
        rw [hid] at hv'; simp at hv'; subst hv'
        exact hnd2.2 g hb hm) hk
    refine ⟨E', H', .own H.length :: ss, hw, hI', hle1.trans hle, ⟨den_mono hle _ u ?_, hds⟩, hk⟩
    simp only [den]
    refine ⟨hid, ?_⟩
    rcases ho.2 with ⟨rfl, _⟩ | ⟨g, cap, cur, rfl, _⟩
    · exact ⟨_, _, _, rfl⟩
    · exact ⟨_, _, _, rfl⟩
  | .io _ :: _, _, _, _, _, _, _, _, _, _, _, hk => by simp only [retsK] at hk

theorem frzCells_go : ∀ (cs : List SV) (H : List Entry) (K' : List SV → List Entry → Prop), frzCells cs H K' → ∃ cs' H', K' cs' H' := by
  intro cs
  induction cs with
  | nil => intro H K' h; exact ⟨[], H, h⟩
  | cons c cs ih =>
    intro H K' h
    cases c with
    | own id =>
      simp only [frzCells] at h
      obtain ⟨e, _, h⟩ := getE_ok H h
      split at h
      · rw [setE_eq] at h; obtain ⟨a, b, h⟩ := ih _ _ h; exact ⟨_, _, h⟩
      · obtain ⟨a, b, h⟩ := ih _ _ h; exact ⟨_, _, h⟩
      · exact h.elim
    | _ => simp only [frzCells] at h; obtain ⟨a, b, h⟩ := ih _ _ h; exact ⟨_, _, h⟩

theorem frzPtr_go {s : SV} {H : List Entry} {K' : SV → List Entry → Prop} (h : frzPtr s H K') : ∃ s' H', K' s' H' := by
  unfold frzPtr at h
  split at h
  · obtain ⟨e, _, h⟩ := getE_ok H h
    split at h
    · obtain ⟨a, b, h⟩ := frzCells_go _ _ _ h
      rw [setE_eq] at h
      exact ⟨_, _, h⟩
    · exact ⟨_, _, h⟩
    · exact h.elim
  · exact ⟨_, _, h⟩

theorem frzCaps_go : ∀ (cs : List SV) (H : List Entry) (K' : List SV → List Entry → Prop), frzCaps cs H K' → ∃ cs' H', K' cs' H'
  | [], H, K', h => ⟨_, _, h⟩
  | s :: r, H, K', h => by
    simp only [frzCaps] at h
    obtain ⟨a, b, h⟩ := frzPtr_go h
    obtain ⟨c, d, h⟩ := frzCaps_go r _ _ h
    exact ⟨_, _, h⟩

theorem frzArg_go {s : SV} {H : List Entry} {K' : List SV → List Entry → Prop} (h : frzArg s H K') : ∃ cs' H', K' cs' H' := by
  unfold frzArg at h
  split at h
  · obtain ⟨a, b, h⟩ := frzCaps_go _ _ _ h; exact ⟨_, _, h⟩
  · obtain ⟨a, b, h⟩ := frzPtr_go h; exact ⟨_, _, h⟩
  · exact frzCells_go _ _ _ h

theorem ofCellsR_go : ∀ (t : Ty) (cs : List SV) (K' : t.den → List SV → Prop), ofCellsR t cs K' → ∃ d r, K' d r := by
  intro t
  induction t with
  | pair a b iha ihb => intro cs K' h; obtain ⟨_, _, h⟩ := iha _ _ h; obtain ⟨_, _, h⟩ := ihb _ _ h; exact ⟨_, _, h⟩
  | unit => intro cs K' h; exact ⟨_, _, h⟩
  | ptr t ih =>
    intro cs K' h; simp only [ofCellsR] at h
    split at h
    · obtain ⟨_, _, h⟩ := ih _ _ h; exact ⟨_, _, h⟩
    · exact h.elim
  | fn f t ih =>
    intro cs K' h; simp only [ofCellsR] at h
    split at h
    · split at h
      · obtain ⟨_, _, h⟩ := ih _ _ h
        split at h
        · exact ⟨_, _, h⟩
        · exact h.elim
      · exact h.elim
    · exact h.elim
  | _ => intro cs K' h; simp only [ofCellsR] at h; (repeat' split at h) <;> first | exact ⟨_, _, h⟩ | (rw [castK_eq] at h; exact ⟨_, _, h⟩) | exact h.elim

theorem argsK_noOwn : ∀ (l : List Sh) (ss : List SV) (H : List Entry) (K : Shs l → List Nat → List Entry → Prop), argsK l ss H K → ∀ s ∈ l, ∀ et t, s ≠ Sh.own et t
  | [], _, _, _, _, s, hs, _, _ => by simp at hs
  | .dat t :: r, ss, H, K, hk, s, hs, et, t' => by
    simp only [argsK] at hk
    rcases List.mem_cons.1 hs with rfl | hs
    · intro e; cases e
    · split at hk
      · split at hk
        · obtain ⟨cs', H', hk⟩ := frzArg_go hk
          obtain ⟨d, rest, hk⟩ := ofCellsR_go _ _ _ hk
          split at hk
          · exact argsK_noOwn r _ _ _ hk s hs et t'
          · exact hk.elim
        · exact hk.elim
      · exact hk.elim
  | .io t :: r, ss, H, K, hk, s, hs, et, t' => by
    simp only [argsK] at hk
    rcases List.mem_cons.1 hs with rfl | hs
    · intro e; cases e
    · split at hk
      · obtain ⟨e, _, hk⟩ := getE_ok H hk
        split at hk
        · obtain ⟨cs', H', hk⟩ := frzCells_go _ _ _ hk
          obtain ⟨d, rest, hk⟩ := ofCellsR_go _ _ _ hk
          split at hk
          · exact argsK_noOwn r _ _ _ hk s hs et t'
          · exact hk.elim
        · exact hk.elim
      · exact hk.elim
  | .own _ _ :: _, _, _, _, hk, _, _, _, _ => by simp only [argsK] at hk

theorem rep_flat' {S S' : Nat → Prop} {w w' : World} {t : Ty} (hf : t.flat = true) {d : t.den} {v : Value} (h : vrep S w t d v) : vrep S' w' t d v :=
  ⟨h.1, h.2.1, rep_flat t hf _ _ h.2.2⟩

theorem shsden_flat {S S' : Nat → Prop} {w : World} : ∀ (l : List Sh), flatRets l = true → ∀ (d : Shs l) (vs : List Value), shsden S w l d vs → shsden S' w l d vs
  | [], _, _, _, h => h
  | s :: r, hf, _, _, ⟨v, vr, e, h1, h2⟩ => by
    simp only [flatRets, Bool.and_eq_true] at hf
    refine ⟨v, vr, e, ?_, shsden_flat r hf.2 _ _ h2⟩
    cases s with
    | dat t => exact rep_flat' (by simpa [Sh.flat] using hf.1) h1
    | own et t => obtain ⟨xs, a, b⟩ := h1; exact ⟨xs, a, repsOf_mono (fun d vs => rep_flat t (by simpa [Sh.flat] using hf.1) d vs) _ _ b⟩
    | io t => simp [Sh.flat] at hf

theorem iosden_flat {S S' : Nat → Prop} {w : World} : ∀ (l : List Sh), flatIos l = true → ∀ (d : Ios l) (vs : List Value), iosden S w l d vs → iosden S' w l d vs
  | [], _, _, _, _ => trivial
  | .io t :: r, hf, _, _, ⟨v, vr, e, ⟨b, cs, T, a1, a2, a3⟩, h2⟩ => by
    simp only [flatIos, Bool.and_eq_true] at hf
    exact ⟨v, vr, e, ⟨b, cs, T, a1, a2, rep_flat t hf.1 _ _ a3⟩, iosden_flat r hf.2 _ _ h2⟩
  | .dat _ :: r, hf, _, _, ⟨v, vr, e, h2⟩ => ⟨v, vr, e, iosden_flat r hf _ _ h2⟩
  | .own _ _ :: r, hf, _, _, ⟨v, vr, e, h2⟩ => ⟨v, vr, e, iosden_flat r hf _ _ h2⟩

theorem iosden_mono {S S' : Nat → Prop} {w : World} (hS : ∀ b, S b → S' b) : ∀ (l : List Sh) (d : Ios l) (vs : List Value), iosden S w l d vs → iosden S' w l d vs
  | [], _, _, _ => trivial
  | .io t :: r, _, _, ⟨v, vr, e, h1, h2⟩ => ⟨v, vr, e, shden_mono hS (.io t) _ _ h1, iosden_mono hS r _ _ h2⟩
  | .dat _ :: r, _, _, ⟨v, vr, e, h2⟩ => ⟨v, vr, e, iosden_mono hS r _ _ h2⟩
  | .own _ _ :: r, _, _, ⟨v, vr, e, h2⟩ => ⟨v, vr, e, iosden_mono hS r _ _ h2⟩

theorem oneSV_ok {E : Env} {ss : List SV} {us : List Value} (h : dens E ss us) {v : Value} (hv : retv us v) {K : SV → Prop} (hk : oneSV ss K) : ∃ s, den E s v ∧ K s := by
  unfold oneSV at hk
  unfold retv at hv
  split at hk
  · rename_i s
    match us, h with
    | [u], h => simp only [dens] at h; subst hv; exact ⟨s, h.1, hk⟩
    | [], h => simp [dens] at h
    | _ :: _ :: _, h => simp [dens] at h
  · rename_i hne
    have hl := dens_length _ _ h
    split at hv
    · rename_i u
      match ss, hl with
      | [s], _ => exact absurd rfl (hne s)
    · subst hv
      exact ⟨.tup ss, by simp only [den]; exact ⟨us, rfl, h⟩, hk⟩

/-- A CALL BY ITS CONTRACT. -/
def datArgs : List Sh → Bool
  | [] => true
  | .dat _ :: r => datArgs r
  | _ :: _ => false

theorem priv_dat : ∀ (l : List Sh) (vs : List Value), datArgs l = true → priv l vs = []
  | [], _, _ => rfl
  | .dat _ :: r, [], _ => rfl
  | .dat _ :: r, _ :: vs, h => priv_dat r vs h
  | .own _ _ :: _, _, h => by simp [datArgs] at h
  | .io _ :: _, _, h => by simp [datArgs] at h

theorem callK_ok {P : Program} {B : Base} {E : Env} {H : List Entry} (hI : Inv B E H) {f : FuncId} {C : Ctr} (hC : SoundC P f C) {ss : List SV} {vs : List Value} (hd : dens E ss vs)
    {K : SV → List Entry → Prop} (hk : callK C ss H K) :
    Calls P f vs.toArray E.w fun e w' => ∃ v E' H' s, e = .returned v ∧ E'.w = w' ∧ Inv B E' H' ∧ E.le E' ∧ den E' s v ∧ K s H' ∧ (datArgs C.args = true → Grow E.w w') := by
  unfold callK at hk
  have hno := argsK_noOwn _ _ _ _ hk
  obtain ⟨E1, H1, as, ids, hw1, hid1, hI1, hle1, has, hio, hk, hbx⟩ := argsK_ok _ _ hI hd hk
  split at hk
  · rename_i hnb
    simp only [Bool.and_eq_true] at hnb
    have hio := idsOf_of _ _ _ hio (allBoxB_ok hnb.2)
    have hnd := nodupB_ok _ hnb.1
    obtain ⟨p1, p2⟩ := idsOf_priv _ _ _ hio hno
    have hpn := idsOf_nodup hI1 _ _ _ hio hno hnd
    have hcall := hC.2 E1.w E1.S vs as _ hI1.Slt has hpn (fun g hg => by
      obtain ⟨id, _, v, c, a1, a2, a3⟩ := p1 g hg
      obtain ⟨b1, _, b3⟩ := hI1.free id _ v g a1 rfl a2 a3
      exact ⟨b1, b3⟩) hk
    rw [hw1] at hcall
    refine hcall.mono ?_
    rintro e w' ⟨v, us, rs, ios, S', he, hv, hk, hkeeps, hS1, hS2, hrets, hios, hrn, hrf⟩
    have hgrow : datArgs C.args = true → Grow E.w w' := by
      intro hda b hb
      exact hkeeps.block b hb (by rw [priv_dat _ _ hda]; simp)
    -- what follows serves both forms: the heap as it was, and as it was turned into data
    have fin : ∀ (E0 : Env) (H0 : List Entry), E0.w = E.w → E0.ids = E.ids → Inv B E0 H0 → E.le E0 → (∀ (i : Nat) (c : List SV), H1[i]? = some (.box c) → H0[i]? = some (.box c)) →
        (∀ b, E0.S b → E1.S b) →
        (∀ S2 : Nat → Prop, (∀ b, S2 b ↔ E0.S b ∨ (E.w.heap.size ≤ b ∧ S' b)) → shsden S2 w' C.rets rs us ∧ iosden S2 w' C.args ios vs) →
        (iosK C.args ids ios H0 fun H2 => retsK C.rets rs H2 fun ss' H3 => oneSV ss' fun s => K s H3) →
        ∃ v E' H' s, e = .returned v ∧ E'.w = w' ∧ Inv B E' H' ∧ E.le E' ∧ den E' s v ∧ K s H' ∧ (datArgs C.args = true → Grow E.w w') := by
      intro E0 H0 hw0 hid0 hI0 hle0 hb0 hS0 hden hk
      let S2 : Nat → Prop := fun b => E0.S b ∨ (E.w.heap.size ≤ b ∧ S' b)
      obtain ⟨hr2, hi2⟩ := hden S2 (fun b => Iff.rfl)
      have hio0 : idsOf E0 H0 C.args ids vs := idsOf_mono (by rw [hid0, hid1]) hb0 _ _ _ hio
      obtain ⟨q1, q2⟩ := idsOf_priv _ _ _ hio0 hno
      have hkeeps0 : Keeps ⟨E0.w, E1.S, fun b => b ∈ priv C.args vs, []⟩ w' := by rw [hw0]; exact hkeeps
      obtain ⟨hleb, hinv⟩ := hI0.behind ids (priv C.args vs) q2 q1 hkeeps0 (S2 := S2) (fun b hb => .inl hb) (fun b hb => by
        rcases hb with hb | ⟨hb1, hb2⟩
        · exact ⟨Nat.lt_of_lt_of_le (hI0.Slt b hb) hkeeps0.size, fun _ => hb⟩
        · exact ⟨(hS2 b hb2).1, fun hlt => by rw [hw0] at hlt; omega⟩)
      obtain ⟨H2, hl2, hk, hj2⟩ := iosK_ok (E := E0) (E2 := ⟨S2, w', E0.ids⟩) rfl S2 (fun b hb => hb) C.args ids vs H0 H0 hio0 hnd (fun id hid => by
        obtain ⟨v0, c0, g0, a1, _⟩ := q2 id hid
        exact (List.getElem?_eq_some_iff.1 a1).1) ios hi2 hk
      have hI2 := hinv H2 hl2 hj2
      have hfr : ∀ g ∈ priv C.rets us, ¬ S2 g ∧ E.w.heap.size ≤ g ∧ g < w'.heap.size := by
        intro g hg
        obtain ⟨a, b, c⟩ := hrf g hg
        refine ⟨fun hs => ?_, b, c⟩
        rcases hs with hs | ⟨_, hs⟩
        · have := hI0.Slt g hs; rw [hw0] at this; omega
        · exact a hs
      obtain ⟨E', H', ss', hw3, hI3, hle3, hds, hk⟩ := retsK_ok (E := ⟨S2, w', E0.ids⟩) E.w.heap.size hI.keeps.size C.rets rs us hI2 hr2 hrn hfr (fun j ej vj g hj hl hvj hb hm => by
        obtain ⟨_, b, _⟩ := hfr g hm
        obtain ⟨e0, he0, hl0⟩ : ∃ e0, H0[j]? = some e0 ∧ e0.live = true := by
          rcases hj2 j ej hj with ⟨hmm, _, _⟩ | ⟨_, hj'⟩
          · obtain ⟨v0, c0, g0, a1, _⟩ := q2 j hmm
            exact ⟨_, a1, rfl⟩
          · exact ⟨ej, hj', hl⟩
        have := (hI0.free j e0 vj g he0 hl0 hvj hb).2.2
        rw [hw0] at this; omega) hk
      obtain ⟨s, hs, hk⟩ := oneSV_ok hds hv hk
      exact ⟨v, E', H', s, he, hw3, hI3, hle0.trans (hleb.trans hle3), hs, hk, hgrow⟩
    have hsz : E1.w.heap.size = E.w.heap.size := by rw [hw1]
    split at hk
    · rename_i hflat
      simp only [Bool.and_eq_true] at hflat
      exact fin E H rfl rfl hI (Env.le.refl E) hbx hle1.S (fun S2 _ => ⟨shsden_flat _ hflat.1 _ _ hrets, iosden_flat _ hflat.2 _ _ hios⟩) hk
    · refine fin E1 H1 hw1 hid1 hI1 hle1 (fun i c h => h) (fun b h => h) (fun S2 hS => ?_) hk
      have hsub : ∀ b, S' b → S2 b := by
        intro b hb
        rw [hS]
        by_cases hlt : b < E.w.heap.size
        · exact .inl ((hS2 b hb).2 hlt)
        · exact .inr ⟨by omega, hb⟩
      exact ⟨shsden_mono hsub _ _ _ hrets, iosden_mono hsub _ _ _ hios⟩
  · exact hk.elim

end Go.Sx
