/-
  Plain laws: arguments counted, copied, compared. Printed by program (szgen.py).
-/
import Derived.Test.YtmaogoofmebdbaaGreatDoorM
import Derived.Test.YtmaogoofmebdbaaGreatDoorP0
import Derived.Test.YtmaogoofmebdbaaGreatDoorSxBr
namespace Go.Proofs.YtmaogoofmebdbaaGreatDoor
open Go Go.Sx
set_option linter.unusedVariables false
set_option linter.unusedSimpArgs false
theorem laws_szClock_ok (a : TClock) (left : Int) (h0 : 0 ≤ left) (h1 : left ≤ 1048576) (hb : bnd (tClock) a) : Szd (laws_szClock a left) left (sm (tClock) a) := by
  unfold laws_szClock
  refine Szd.len h0 h1 (by omega) hb.1 (fun hw a0 b0 s0 => ?_)
  rw [hw]
  exact Szd.ret ⟨s0, sm_fixed _ (by rfl) _, sm_fixed _ (by rfl) _, sm_fixed _ (by rfl) _, sm_fixed _ (by rfl) _, sm_fixed _ (by rfl) _, sm_fixed _ (by rfl) _, sm_fixed _ (by rfl) _, sm_fixed _ (by rfl) _, sm_fixed _ (by rfl) _, sm_fixed _ (by rfl) _, trivial⟩
theorem laws_szClockS_ok (a : List (TClock)) (left : Int) (h0 : 0 ≤ left) (h1 : left ≤ 1048576) (hb : bnd (.sl (tClock)) a) : Szd (laws_szClockS a left) left (sm (.sl (tClock)) a) := by
  unfold laws_szClockS
  refine Szd.len h0 h1 (by omega) hb.1 (fun hw m0 m1 hn => ?_)
  rw [hw]
  exact (Szd.loop (f := fun x m => laws_szClock x m) (P := fun x => sm (tClock) x) (fun x hx m m0 m1 => laws_szClock_ok x m m0 m1 (hb.2 x hx)) (fun k m => rfl) m0 m1 hn).mono (fun h => ⟨hn, h⟩)
theorem laws_szExternalS_ok (a : List (TExternal)) (left : Int) (h0 : 0 ≤ left) (h1 : left ≤ 1048576) (hb : bnd (.sl (tExternal)) a) : Szd (laws_szExternalS a left) left (sm (.sl (tExternal)) a) := by
  unfold laws_szExternalS
  refine Szd.len h0 h1 (by omega) hb.1 (fun hw m0 m1 hn => ?_)
  rw [hw]
  exact Szd.ret ⟨hn, fun x _ => sm_fixed (tExternal) (by rfl) x⟩
theorem laws_szInt64S_ok (a : List (Int)) (left : Int) (h0 : 0 ≤ left) (h1 : left ≤ 1048576) (hb : bnd (.sl (.int .i64)) a) : Szd (laws_szInt64S a left) left (sm (.sl (.int .i64)) a) := by
  unfold laws_szInt64S
  refine Szd.len h0 h1 (by omega) hb.1 (fun hw m0 m1 hn => ?_)
  rw [hw]
  exact Szd.ret ⟨hn, fun x _ => sm_fixed (.int .i64) (by rfl) x⟩
theorem laws_szException_ok (a : TException) (left : Int) (h0 : 0 ≤ left) (h1 : left ≤ 1048576) (hb : bnd (tException) a) : Szd (laws_szException a left) left (sm (tException) a) := by
  unfold laws_szException
  refine Szd.then (laws_szInt64S_ok _ _ h0 h1 hb.2.2.1) h0 h1 (fun m0 a0 b0 s0 => ?_)
  refine Szd.then (laws_szInt64S_ok _ _ a0 b0 hb.2.2.2.1) a0 b0 (fun m1 a1 b1 s1 => ?_)
  refine Szd.last (laws_szInt64S_ok _ _ a1 b1 hb.2.2.2.2.1) a1 (fun s2 => ?_)
  exact ⟨sm_fixed _ (by rfl) _, sm_fixed _ (by rfl) _, s0, s1, s2, trivial⟩
theorem laws_szExceptionS_ok (a : List (TException)) (left : Int) (h0 : 0 ≤ left) (h1 : left ≤ 1048576) (hb : bnd (.sl (tException)) a) : Szd (laws_szExceptionS a left) left (sm (.sl (tException)) a) := by
  unfold laws_szExceptionS
  refine Szd.len h0 h1 (by omega) hb.1 (fun hw m0 m1 hn => ?_)
  rw [hw]
  exact (Szd.loop (f := fun x m => laws_szException x m) (P := fun x => sm (tException) x) (fun x hx m m0 m1 => laws_szException_ok x m m0 m1 (hb.2 x hx)) (fun k m => rfl) m0 m1 hn).mono (fun h => ⟨hn, h⟩)
theorem laws_szCorner_ok (a : TCorner) (left : Int) (h0 : 0 ≤ left) (h1 : left ≤ 1048576) (hb : bnd (tCorner) a) : Szd (laws_szCorner a left) left (sm (tCorner) a) := by
  unfold laws_szCorner
  refine Szd.len h0 h1 (by omega) hb.1 (fun hw a0 b0 s0 => ?_)
  rw [hw]
  exact Szd.ret ⟨s0, sm_fixed _ (by rfl) _, sm_fixed _ (by rfl) _, sm_fixed _ (by rfl) _, sm_fixed _ (by rfl) _, trivial⟩
theorem laws_szCornerS_ok (a : List (TCorner)) (left : Int) (h0 : 0 ≤ left) (h1 : left ≤ 1048576) (hb : bnd (.sl (tCorner)) a) : Szd (laws_szCornerS a left) left (sm (.sl (tCorner)) a) := by
  unfold laws_szCornerS
  refine Szd.len h0 h1 (by omega) hb.1 (fun hw m0 m1 hn => ?_)
  rw [hw]
  exact (Szd.loop (f := fun x m => laws_szCorner x m) (P := fun x => sm (tCorner) x) (fun x hx m m0 m1 => laws_szCorner_ok x m m0 m1 (hb.2 x hx)) (fun k m => rfl) m0 m1 hn).mono (fun h => ⟨hn, h⟩)
theorem laws_szSetup_ok (a : TSetup) (left : Int) (h0 : 0 ≤ left) (h1 : left ≤ 1048576) (hb : bnd (tSetup) a) : Szd (laws_szSetup a left) left (sm (tSetup) a) := by
  unfold laws_szSetup
  refine Szd.then (laws_szClockS_ok _ _ h0 h1 hb.1) h0 h1 (fun m0 a0 b0 s0 => ?_)
  refine Szd.then (laws_szExternalS_ok _ _ a0 b0 hb.2.1) a0 b0 (fun m1 a1 b1 s1 => ?_)
  refine Szd.then (laws_szExternalS_ok _ _ a1 b1 hb.2.2.1) a1 b1 (fun m2 a2 b2 s2 => ?_)
  refine Szd.then (laws_szExceptionS_ok _ _ a2 b2 hb.2.2.2.1) a2 b2 (fun m3 a3 b3 s3 => ?_)
  refine Szd.last (laws_szCornerS_ok _ _ a3 b3 hb.2.2.2.2.1) a3 (fun s4 => ?_)
  exact ⟨s0, s1, s2, s3, s4, trivial⟩
theorem laws_toClock_ok (a : TClock) (hs : sm (tClock) a) : laws_toClock a = some a := by
  unfold laws_toClock
  all_goals rfl
theorem laws_toClockS_ok (a : List (TClock)) (hs : sm (.sl (tClock)) a) : laws_toClockS a = some a := by
  unfold laws_toClockS
  have h := hs.1
  rw [guardO_pos (by omega), guardO_pos (by omega), guardO_pos (by omega), guardO_pos (by omega)]
  exact copy_loop (f := laws_toClock) (fun x hx => laws_toClock_ok x (hs.2 x hx)) (fun k out => rfl) h
theorem laws_toSpan_ok (a : TSpan) (hs : sm (tSpan) a) : laws_toSpan a = some a := by
  unfold laws_toSpan
  all_goals rfl
theorem laws_toExternal_ok (a : TExternal) (hs : sm (tExternal) a) : laws_toExternal a = some a := by
  unfold laws_toExternal
  rw [laws_toSpan_ok _ hs.2.2.1, Option.bind_some, laws_toSpan_ok _ hs.2.2.2.1, Option.bind_some]
  all_goals rfl
theorem laws_toExternalS_ok (a : List (TExternal)) (hs : sm (.sl (tExternal)) a) : laws_toExternalS a = some a := by
  unfold laws_toExternalS
  have h := hs.1
  rw [guardO_pos (by omega), guardO_pos (by omega), guardO_pos (by omega), guardO_pos (by omega)]
  exact copy_loop (f := laws_toExternal) (fun x hx => laws_toExternal_ok x (hs.2 x hx)) (fun k out => rfl) h
theorem laws_toInt64S_ok (a : List (Int)) (hs : sm (.sl (.int .i64)) a) : laws_toInt64S a = some a := by
  unfold laws_toInt64S
  have h := hs.1
  rw [guardO_pos (by omega), guardO_pos (by omega), guardO_pos (by omega), guardO_pos (by omega)]
  exact copy_loop (f := some) (fun x _ => rfl) (fun k out => rfl) h
theorem laws_toException_ok (a : TException) (hs : sm (tException) a) : laws_toException a = some a := by
  unfold laws_toException
  rw [laws_toInt64S_ok _ hs.2.2.1, Option.bind_some, laws_toInt64S_ok _ hs.2.2.2.1, Option.bind_some, laws_toInt64S_ok _ hs.2.2.2.2.1, Option.bind_some]
  all_goals rfl
theorem laws_toExceptionS_ok (a : List (TException)) (hs : sm (.sl (tException)) a) : laws_toExceptionS a = some a := by
  unfold laws_toExceptionS
  have h := hs.1
  rw [guardO_pos (by omega), guardO_pos (by omega), guardO_pos (by omega), guardO_pos (by omega)]
  exact copy_loop (f := laws_toException) (fun x hx => laws_toException_ok x (hs.2 x hx)) (fun k out => rfl) h
theorem laws_toCorner_ok (a : TCorner) (hs : sm (tCorner) a) : laws_toCorner a = some a := by
  unfold laws_toCorner
  all_goals rfl
theorem laws_toCornerS_ok (a : List (TCorner)) (hs : sm (.sl (tCorner)) a) : laws_toCornerS a = some a := by
  unfold laws_toCornerS
  have h := hs.1
  rw [guardO_pos (by omega), guardO_pos (by omega), guardO_pos (by omega), guardO_pos (by omega)]
  exact copy_loop (f := laws_toCorner) (fun x hx => laws_toCorner_ok x (hs.2 x hx)) (fun k out => rfl) h
theorem laws_toSetup_ok (a : TSetup) (hs : sm (tSetup) a) : laws_toSetup a = some a := by
  unfold laws_toSetup
  rw [laws_toClockS_ok _ hs.1, Option.bind_some, laws_toExternalS_ok _ hs.2.1, Option.bind_some, laws_toExternalS_ok _ hs.2.2.1, Option.bind_some, laws_toExceptionS_ok _ hs.2.2.2.1, Option.bind_some, laws_toCornerS_ok _ hs.2.2.2.2.1, Option.bind_some]
  all_goals rfl
theorem laws_eqRelation_ok (a : TRelation) (hs : sm (tRelation) a) : laws_eqRelation a a = some true := by
  unfold laws_eqRelation
  simp
theorem laws_eqClock_ok (a : TClock) (hs : sm (tClock) a) : laws_eqClock a a = some true := by
  unfold laws_eqClock
  simp
theorem laws_eqClockS_ok (a : List (TClock)) (hs : sm (.sl (tClock)) a) : laws_eqClockS a a = some true := by
  unfold laws_eqClockS
  rw [if_pos rfl]
  exact eq_loop (f := laws_eqClock) (fun x hx => laws_eqClock_ok x (hs.2 x hx)) (fun k => rfl) hs.1
theorem laws_eqSpan_ok (a : TSpan) (hs : sm (tSpan) a) : laws_eqSpan a a = some true := by
  unfold laws_eqSpan
  simp
theorem laws_eqExternal_ok (a : TExternal) (hs : sm (tExternal) a) : laws_eqExternal a a = some true := by
  unfold laws_eqExternal
  simp [laws_eqSpan_ok _ hs.2.2.1, laws_eqSpan_ok _ hs.2.2.2.1]
theorem laws_eqExternalS_ok (a : List (TExternal)) (hs : sm (.sl (tExternal)) a) : laws_eqExternalS a a = some true := by
  unfold laws_eqExternalS
  rw [if_pos rfl]
  exact eq_loop (f := laws_eqExternal) (fun x hx => laws_eqExternal_ok x (hs.2 x hx)) (fun k => rfl) hs.1
theorem laws_eqInt64S_ok (a : List (Int)) (hs : sm (.sl (.int .i64)) a) : laws_eqInt64S a a = some true := by
  unfold laws_eqInt64S
  rw [if_pos rfl]
  exact eq_loopP (fun k => rfl) hs.1
theorem laws_eqException_ok (a : TException) (hs : sm (tException) a) : laws_eqException a a = some true := by
  unfold laws_eqException
  simp [laws_eqInt64S_ok _ hs.2.2.1, laws_eqInt64S_ok _ hs.2.2.2.1, laws_eqInt64S_ok _ hs.2.2.2.2.1]
theorem laws_eqExceptionS_ok (a : List (TException)) (hs : sm (.sl (tException)) a) : laws_eqExceptionS a a = some true := by
  unfold laws_eqExceptionS
  rw [if_pos rfl]
  exact eq_loop (f := laws_eqException) (fun x hx => laws_eqException_ok x (hs.2 x hx)) (fun k => rfl) hs.1
theorem laws_eqCorner_ok (a : TCorner) (hs : sm (tCorner) a) : laws_eqCorner a a = some true := by
  unfold laws_eqCorner
  simp
theorem laws_eqCornerS_ok (a : List (TCorner)) (hs : sm (.sl (tCorner)) a) : laws_eqCornerS a a = some true := by
  unfold laws_eqCornerS
  rw [if_pos rfl]
  exact eq_loop (f := laws_eqCorner) (fun x hx => laws_eqCorner_ok x (hs.2 x hx)) (fun k => rfl) hs.1
theorem laws_eqSetup_ok (a : TSetup) (hs : sm (tSetup) a) : laws_eqSetup a a = some true := by
  unfold laws_eqSetup
  simp [laws_eqClockS_ok _ hs.1, laws_eqExternalS_ok _ hs.2.1, laws_eqExternalS_ok _ hs.2.2.1, laws_eqExceptionS_ok _ hs.2.2.2.1, laws_eqCornerS_ok _ hs.2.2.2.2.1]
end Go.Proofs.YtmaogoofmebdbaaGreatDoor
