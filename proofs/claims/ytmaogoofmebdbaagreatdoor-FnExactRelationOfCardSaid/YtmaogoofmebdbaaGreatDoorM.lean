/-
  The models of the functions and their contracts. Printed by program.
-/
import Derived.Test.YtmaogoofmebdbaaGreatDoorSxTab
import Derived.Test.YtmaogoofmebdbaaGreatDoorSxS0
import Derived.Test.YtmaogoofmebdbaaGreatDoorSxLib
namespace Go.Proofs.YtmaogoofmebdbaaGreatDoor
open Go Go.Sx
set_option maxRecDepth 100000
set_option linter.unusedVariables false
set_option linter.unusedSimpArgs false
noncomputable def laws_big (code0 : List Int) : Option Bool :=
  some (Decidable.decide ((4096 : Int) < (↑(List.length code0) : Int)))
noncomputable def c_laws_big : Ctr := ⟨[.dat (.sl (.int .u8))], [.dat (.bool)], fun a K => splitK a fun code0 a => BindP (laws_big code0) fun r => K (r, ()) ()⟩
noncomputable def spec_l01Next (a0 : Tl01Source) (a1 : Int) : Option (Int × Tl01Source) :=
  if a1 ≤ (1 : Int) then
    some ((0 : Int), a0)
  else
    if Tl01Source.at a0 < (↑(List.length (Tl01Source.code a0)) : Int) then
      (atI (Tl01Source.code a0) (Tl01Source.at a0)).bind fun x0 =>
      if a1 ≤ (256 : Int) then
        guardO (a1 ≠ (0 : Int)) <|
        some (Int.tmod (IntKind.i64.wrap x0) a1, (Tl01Source.code a0, IntKind.i64.wrap (Tl01Source.at a0 + (1 : Int)), a0.snd.snd))
      else
        guardO (a1 ≠ (0 : Int)) <|
        some (Int.tmod (Int.tmod (IntKind.i64.wrap (IntKind.i64.wrap (IntKind.i64.wrap (Tl01Source.seed a0 * (48271 : Int)) + IntKind.i64.wrap x0) + (1 : Int))) (2147483647 : Int)) a1, (Tl01Source.code a0, IntKind.i64.wrap (Tl01Source.at a0 + (1 : Int)), Int.tmod (IntKind.i64.wrap (IntKind.i64.wrap (IntKind.i64.wrap (Tl01Source.seed a0 * (48271 : Int)) + IntKind.i64.wrap x0) + (1 : Int))) (2147483647 : Int), ()))
    else
      guardO (a1 ≠ (0 : Int)) <|
      some (Int.tmod (IntKind.i64.wrap (Int.tdiv (Int.tmod (IntKind.i64.wrap (IntKind.i64.wrap (Tl01Source.seed a0 * (48271 : Int)) + (11 : Int))) (2147483647 : Int)) (7 : Int))) a1, (Tl01Source.code a0, Tl01Source.at a0, Int.tmod (IntKind.i64.wrap (IntKind.i64.wrap (Tl01Source.seed a0 * (48271 : Int)) + (11 : Int))) (2147483647 : Int), ()))
noncomputable def c_spec_l01Next : Ctr := ⟨[.io (tl01Source), .dat (.int .i64)], [.dat (.int .i64)], fun a K => splitK a fun a0 a => splitK a fun a1 a => BindP (spec_l01Next a0 a1) fun r => K (r.1, ()) (r.2, ())⟩
noncomputable def spec_l03Sense_loop0 (c0 : TCell) (pin0 : Int) (raises0 : Bool) (lowers0 : Bool) (i0 : Int) : Option ((Bool × Bool × Int × Unit) ⊕ Int) :=
  if i0 < (↑(List.length (TCell.Truth c0)) : Int) then
    if Go.bits Go.BinOp.and IntKind.i64 i0 (IntKind.i64.wrap ((1 : Int) * (2 : Int) ^ Min.min (Int.toNat (IntKind.wrap IntKind.u64 pin0)) (IntKind.bits IntKind.i64))) = (0 : Int) then
      if raises0 = true then
        if lowers0 = true then
          some (.inl (Bool.true, Bool.true, IntKind.i64.wrap (i0 + (1 : Int)), ()))
        else
          (atI (TCell.Truth c0) i0).bind fun x0 =>
          (atI (TCell.Truth c0) (IntKind.i64.wrap (i0 + IntKind.i64.wrap ((1 : Int) * (2 : Int) ^ Min.min (Int.toNat (IntKind.wrap IntKind.u64 pin0)) (IntKind.bits IntKind.i64))))).bind fun x1 =>
          some (.inl (Bool.true, Decidable.decide (x1 < x0), IntKind.i64.wrap (i0 + (1 : Int)), ()))
      else
        (atI (TCell.Truth c0) i0).bind fun x0 =>
        (atI (TCell.Truth c0) (IntKind.i64.wrap (i0 + IntKind.i64.wrap ((1 : Int) * (2 : Int) ^ Min.min (Int.toNat (IntKind.wrap IntKind.u64 pin0)) (IntKind.bits IntKind.i64))))).bind fun x1 =>
        if lowers0 = true then
          some (.inl (Decidable.decide (x0 < x1), Bool.true, IntKind.i64.wrap (i0 + (1 : Int)), ()))
        else
          some (.inl (Decidable.decide (x0 < x1), Decidable.decide (x1 < x0), IntKind.i64.wrap (i0 + (1 : Int)), ()))
    else
      some (.inl (raises0, lowers0, IntKind.i64.wrap (i0 + (1 : Int)), ()))
  else
    if raises0 = true then
      if lowers0 = true then
        some (.inr (3 : Int))
      else
        if raises0 = true then
          some (.inr (1 : Int))
        else
          if lowers0 = true then
            some (.inr (2 : Int))
          else
            some (.inr (0 : Int))
    else
      if raises0 = true then
        some (.inr (1 : Int))
      else
        if lowers0 = true then
          some (.inr (2 : Int))
        else
          some (.inr (0 : Int))
noncomputable def spec_l03Sense (c0 : TCell) (pin0 : Int) : Option Int :=
  guardO ((0 : Int) ≤ IntKind.wrap IntKind.u64 pin0) <|
  whileM (fun v => spec_l03Sense_loop0 c0 pin0 v.1 v.2.1 v.2.2.1) (Bool.false, Bool.false, (0 : Int), ())
noncomputable def c_spec_l03Sense : Ctr := ⟨[.dat (tCell), .dat (.int .i64)], [.dat (.int .i64)], fun a K => splitK a fun c0 a => splitK a fun pin0 a => BindP (spec_l03Sense c0 pin0) fun r => K (r, ()) ()⟩
noncomputable def spec_l02DrawAxis_loop0 (step0 : Int) (out0 : List Int) (at0 : Int) (n0 : Int) (c0 : List Int) (c1 : Int) (c2 : Int) : Option (((List Int) × Int × Int × (List Int) × Int × Int × Unit) ⊕ ((List Int) × Tl01Source)) :=
  if (0 : Int) < n0 then
    guardO ((List.length out0 + List.length [at0]) * (8 : Nat) ≤ (140737488355328 : Nat)) <|
    (spec_l01Next (c0, c1, c2, ()) step0).bind fun l01Next2 =>
    some (.inl (out0 ++ [at0], IntKind.i64.wrap (IntKind.i64.wrap (at0 + (1 : Int)) + l01Next2.fst), IntKind.i64.wrap (n0 - (1 : Int)), l01Next2.snd.fst, l01Next2.snd.snd.fst, l01Next2.snd.snd.snd.fst, ()))
  else
    some (.inr (out0, (c0, c1, c2, ())))
noncomputable def spec_l02DrawAxis (s0 : Tl01Source) (step0 : Int) : Option ((List Int) × Tl01Source) :=
  (spec_l01Next s0 step0).bind fun l01Next0 =>
  (spec_l01Next l01Next0.snd (3 : Int)).bind fun l01Next1 =>
  whileM (fun v => spec_l02DrawAxis_loop0 step0 v.1 v.2.1 v.2.2.1 v.2.2.2.1 v.2.2.2.2.1 v.2.2.2.2.2.1) (([] : List Int), l01Next0.fst, IntKind.i64.wrap ((1 : Int) + l01Next1.fst), l01Next1.snd.fst, l01Next1.snd.snd.fst, l01Next1.snd.snd.snd.fst, ())
noncomputable def c_spec_l02DrawAxis : Ctr := ⟨[.io (tl01Source), .dat (.int .i64)], [.own 2 (.int .i64)], fun a K => splitK a fun s0 a => splitK a fun step0 a => BindP (spec_l02DrawAxis s0 step0) fun r => K (r.1, ()) (r.2, ())⟩
noncomputable def spec_l02Draw_loop0 (a1 : Int) (l02DrawAxis0 : List Int × Tl01Source) (l02DrawAxis1 : List Int × Tl01Source) (v0 : List Int) (v1 : Int) (c0 : List Int) (c1 : Int) (c2 : Int) : Option (((List Int) × Int × (List Int) × Int × Int × Unit) ⊕ (TTable × Tl01Source)) :=
  if v1 < IntKind.i64.wrap ((↑(List.length l02DrawAxis0.fst) : Int) * (↑(List.length l02DrawAxis1.fst) : Int)) then
    (spec_l01Next (c0, c1, c2, ()) (10 : Int)).bind fun l01Next0 =>
    guardO ((↑(List.length l02DrawAxis1.fst) : Int) ≠ (0 : Int)) <|
    if (0 : Int) < Int.tmod v1 (↑(List.length l02DrawAxis1.fst) : Int) then
      (atI v0 (IntKind.i64.wrap (v1 - (1 : Int)))).bind fun x0 =>
      (spec_l01Next l01Next0.snd (20 : Int)).bind fun l01Next1 =>
      if (↑(List.length l02DrawAxis1.fst) : Int) ≤ v1 then
        (atI v0 (IntKind.i64.wrap (v1 - (↑(List.length l02DrawAxis1.fst) : Int)))).bind fun x1 =>
        (spec_l01Next l01Next1.snd (20 : Int)).bind fun l01Next2 =>
        guardO ((List.length v0 + List.length [Max.max (Max.max (IntKind.i64.wrap (a1 + l01Next0.fst)) (IntKind.i64.wrap (x0 + l01Next1.fst))) (IntKind.i64.wrap (x1 + l01Next2.fst))]) * (8 : Nat) ≤ (140737488355328 : Nat)) <|
        some (.inl (v0 ++ [Max.max (Max.max (IntKind.i64.wrap (a1 + l01Next0.fst)) (IntKind.i64.wrap (x0 + l01Next1.fst))) (IntKind.i64.wrap (x1 + l01Next2.fst))], IntKind.i64.wrap (v1 + (1 : Int)), l01Next2.snd.fst, l01Next2.snd.snd.fst, l01Next2.snd.snd.snd.fst, ()))
      else
        guardO ((List.length v0 + List.length [Max.max (IntKind.i64.wrap (a1 + l01Next0.fst)) (IntKind.i64.wrap (x0 + l01Next1.fst))]) * (8 : Nat) ≤ (140737488355328 : Nat)) <|
        some (.inl (v0 ++ [Max.max (IntKind.i64.wrap (a1 + l01Next0.fst)) (IntKind.i64.wrap (x0 + l01Next1.fst))], IntKind.i64.wrap (v1 + (1 : Int)), l01Next1.snd.fst, l01Next1.snd.snd.fst, l01Next1.snd.snd.snd.fst, ()))
    else
      if (↑(List.length l02DrawAxis1.fst) : Int) ≤ v1 then
        (atI v0 (IntKind.i64.wrap (v1 - (↑(List.length l02DrawAxis1.fst) : Int)))).bind fun x0 =>
        (spec_l01Next l01Next0.snd (20 : Int)).bind fun l01Next1 =>
        guardO ((List.length v0 + List.length [Max.max (IntKind.i64.wrap (a1 + l01Next0.fst)) (IntKind.i64.wrap (x0 + l01Next1.fst))]) * (8 : Nat) ≤ (140737488355328 : Nat)) <|
        some (.inl (v0 ++ [Max.max (IntKind.i64.wrap (a1 + l01Next0.fst)) (IntKind.i64.wrap (x0 + l01Next1.fst))], IntKind.i64.wrap (v1 + (1 : Int)), l01Next1.snd.fst, l01Next1.snd.snd.fst, l01Next1.snd.snd.snd.fst, ()))
      else
        guardO ((List.length v0 + List.length [IntKind.i64.wrap (a1 + l01Next0.fst)]) * (8 : Nat) ≤ (140737488355328 : Nat)) <|
        some (.inl (v0 ++ [IntKind.i64.wrap (a1 + l01Next0.fst)], IntKind.i64.wrap (v1 + (1 : Int)), l01Next0.snd.fst, l01Next0.snd.snd.fst, l01Next0.snd.snd.snd.fst, ()))
  else
    some (.inr ((l02DrawAxis0.fst, l02DrawAxis1.fst, v0, ()), (c0, c1, c2, ())))
noncomputable def spec_l02Draw (a0 : Tl01Source) (a1 : Int) : Option (TTable × Tl01Source) :=
  (spec_l02DrawAxis a0 (60 : Int)).bind fun l02DrawAxis0 =>
  (spec_l02DrawAxis l02DrawAxis0.snd (40 : Int)).bind fun l02DrawAxis1 =>
  whileM (fun v => spec_l02Draw_loop0 a1 l02DrawAxis0 l02DrawAxis1 v.1 v.2.1 v.2.2.1 v.2.2.2.1 v.2.2.2.2.1) (([] : List Int), (0 : Int), l02DrawAxis1.snd.fst, l02DrawAxis1.snd.snd.fst, l02DrawAxis1.snd.snd.snd.fst, ())
noncomputable def c_spec_l02Draw : Ctr := ⟨[.io (tl01Source), .dat (.int .i64)], [.dat (tTable)], fun a K => splitK a fun a0 a => splitK a fun a1 a => BindP (spec_l02Draw a0 a1) fun r => K (r.1, ()) (r.2, ())⟩
noncomputable def spec_l03DrawTables (s0 : Tl01Source) (base0 : Int) : Option ((List TTable) × Tl01Source) :=
  (spec_l02Draw s0 base0).bind fun l02Draw0 =>
  (spec_l02Draw l02Draw0.snd base0).bind fun l02Draw1 =>
  some ([l02Draw0.fst, l02Draw1.fst], l02Draw1.snd)
noncomputable def c_spec_l03DrawTables : Ctr := ⟨[.io (tl01Source), .dat (.int .i64)], [.own 198 (tTable)], fun a K => splitK a fun s0 a => splitK a fun base0 a => BindP (spec_l03DrawTables s0 base0) fun r => K (r.1, ()) (r.2, ())⟩
noncomputable def spec_l03DrawArc (s0 : Tl01Source) (kind0 : Int) (from0 : Int) (to0 : Int) (sense0 : Int) : Option (TArc × Tl01Source) :=
  if (4 : Int) ≤ kind0 then
    (spec_l01Next s0 (10 : Int)).bind fun l01Next0 =>
    (spec_l03DrawTables l01Next0.snd (IntKind.i64.wrap ((5 : Int) - l01Next0.fst))).bind fun l03DrawTables0 =>
    some ((kind0, from0, to0, (0 : Int), l03DrawTables0.fst, ([] : List TTable), ()), l03DrawTables0.snd)
  else
    (spec_l01Next s0 (20 : Int)).bind fun l01Next0 =>
    (spec_l03DrawTables l01Next0.snd (IntKind.i64.wrap ((5 : Int) + l01Next0.fst))).bind fun l03DrawTables0 =>
    (spec_l03DrawTables l03DrawTables0.snd (10 : Int)).bind fun l03DrawTables1 =>
    some ((kind0, from0, to0, sense0, l03DrawTables0.fst, l03DrawTables1.fst, ()), l03DrawTables1.snd)
noncomputable def c_spec_l03DrawArc : Ctr := ⟨[.io (tl01Source), .dat (.int .i64), .dat (.int .i64), .dat (.int .i64), .dat (.int .i64)], [.dat (tArc)], fun a K => splitK a fun s0 a => splitK a fun kind0 a => splitK a fun from0 a => splitK a fun to0 a => splitK a fun sense0 a => BindP (spec_l03DrawArc s0 kind0 from0 to0 sense0) fun r => K (r.1, ()) (r.2, ())⟩
noncomputable def spec_l03Gate_loop0 (a1 : List UInt8) (a2 : List Int) (l01Next0 : Int × Tl01Source) (l01Next1 : Int × Tl01Source) (v0 : List TPin) (v2 : List TArc) (v3 : Int) (c3 : List Int) (c4 : Int) (c5 : Int) : Option (((List TArc) × Int × (List Int) × Int × Int × Unit) ⊕ (((List TPin) × Int × (List Int) × Int × Int × Unit) ⊕ (TCell × Tl01Source))) :=
  if v3 < (↑(List.length v0) : Int) then
    (spec_l03Sense (a1, (1 : Int), v0 ++ [([(121 : UInt8)], (2 : Int), (0 : Int), Bool.false, ())], ([] : List TArc), a2, l01Next0.fst, l01Next1.fst, ()) v3).bind fun l03Sense0 =>
    if l03Sense0 = (0 : Int) then
      some (.inl (v2, IntKind.i64.wrap (v3 + (1 : Int)), c3, c4, c5, ()))
    else
      (spec_l03DrawArc (c3, c4, c5, ()) (1 : Int) v3 (↑(List.length v0) : Int) l03Sense0).bind fun l03DrawArc0 =>
      guardO ((List.length v2 + List.length [l03DrawArc0.fst]) * (80 : Nat) ≤ (140737488355328 : Nat)) <|
      some (.inl (v2 ++ [l03DrawArc0.fst], IntKind.i64.wrap (v3 + (1 : Int)), l03DrawArc0.snd.fst, l03DrawArc0.snd.snd.fst, l03DrawArc0.snd.snd.snd.fst, ()))
  else
    some (.inr (.inr ((a1, (1 : Int), v0 ++ [([(121 : UInt8)], (2 : Int), (0 : Int), Bool.false, ())], v2, a2, l01Next0.fst, l01Next1.fst, ()), (c3, c4, c5, ()))))
noncomputable def spec_l03Gate_loop1 (a1 : List UInt8) (a2 : List Int) (l01Next0 : Int × Tl01Source) (l01Next1 : Int × Tl01Source) (v0 : List TPin) (v1 : Int) (c0 : List Int) (c1 : Int) (c2 : Int) : Option (((List TPin) × Int × (List Int) × Int × Int × Unit) ⊕ (TCell × Tl01Source)) :=
  if v1 < (↑(List.length a2) : Int) then
    (atI ([[(97 : UInt8)], [(98 : UInt8)], [(99 : UInt8)], [(100 : UInt8)]]) (↑(List.length v0) : Int)).bind fun x0 =>
    (spec_l01Next (c0, c1, c2, ()) (9 : Int)).bind fun l01Next2 =>
    guardO ((List.length v0 + List.length [(x0, (1 : Int), IntKind.i64.wrap ((1 : Int) + l01Next2.fst), Bool.false, ())]) * (40 : Nat) ≤ (140737488355328 : Nat)) <|
    some (.inl (v0 ++ [(x0, (1 : Int), IntKind.i64.wrap ((1 : Int) + l01Next2.fst), Bool.false, ())], IntKind.i64.wrap ((2 : Int) * v1), l01Next2.snd.fst, l01Next2.snd.snd.fst, l01Next2.snd.snd.snd.fst, ()))
  else
    guardO ((List.length v0 + List.length [([(121 : UInt8)], (2 : Int), (0 : Int), Bool.false, ())]) * (40 : Nat) ≤ (140737488355328 : Nat)) <|
    whileM (fun v => spec_l03Gate_loop0 a1 a2 l01Next0 l01Next1 v0 v.1 v.2.1 v.2.2.1 v.2.2.2.1 v.2.2.2.2.1) (([] : List (Int × Int × Int × Int × List TTable × List TTable × Unit)), (0 : Int), c0, c1, c2, ())
noncomputable def spec_l03Gate (a0 : Tl01Source) (a1 : List UInt8) (a2 : List Int) : Option (TCell × Tl01Source) :=
  (spec_l01Next a0 (50 : Int)).bind fun l01Next0 =>
  (spec_l01Next l01Next0.snd (80 : Int)).bind fun l01Next1 =>
  whileM (fun v => spec_l03Gate_loop1 a1 a2 l01Next0 l01Next1 v.1 v.2.1 v.2.2.1 v.2.2.2.1 v.2.2.2.2.1) (([] : List (List UInt8 × Int × Int × Bool × Unit)), (1 : Int), l01Next1.snd.fst, l01Next1.snd.snd.fst, l01Next1.snd.snd.snd.fst, ())
noncomputable def c_spec_l03Gate : Ctr := ⟨[.io (tl01Source), .dat (.str), .dat (.sl (.int .i64))], [.dat (tCell)], fun a K => splitK a fun a0 a => splitK a fun a1 a => splitK a fun a2 a => BindP (spec_l03Gate a0 a1 a2) fun r => K (r.1, ()) (r.2, ())⟩
noncomputable def spec_l03DrawFlop (s0 : Tl01Source) (name0 : List UInt8) (kind0 : Int) (edge0 : Int) : Option (TCell × Tl01Source) :=
  (spec_l01Next s0 (50 : Int)).bind fun l01Next0 =>
  (spec_l01Next l01Next0.snd (80 : Int)).bind fun l01Next1 =>
  (spec_l01Next l01Next1.snd (9 : Int)).bind fun l01Next2 =>
  (spec_l01Next l01Next2.snd (9 : Int)).bind fun l01Next3 =>
  (spec_l03DrawArc l01Next3.snd edge0 (1 : Int) (2 : Int) (0 : Int)).bind fun l03DrawArc0 =>
  (spec_l03DrawArc l03DrawArc0.snd (4 : Int) (1 : Int) (0 : Int) (0 : Int)).bind fun l03DrawArc1 =>
  (spec_l03DrawArc l03DrawArc1.snd (5 : Int) (1 : Int) (0 : Int) (0 : Int)).bind fun l03DrawArc2 =>
  if kind0 = (3 : Int) then
    (spec_l03DrawArc l03DrawArc2.snd (1 : Int) (0 : Int) (2 : Int) (1 : Int)).bind fun l03DrawArc3 =>
    guardO ((List.length [l03DrawArc0.fst, l03DrawArc1.fst, l03DrawArc2.fst] + List.length [l03DrawArc3.fst]) * (80 : Nat) ≤ (140737488355328 : Nat)) <|
    some ((name0, kind0, [([(100 : UInt8)], (1 : Int), IntKind.i64.wrap ((1 : Int) + l01Next2.fst), Bool.false, ()), ([(99 : UInt8), (107 : UInt8)], (1 : Int), IntKind.i64.wrap ((1 : Int) + l01Next3.fst), Bool.true, ()), ([(113 : UInt8)], (2 : Int), (0 : Int), Bool.false, ())], [l03DrawArc0.fst, l03DrawArc1.fst, l03DrawArc2.fst] ++ [l03DrawArc3.fst], ([] : List Int), l01Next0.fst, l01Next1.fst, ()), l03DrawArc3.snd)
  else
    some ((name0, kind0, [([(100 : UInt8)], (1 : Int), IntKind.i64.wrap ((1 : Int) + l01Next2.fst), Bool.false, ()), ([(99 : UInt8), (107 : UInt8)], (1 : Int), IntKind.i64.wrap ((1 : Int) + l01Next3.fst), Bool.true, ()), ([(113 : UInt8)], (2 : Int), (0 : Int), Bool.false, ())], [l03DrawArc0.fst, l03DrawArc1.fst, l03DrawArc2.fst], ([] : List Int), l01Next0.fst, l01Next1.fst, ()), l03DrawArc2.snd)
noncomputable def c_spec_l03DrawFlop : Ctr := ⟨[.io (tl01Source), .dat (.str), .dat (.int .i64), .dat (.int .i64)], [.dat (tCell)], fun a K => splitK a fun s0 a => splitK a fun name0 a => splitK a fun kind0 a => splitK a fun edge0 a => BindP (spec_l03DrawFlop s0 name0 kind0 edge0) fun r => K (r.1, ()) (r.2, ())⟩
noncomputable def spec_l03Draw (s0 : Tl01Source) : Option (TLibrary × Tl01Source) :=
  (spec_l03Gate s0 [(105 : UInt8), (110 : UInt8), (118 : UInt8)] [(1 : Int), (0 : Int)]).bind fun l03Gate0 =>
  (spec_l03Gate l03Gate0.snd [(98 : UInt8), (117 : UInt8), (102 : UInt8)] [(0 : Int), (1 : Int)]).bind fun l03Gate1 =>
  (spec_l03Gate l03Gate1.snd [(110 : UInt8), (97 : UInt8), (110 : UInt8), (100 : UInt8)] [(1 : Int), (1 : Int), (1 : Int), (0 : Int)]).bind fun l03Gate2 =>
  (spec_l03Gate l03Gate2.snd [(120 : UInt8), (111 : UInt8), (114 : UInt8)] [(0 : Int), (1 : Int), (1 : Int), (0 : Int)]).bind fun l03Gate3 =>
  (spec_l03Gate l03Gate3.snd [(109 : UInt8), (117 : UInt8), (120 : UInt8)] [(0 : Int), (1 : Int), (0 : Int), (1 : Int), (0 : Int), (0 : Int), (1 : Int), (1 : Int)]).bind fun l03Gate4 =>
  (spec_l03DrawFlop l03Gate4.snd [(102 : UInt8), (108 : UInt8), (111 : UInt8), (112 : UInt8)] (2 : Int) (2 : Int)).bind fun l03DrawFlop0 =>
  (spec_l03DrawFlop l03DrawFlop0.snd [(102 : UInt8), (108 : UInt8), (111 : UInt8), (112 : UInt8), (110 : UInt8)] (2 : Int) (3 : Int)).bind fun l03DrawFlop1 =>
  (spec_l03DrawFlop l03DrawFlop1.snd [(108 : UInt8), (97 : UInt8), (116 : UInt8), (99 : UInt8), (104 : UInt8)] (3 : Int) (2 : Int)).bind fun l03DrawFlop2 =>
  some (([l03Gate0.fst, l03Gate1.fst, l03Gate2.fst, l03Gate3.fst, l03Gate4.fst, l03DrawFlop0.fst, l03DrawFlop1.fst, l03DrawFlop2.fst], ()), l03DrawFlop2.snd)
noncomputable def c_spec_l03Draw : Ctr := ⟨[.io (tl01Source)], [.dat (tLibrary)], fun a K => splitK a fun s0 a => BindP (spec_l03Draw s0) fun r => K (r.1, ()) (r.2, ())⟩
noncomputable def spec_l05Places_loop0 (v1 : Int) (x0 : TInstance) (v2 : List Tl05Place) (v3 : Int) : Option (((List Tl05Place) × Int × Unit) ⊕ (((List Tl05Place) × Int × Unit) ⊕ List Tl05Place)) :=
  if v3 < (↑(List.length (TInstance.Nets x0)) : Int) then
    (atI (TInstance.Nets x0) v3).bind fun x1 =>
    guardO ((List.length v2 + List.length [(v1, v3, x1, Decidable.decide (v3 = IntKind.i64.wrap ((↑(List.length (TInstance.Nets x0)) : Int) - (1 : Int))), ())]) * (32 : Nat) ≤ (140737488355328 : Nat)) <|
    some (.inl (v2 ++ [(v1, v3, x1, Decidable.decide (v3 = IntKind.i64.wrap ((↑(List.length (TInstance.Nets x0)) : Int) - (1 : Int))), ())], IntKind.i64.wrap (v3 + (1 : Int)), ()))
  else
    some (.inr (.inl (v2, IntKind.i64.wrap (v1 + (1 : Int)), ())))
noncomputable def spec_l05Places_loop1 (a0 : TDesign) (v2 : List Tl05Place) (v3 : Int) : Option (((List Tl05Place) × Int × Unit) ⊕ (((List Tl05Place) × Int × Unit) ⊕ List Tl05Place)) :=
  if v3 < (↑(List.length (TDesign.Ports a0)) : Int) then
    (atI (TDesign.Ports a0) v3).bind fun x0 =>
    guardO ((List.length v2 + List.length [((-1 : Int), v3, TPort.Net x0, Decidable.decide (TPort.Dir x0 = (1 : Int)), ())]) * (32 : Nat) ≤ (140737488355328 : Nat)) <|
    some (.inl (v2 ++ [((-1 : Int), v3, TPort.Net x0, Decidable.decide (TPort.Dir x0 = (1 : Int)), ())], IntKind.i64.wrap (v3 + (1 : Int)), ()))
  else
    some (.inr (.inr v2))
noncomputable def spec_l05Places_loop2 (a0 : TDesign) (v0 : List Tl05Place) (v1 : Int) : Option (((List Tl05Place) × Int × Unit) ⊕ List Tl05Place) :=
  if v1 < (↑(List.length (TDesign.Instances a0)) : Int) then
    (atI (TDesign.Instances a0) v1).bind fun x0 =>
    whileM (fun v => spec_l05Places_loop0 v1 x0 v.1 v.2.1) (v0, (0 : Int), ())
  else
    whileM (fun v => spec_l05Places_loop1 a0 v.1 v.2.1) (v0, (0 : Int), ())
noncomputable def spec_l05Places (a0 : TDesign) : Option (List Tl05Place) :=
  whileM (fun v => spec_l05Places_loop2 a0 v.1 v.2.1) (([] : List (Int × Int × Int × Bool × Unit)), (0 : Int), ())
noncomputable def c_spec_l05Places : Ctr := ⟨[.dat (tDesign)], [.own 138 (tl05Place)], fun a K => splitK a fun a0 a => BindP (spec_l05Places a0) fun r => K (r, ()) ()⟩
noncomputable def spec_l05Sinks_loop0 (net0 : Int) (l05Places0 : List Tl05Place) (out0 : List Int) (i0 : Int) : Option (((List Int) × Int × Unit) ⊕ List Int) :=
  if i0 < (↑(List.length l05Places0) : Int) then
    (atI l05Places0 i0).bind fun x0 =>
    if Tl05Place.net x0 = net0 then
      if (Tl05Place.drives x0) = true then
        some (.inl (out0, IntKind.i64.wrap (i0 + (1 : Int)), ()))
      else
        guardO ((List.length out0 + List.length [i0]) * (8 : Nat) ≤ (140737488355328 : Nat)) <|
        some (.inl (out0 ++ [i0], IntKind.i64.wrap (i0 + (1 : Int)), ()))
    else
      some (.inl (out0, IntKind.i64.wrap (i0 + (1 : Int)), ()))
  else
    some (.inr out0)
noncomputable def spec_l05Sinks (d0 : TDesign) (net0 : Int) : Option (List Int) :=
  (spec_l05Places d0).bind fun l05Places0 =>
  whileM (fun v => spec_l05Sinks_loop0 net0 l05Places0 v.1 v.2.1) (([] : List Int), (0 : Int), ())
noncomputable def c_spec_l05Sinks : Ctr := ⟨[.dat (tDesign), .dat (.int .i64)], [.own 2 (.int .i64)], fun a K => splitK a fun d0 a => splitK a fun net0 a => BindP (spec_l05Sinks d0 net0) fun r => K (r, ()) ()⟩
noncomputable def spec_l07Lumped (sinks0 : Int) (load0 : Int) : Option TWire :=
  guardO ((0 : Int) ≤ sinks0) <|
  guardO (sinks0 ≤ sinks0) <|
  guardO (sinks0 ≤ (4611686018427387904 : Int)) <|
  guardO ((↑(8 : Nat) : Int) * sinks0 ≤ (281474976710656 : Int)) <|
  some ([(-1 : Int)], [(0 : Int)], [load0], List.replicate (Int.toNat sinks0) (0 : Int), ())
noncomputable def c_spec_l07Lumped : Ctr := ⟨[.dat (.int .i64), .dat (.int .i64)], [.dat (tWire)], fun a K => splitK a fun sinks0 a => splitK a fun load0 a => BindP (spec_l07Lumped sinks0 load0) fun r => K (r, ()) ()⟩
noncomputable def spec_l02Ints (list0 : List Int) : Option (List Int) :=
  guardO ((List.length (([] : List Int)) + List.length list0) * (8 : Nat) ≤ (140737488355328 : Nat)) <|
  some (([] : List Int) ++ list0)
noncomputable def c_spec_l02Ints : Ctr := ⟨[.dat (.sl (.int .i64))], [.own 2 (.int .i64)], fun a K => splitK a fun list0 a => BindP (spec_l02Ints list0) fun r => K (r, ()) ()⟩
noncomputable def spec_l03Name_loop0 (s0 : List UInt8) (i0 : Int) : Option ((Int × Unit) ⊕ Bool) :=
  if i0 < (↑(List.length s0) : Int) then
    (atI s0 i0).bind fun x0 =>
    if (97 : Int) ≤ (↑(UInt8.toNat x0) : Int) then
      if (48 : Int) ≤ (↑(UInt8.toNat x0) : Int) then
        if (↑(UInt8.toNat x0) : Int) ≤ (122 : Int) then
          some (.inl (IntKind.i64.wrap (i0 + (1 : Int)), ()))
        else
          if (↑(UInt8.toNat x0) : Int) ≤ (57 : Int) then
            if (0 : Int) < i0 then
              some (.inl (IntKind.i64.wrap (i0 + (1 : Int)), ()))
            else
              some (.inr Bool.false)
          else
            some (.inr Bool.false)
      else
        if (↑(UInt8.toNat x0) : Int) ≤ (122 : Int) then
          some (.inl (IntKind.i64.wrap (i0 + (1 : Int)), ()))
        else
          some (.inr Bool.false)
    else
      if (48 : Int) ≤ (↑(UInt8.toNat x0) : Int) then
        if (↑(UInt8.toNat x0) : Int) ≤ (57 : Int) then
          if (0 : Int) < i0 then
            some (.inl (IntKind.i64.wrap (i0 + (1 : Int)), ()))
          else
            some (.inr Bool.false)
        else
          some (.inr Bool.false)
      else
        some (.inr Bool.false)
  else
    if (1 : Int) ≤ (↑(List.length s0) : Int) then
      some (.inr (Decidable.decide ((↑(List.length s0) : Int) ≤ (8 : Int))))
    else
      some (.inr Bool.false)
noncomputable def spec_l03Name (s0 : List UInt8) : Option Bool :=
  whileM (fun v => spec_l03Name_loop0 s0 v.1) ((0 : Int), ())
noncomputable def c_spec_l03Name : Ctr := ⟨[.dat (.str)], [.dat (.bool)], fun a K => splitK a fun s0 a => BindP (spec_l03Name s0) fun r => K (r, ()) ()⟩
noncomputable def spec_l01In (n0 : Int) (low0 : Int) (high0 : Int) : Option Bool :=
  if low0 ≤ n0 then
    some (Decidable.decide (n0 ≤ high0))
  else
    some Bool.false
noncomputable def c_spec_l01In : Ctr := ⟨[.dat (.int .i64), .dat (.int .i64), .dat (.int .i64)], [.dat (.bool)], fun a K => splitK a fun n0 a => splitK a fun low0 a => splitK a fun high0 a => BindP (spec_l01In n0 low0 high0) fun r => K (r, ()) ()⟩
noncomputable def spec_l14Plain (c0 : TClock) : Option Bool :=
  (spec_l03Name (TClock.Name c0)).bind fun l03Name0 =>
  if l03Name0 = true then
    if (0 : Int) ≤ TClock.Place c0 then
      (spec_l01In (TClock.EarlyLatency c0) (0 : Int) (100000 : Int)).bind fun l01In0 =>
      if l01In0 = true then
        (spec_l01In (TClock.LateLatency c0) (TClock.EarlyLatency c0) (100000 : Int)).bind fun l01In1 =>
        if l01In1 = true then
          (spec_l01In (TClock.Uncertainty c0) (0 : Int) (100000 : Int)).bind fun l01In2 =>
          some l01In2
        else
          some Bool.false
      else
        some Bool.false
    else
      some Bool.false
  else
    some Bool.false
noncomputable def c_spec_l14Plain : Ctr := ⟨[.dat (tClock)], [.dat (.bool)], fun a K => splitK a fun c0 a => BindP (spec_l14Plain c0) fun r => K (r, ()) ()⟩
noncomputable def spec_l14Primary (c0 : TClock) : Option Bool :=
  (spec_l01In (TClock.Period c0) (2 : Int) (100000 : Int)).bind fun l01In0 =>
  if l01In0 = true then
    (spec_l01In (TClock.RiseAt c0) (0 : Int) (IntKind.i64.wrap (TClock.Period c0 - (1 : Int)))).bind fun l01In1 =>
    if l01In1 = true then
      (spec_l01In (TClock.FallAt c0) (0 : Int) (IntKind.i64.wrap (TClock.Period c0 - (1 : Int)))).bind fun l01In2 =>
      if l01In2 = true then
        if TClock.RiseAt c0 = TClock.FallAt c0 then
          some Bool.false
        else
          if TClock.Divide c0 = (1 : Int) then
            some (!TClock.Invert c0)
          else
            some Bool.false
      else
        some Bool.false
    else
      some Bool.false
  else
    some Bool.false
noncomputable def c_spec_l14Primary : Ctr := ⟨[.dat (tClock)], [.dat (.bool)], fun a K => splitK a fun c0 a => BindP (spec_l14Primary c0) fun r => K (r, ()) ()⟩
noncomputable def spec_l14Of_body (rec0 : (List TClock) → Int → Option Tl14Wave) (list0 : List TClock) (k0 : Int) : Option Tl14Wave :=
  (atI list0 k0).bind fun x0 =>
  if TClock.Source x0 < (0 : Int) then
    some (TClock.Period x0, TClock.RiseAt x0, TClock.FallAt x0, ())
  else
    (rec0 list0 (TClock.Source x0)).bind fun r0 =>
    if (1 : Int) < TClock.Divide x0 then
      if (TClock.Invert x0) = true then
        some (IntKind.i64.wrap (Tl14Wave.period r0 * TClock.Divide x0), IntKind.i64.wrap (Tl14Wave.rise r0 + IntKind.i64.wrap (IntKind.i64.wrap (Int.tdiv (TClock.Divide x0) (2 : Int)) * Tl14Wave.period r0)), Tl14Wave.rise r0, ())
      else
        some (IntKind.i64.wrap (Tl14Wave.period r0 * TClock.Divide x0), Tl14Wave.rise r0, IntKind.i64.wrap (Tl14Wave.rise r0 + IntKind.i64.wrap (IntKind.i64.wrap (Int.tdiv (TClock.Divide x0) (2 : Int)) * Tl14Wave.period r0)), ())
    else
      if (TClock.Invert x0) = true then
        some (Tl14Wave.period r0, Tl14Wave.fall r0, Tl14Wave.rise r0, ())
      else
        some r0
noncomputable def spec_l14Of_n : Nat → (List TClock) → Int → Option Tl14Wave
  | 0 => fun _ _ => none
  | n + 1 => spec_l14Of_body (spec_l14Of_n n)
noncomputable def spec_l14Of (list0 : List TClock) (k0 : Int) : Option Tl14Wave := recM (fun n => spec_l14Of_n n list0 k0)
noncomputable def cb_spec_l14Of (rec0 : (List TClock) → Int → Option Tl14Wave) : Ctr := ⟨[.dat (.sl (tClock)), .dat (.int .i64)], [.dat (tl14Wave)], fun a K => splitK a fun list0 a => splitK a fun k0 a => BindP (rec0 list0 k0) fun r => K (r, ()) ()⟩
noncomputable def c_spec_l14Of : Ctr := cb_spec_l14Of spec_l14Of
noncomputable def spec_IsClocks_loop0 (a0 : List TClock) (v0 : Int) (x0 : TClock) (v1 : Int) : Option ((Int × Unit) ⊕ ((Int × Unit) ⊕ Bool)) :=
  if v1 < v0 then
    (atI a0 v1).bind fun x1 =>
    if TClock.Name x1 = TClock.Name x0 then
      some (.inr (.inr Bool.false))
    else
      some (.inl (IntKind.i64.wrap (v1 + (1 : Int)), ()))
  else
    if TClock.Source x0 = (-1 : Int) then
      (spec_l14Primary x0).bind fun l14Primary0 =>
      if l14Primary0 = true then
        some (.inr (.inl (IntKind.i64.wrap (v0 + (1 : Int)), ())))
      else
        some (.inr (.inr Bool.false))
    else
      (spec_l01In (TClock.Source x0) (0 : Int) (IntKind.i64.wrap (v0 - (1 : Int)))).bind fun l01In0 =>
      if l01In0 = true then
        (spec_l01In (TClock.Divide x0) (1 : Int) (8 : Int)).bind fun l01In1 =>
        if l01In1 = true then
          if TClock.Period x0 = (0 : Int) then
            if TClock.RiseAt x0 = (0 : Int) then
              if TClock.FallAt x0 = (0 : Int) then
                (spec_l14Of a0 v0).bind fun l14Of0 =>
                if (100000 : Int) < Tl14Wave.period l14Of0 then
                  some (.inr (.inr Bool.false))
                else
                  some (.inr (.inl (IntKind.i64.wrap (v0 + (1 : Int)), ())))
              else
                some (.inr (.inr Bool.false))
            else
              some (.inr (.inr Bool.false))
          else
            some (.inr (.inr Bool.false))
        else
          some (.inr (.inr Bool.false))
      else
        some (.inr (.inr Bool.false))
noncomputable def spec_IsClocks_loop1 (a0 : List TClock) (v0 : Int) : Option ((Int × Unit) ⊕ Bool) :=
  if v0 < (↑(List.length a0) : Int) then
    if (↑(List.length a0) : Int) ≤ (6 : Int) then
      (atI a0 v0).bind fun x0 =>
      (spec_l14Plain x0).bind fun l14Plain0 =>
      if l14Plain0 = true then
        whileM (fun v => spec_IsClocks_loop0 a0 v0 x0 v.1) ((0 : Int), ())
      else
        some (.inr Bool.false)
    else
      some (.inr (Decidable.decide ((↑(List.length a0) : Int) ≤ (6 : Int))))
  else
    some (.inr (Decidable.decide ((↑(List.length a0) : Int) ≤ (6 : Int))))
noncomputable def spec_IsClocks (a0 : List TClock) : Option Bool :=
  whileM (fun v => spec_IsClocks_loop1 a0 v.1) ((0 : Int), ())
noncomputable def c_spec_IsClocks : Ctr := ⟨[.dat (.sl (tClock))], [.dat (.bool)], fun a K => splitK a fun a0 a => BindP (spec_IsClocks a0) fun r => K (r, ()) ()⟩
noncomputable def impl_within (x0 : Int) (low0 : Int) (high0 : Int) : Option Bool :=
  if low0 ≤ x0 then
    some (Decidable.decide (x0 ≤ high0))
  else
    some Bool.false
noncomputable def c_impl_within : Ctr := ⟨[.dat (.int .i64), .dat (.int .i64), .dat (.int .i64)], [.dat (.bool)], fun a K => splitK a fun x0 a => splitK a fun low0 a => splitK a fun high0 a => BindP (impl_within x0 low0 high0) fun r => K (r, ()) ()⟩
noncomputable def impl_Clock_isPrimary (c0 : TClock) : Option Bool :=
  (impl_within (TClock.Period c0) (2 : Int) (100000 : Int)).bind fun within0 =>
  if within0 = true then
    (impl_within (TClock.RiseAt c0) (0 : Int) (IntKind.i64.wrap (TClock.Period c0 - (1 : Int)))).bind fun within1 =>
    if within1 = true then
      (impl_within (TClock.FallAt c0) (0 : Int) (IntKind.i64.wrap (TClock.Period c0 - (1 : Int)))).bind fun within2 =>
      if within2 = true then
        if TClock.RiseAt c0 = TClock.FallAt c0 then
          some Bool.false
        else
          if TClock.Divide c0 = (1 : Int) then
            some (!TClock.Invert c0)
          else
            some Bool.false
      else
        some Bool.false
    else
      some Bool.false
  else
    some Bool.false
noncomputable def c_impl_Clock_isPrimary : Ctr := ⟨[.dat (tClock)], [.dat (.bool)], fun a K => splitK a fun c0 a => BindP (impl_Clock_isPrimary c0) fun r => K (r, ()) ()⟩
noncomputable def impl_waveOf_body (rec0 : (List TClock) → Int → Option Twave) (list0 : List TClock) (k0 : Int) : Option Twave :=
  (atI list0 k0).bind fun x0 =>
  if TClock.Source x0 < (0 : Int) then
    some (TClock.Period x0, (TClock.RiseAt x0, TClock.FallAt x0, ()), ())
  else
    (rec0 list0 (TClock.Source x0)).bind fun r0 =>
    if (1 : Int) < TClock.Divide x0 then
      if (TClock.Invert x0) = true then
        some (IntKind.i64.wrap (TClock.Divide x0 * Twave.period r0), (IntKind.i64.wrap ((Twave.edges r0).fst + IntKind.i64.wrap (IntKind.i64.wrap (Int.tdiv (TClock.Divide x0) (2 : Int)) * Twave.period r0)), (Twave.edges r0).fst, ()), ())
      else
        some (IntKind.i64.wrap (TClock.Divide x0 * Twave.period r0), ((Twave.edges r0).fst, IntKind.i64.wrap ((Twave.edges r0).fst + IntKind.i64.wrap (IntKind.i64.wrap (Int.tdiv (TClock.Divide x0) (2 : Int)) * Twave.period r0)), ()), ())
    else
      if (TClock.Invert x0) = true then
        some (Twave.period r0, ((Twave.edges r0).snd.fst, (Twave.edges r0).fst, ()), ())
      else
        some r0
noncomputable def impl_waveOf_n : Nat → (List TClock) → Int → Option Twave
  | 0 => fun _ _ => none
  | n + 1 => impl_waveOf_body (impl_waveOf_n n)
noncomputable def impl_waveOf (list0 : List TClock) (k0 : Int) : Option Twave := recM (fun n => impl_waveOf_n n list0 k0)
noncomputable def cb_impl_waveOf (rec0 : (List TClock) → Int → Option Twave) : Ctr := ⟨[.dat (.sl (tClock)), .dat (.int .i64)], [.dat (twave)], fun a K => splitK a fun list0 a => splitK a fun k0 a => BindP (rec0 list0 k0) fun r => K (r, ()) ()⟩
noncomputable def c_impl_waveOf : Ctr := cb_impl_waveOf impl_waveOf
noncomputable def impl_isClock (a0 : List TClock) (a1 : Int) : Option Bool :=
  (atI a0 a1).bind fun x0 =>
  if TClock.Place x0 < (0 : Int) then
    some Bool.false
  else
    if TClock.EarlyLatency x0 < (0 : Int) then
      some Bool.false
    else
      if TClock.LateLatency x0 < TClock.EarlyLatency x0 then
        some Bool.false
      else
        if (100000 : Int) < TClock.LateLatency x0 then
          some Bool.false
        else
          (impl_within (TClock.Uncertainty x0) (0 : Int) (100000 : Int)).bind fun within0 =>
          if within0 = true then
            if TClock.Source x0 = (-1 : Int) then
              (impl_Clock_isPrimary x0).bind fun isPrimary0 =>
              some isPrimary0
            else
              (impl_within (TClock.Source x0) (0 : Int) (IntKind.i64.wrap (a1 - (1 : Int)))).bind fun within1 =>
              if within1 = true then
                (impl_within (TClock.Divide x0) (1 : Int) (8 : Int)).bind fun within2 =>
                if within2 = true then
                  if TClock.Period x0 = (0 : Int) then
                    if TClock.RiseAt x0 = (0 : Int) then
                      if TClock.FallAt x0 = (0 : Int) then
                        (impl_waveOf a0 a1).bind fun waveOf0 =>
                        some (Decidable.decide (Twave.period waveOf0 ≤ (100000 : Int)))
                      else
                        some Bool.false
                    else
                      some Bool.false
                  else
                    some Bool.false
                else
                  some Bool.false
              else
                some Bool.false
          else
            some Bool.false
noncomputable def c_impl_isClock : Ctr := ⟨[.dat (.sl (tClock)), .dat (.int .i64)], [.dat (.bool)], fun a K => splitK a fun a0 a => splitK a fun a1 a => BindP (impl_isClock a0 a1) fun r => K (r, ()) ()⟩
noncomputable def impl_isName (s0 : List UInt8) : Option Bool :=
  (impl_within (↑(List.length s0) : Int) (1 : Int) (8 : Int)).bind fun within0 =>
  if within0 = true then
    guardO (List.length s0 ≤ (1000000 : Nat)) <|
    if Go.Lib.trimS s0 [(97 : UInt8), (98 : UInt8), (99 : UInt8), (100 : UInt8), (101 : UInt8), (102 : UInt8), (103 : UInt8), (104 : UInt8), (105 : UInt8), (106 : UInt8), (107 : UInt8), (108 : UInt8), (109 : UInt8), (110 : UInt8), (111 : UInt8), (112 : UInt8), (113 : UInt8), (114 : UInt8), (115 : UInt8), (116 : UInt8), (117 : UInt8), (118 : UInt8), (119 : UInt8), (120 : UInt8), (121 : UInt8), (122 : UInt8), (48 : UInt8), (49 : UInt8), (50 : UInt8), (51 : UInt8), (52 : UInt8), (53 : UInt8), (54 : UInt8), (55 : UInt8), (56 : UInt8), (57 : UInt8)] = ([] : List UInt8) then
      (atI s0 (0 : Int)).bind fun x0 =>
      some (Decidable.decide ((0 : Int) ≤ Go.Lib.indexByte [(97 : UInt8), (98 : UInt8), (99 : UInt8), (100 : UInt8), (101 : UInt8), (102 : UInt8), (103 : UInt8), (104 : UInt8), (105 : UInt8), (106 : UInt8), (107 : UInt8), (108 : UInt8), (109 : UInt8), (110 : UInt8), (111 : UInt8), (112 : UInt8), (113 : UInt8), (114 : UInt8), (115 : UInt8), (116 : UInt8), (117 : UInt8), (118 : UInt8), (119 : UInt8), (120 : UInt8), (121 : UInt8), (122 : UInt8)] (Nat.toUInt8 (Int.toNat (↑(UInt8.toNat x0) : Int)))))
    else
      some Bool.false
  else
    some Bool.false
noncomputable def c_impl_isName : Ctr := ⟨[.dat (.str)], [.dat (.bool)], fun a K => splitK a fun s0 a => BindP (impl_isName s0) fun r => K (r, ()) ()⟩
noncomputable def slices_Index_Sstring_string_loop0 (s0 : List (List UInt8)) (v0 : List UInt8) (v1 : Int) : Option ((Int × Unit) ⊕ Int) :=
  if v1 < (↑(List.length s0) : Int) then
    (atI s0 v1).bind fun x0 =>
    if v0 = x0 then
      some (.inr v1)
    else
      some (.inl (IntKind.i64.wrap (v1 + (1 : Int)), ()))
  else
    some (.inr (-1 : Int))
noncomputable def slices_Index_Sstring_string (s0 : List (List UInt8)) (v0 : List UInt8) : Option Int :=
  whileM (fun v => slices_Index_Sstring_string_loop0 s0 v0 v.1) ((0 : Int), ())
noncomputable def c_slices_Index_Sstring_string : Ctr := ⟨[.dat (.sl (.str)), .dat (.str)], [.dat (.int .i64)], fun a K => splitK a fun s0 a => splitK a fun v0 a => BindP (slices_Index_Sstring_string s0 v0) fun r => K (r, ()) ()⟩
noncomputable def slices_Contains_Sstring_string (s0 : List (List UInt8)) (v0 : List UInt8) : Option Bool :=
  (slices_Index_Sstring_string s0 v0).bind fun string0 =>
  some (Decidable.decide ((0 : Int) ≤ string0))
noncomputable def c_slices_Contains_Sstring_string : Ctr := ⟨[.dat (.sl (.str)), .dat (.str)], [.dat (.bool)], fun a K => splitK a fun s0 a => splitK a fun v0 a => BindP (slices_Contains_Sstring_string s0 v0) fun r => K (r, ()) ()⟩
noncomputable def impl_areNames_loop0 (list0 : List (List UInt8)) (v0 : Int) : Option ((Int × Unit) ⊕ Bool) :=
  if v0 < (↑(List.length list0) : Int) then
    (atI list0 v0).bind fun x0 =>
    (impl_isName x0).bind fun isName0 =>
    if isName0 = true then
      guardO ((0 : Int) ≤ v0) <|
      guardO (v0 ≤ (↑(List.length list0) : Int)) <|
      (slices_Contains_Sstring_string (List.take (Int.toNat v0 - Int.toNat (0 : Int)) (List.drop (Int.toNat (0 : Int)) list0)) x0).bind fun string0 =>
      if string0 = true then
        some (.inr Bool.false)
      else
        some (.inl (IntKind.i64.wrap (v0 + (1 : Int)), ()))
    else
      some (.inr Bool.false)
  else
    some (.inr Bool.true)
noncomputable def impl_areNames (list0 : List (List UInt8)) : Option Bool :=
  whileM (fun v => impl_areNames_loop0 list0 v.1) ((0 : Int), ())
noncomputable def c_impl_areNames : Ctr := ⟨[.dat (.sl (.str))], [.dat (.bool)], fun a K => splitK a fun list0 a => BindP (impl_areNames list0) fun r => K (r, ()) ()⟩
noncomputable def impl_IsClocks_loop0 (list0 : List TClock) (names0 : List (List UInt8)) (v0 : Int) : Option (((List (List UInt8)) × Int × Unit) ⊕ Bool) :=
  if v0 < (↑(List.length list0) : Int) then
    (atI list0 v0).bind fun x0 =>
    (impl_isClock list0 v0).bind fun isClock0 =>
    if isClock0 = true then
      guardO ((List.length names0 + List.length [TClock.Name x0]) * (16 : Nat) ≤ (140737488355328 : Nat)) <|
      some (.inl (names0 ++ [TClock.Name x0], IntKind.i64.wrap (v0 + (1 : Int)), ()))
    else
      some (.inr Bool.false)
  else
    (impl_areNames names0).bind fun areNames0 =>
    some (.inr areNames0)
noncomputable def impl_IsClocks (list0 : List TClock) : Option Bool :=
  if (6 : Int) < (↑(List.length list0) : Int) then
    some Bool.false
  else
    whileM (fun v => impl_IsClocks_loop0 list0 v.1 v.2.1) (([] : List (List UInt8)), (0 : Int), ())
noncomputable def c_impl_IsClocks : Ctr := ⟨[.dat (.sl (tClock))], [.dat (.bool)], fun a K => splitK a fun list0 a => BindP (impl_IsClocks list0) fun r => K (r, ()) ()⟩
noncomputable def impl_length_impl_Clock (list0 : List TClock) : Option Int :=
  some (↑(List.length list0) : Int)
noncomputable def c_impl_length_impl_Clock : Ctr := ⟨[.dat (.sl (tClock))], [.dat (.int .i64)], fun a K => splitK a fun list0 a => BindP (impl_length_impl_Clock list0) fun r => K (r, ()) ()⟩
noncomputable def impl_areWithin_c1 (n0 : Int) (a0 : Int) (a1 : Int) : Option Bool :=
  (impl_within n0 a0 a1).bind fun within0 =>
  some !within0
noncomputable def c_impl_areWithin_c1 : Ctr := ⟨[.dat (.int .i64), .dat (.ptr (.int .i64)), .dat (.ptr (.int .i64))], [.dat (.bool)], fun a K => splitK a fun n0 a => splitK a fun a0 a => splitK a fun a1 a => BindP (impl_areWithin_c1 n0 a0 a1) fun r => K (r, ()) ()⟩
noncomputable def slices_IndexFunc_Sint64_int64_at_impl_areWithin_c1_loop0 (s0 : List Int) (f0 : Int × Int × Unit) (v0 : Int) : Option ((Int × Unit) ⊕ Int) :=
  if v0 < (↑(List.length s0) : Int) then
    (atI s0 v0).bind fun x0 =>
    (impl_areWithin_c1 x0 f0.fst f0.snd.fst).bind fun c1_0 =>
    if c1_0 = true then
      some (.inr v0)
    else
      some (.inl (IntKind.i64.wrap (v0 + (1 : Int)), ()))
  else
    some (.inr (-1 : Int))
noncomputable def slices_IndexFunc_Sint64_int64_at_impl_areWithin_c1 (s0 : List Int) (f0 : Int × Int × Unit) : Option Int :=
  whileM (fun v => slices_IndexFunc_Sint64_int64_at_impl_areWithin_c1_loop0 s0 f0 v.1) ((0 : Int), ())
noncomputable def c_slices_IndexFunc_Sint64_int64_at_impl_areWithin_c1 : Ctr := ⟨[.dat (.sl (.int .i64)), .dat (.fn 73 (.pair (.ptr (.int .i64)) (.pair (.ptr (.int .i64)) (.unit))))], [.dat (.int .i64)], fun a K => splitK a fun s0 a => splitK a fun f0 a => BindP (slices_IndexFunc_Sint64_int64_at_impl_areWithin_c1 s0 f0) fun r => K (r, ()) ()⟩
noncomputable def slices_ContainsFunc_Sint64_int64_at_impl_areWithin_c1 (s0 : List Int) (f0 : Int × Int × Unit) : Option Bool :=
  (slices_IndexFunc_Sint64_int64_at_impl_areWithin_c1 s0 f0).bind fun c1_0 =>
  some (Decidable.decide ((0 : Int) ≤ c1_0))
noncomputable def c_slices_ContainsFunc_Sint64_int64_at_impl_areWithin_c1 : Ctr := ⟨[.dat (.sl (.int .i64)), .dat (.fn 73 (.pair (.ptr (.int .i64)) (.pair (.ptr (.int .i64)) (.unit))))], [.dat (.bool)], fun a K => splitK a fun s0 a => splitK a fun f0 a => BindP (slices_ContainsFunc_Sint64_int64_at_impl_areWithin_c1 s0 f0) fun r => K (r, ()) ()⟩
noncomputable def impl_areWithin (list0 : List Int) (low0 : Int) (high0 : Int) : Option Bool :=
  (slices_ContainsFunc_Sint64_int64_at_impl_areWithin_c1 list0 (low0, high0, ())).bind fun c1_0 =>
  some !c1_0
noncomputable def c_impl_areWithin : Ctr := ⟨[.dat (.sl (.int .i64)), .dat (.int .i64), .dat (.int .i64)], [.dat (.bool)], fun a K => splitK a fun list0 a => splitK a fun low0 a => splitK a fun high0 a => BindP (impl_areWithin list0 low0 high0) fun r => K (r, ()) ()⟩
noncomputable def impl_clockCode (list0 : List TClock) (clocks0 : List Int) : Option Int :=
  (impl_IsClocks list0).bind fun IsClocks0 =>
  if IsClocks0 = true then
    (impl_length_impl_Clock list0).bind fun Clock0 =>
    (impl_areWithin clocks0 (0 : Int) (IntKind.i64.wrap (Clock0 - (1 : Int)))).bind fun areWithin0 =>
    if areWithin0 = true then
      some (0 : Int)
    else
      some (4 : Int)
  else
    some (1 : Int)
noncomputable def c_impl_clockCode : Ctr := ⟨[.dat (.sl (tClock)), .dat (.sl (.int .i64))], [.dat (.int .i64)], fun a K => splitK a fun list0 a => splitK a fun clocks0 a => BindP (impl_clockCode list0 clocks0) fun r => K (r, ()) ()⟩
noncomputable def impl_isTransition (n0 : Int) : Option Bool :=
  if n0 = (0 : Int) then
    some Bool.true
  else
    some (Decidable.decide (n0 = (1 : Int)))
noncomputable def c_impl_isTransition : Ctr := ⟨[.dat (.int .i64)], [.dat (.bool)], fun a K => splitK a fun n0 a => BindP (impl_isTransition n0) fun r => K (r, ()) ()⟩
noncomputable def impl_rootOf_loop0 (list0 : List TClock) (k1 : Int) : Option ((Int × Unit) ⊕ Int) :=
  (atI list0 k1).bind fun x0 =>
  if (0 : Int) ≤ TClock.Source x0 then
    some (.inl (TClock.Source x0, ()))
  else
    some (.inr k1)
noncomputable def impl_rootOf (list0 : List TClock) (k0 : Int) : Option Int :=
  whileM (fun v => impl_rootOf_loop0 list0 v.1) (k0, ())
noncomputable def c_impl_rootOf : Ctr := ⟨[.dat (.sl (tClock)), .dat (.int .i64)], [.dat (.int .i64)], fun a K => splitK a fun list0 a => splitK a fun k0 a => BindP (impl_rootOf list0 k0) fun r => K (r, ()) ()⟩
noncomputable def impl_gcd_loop0 (a1 : Int) (b1 : Int) : Option ((Int × Int × Unit) ⊕ Int) :=
  if b1 = (0 : Int) then
    some (.inr a1)
  else
    guardO (b1 ≠ (0 : Int)) <|
    some (.inl (b1, Int.tmod a1 b1, ()))
noncomputable def impl_gcd (a0 : Int) (b0 : Int) : Option Int :=
  whileM (fun v => impl_gcd_loop0 v.1 v.2.1) (a0, b0, ())
noncomputable def c_impl_gcd : Ctr := ⟨[.dat (.int .i64), .dat (.int .i64)], [.dat (.int .i64)], fun a K => splitK a fun a0 a => splitK a fun b0 a => BindP (impl_gcd a0 b0) fun r => K (r, ()) ()⟩
noncomputable def impl_hyperPeriod (list0 : List TClock) (a0 : Int) (b0 : Int) : Option Int :=
  (impl_waveOf list0 a0).bind fun waveOf0 =>
  (impl_waveOf list0 b0).bind fun waveOf1 =>
  (impl_gcd (Twave.period waveOf0) (Twave.period waveOf1)).bind fun gcd0 =>
  guardO (gcd0 ≠ (0 : Int)) <|
  some (IntKind.i64.wrap (IntKind.i64.wrap (Int.tdiv (Twave.period waveOf0) gcd0) * Twave.period waveOf1))
noncomputable def c_impl_hyperPeriod : Ctr := ⟨[.dat (.sl (tClock)), .dat (.int .i64), .dat (.int .i64)], [.dat (.int .i64)], fun a K => splitK a fun list0 a => splitK a fun a0 a => splitK a fun b0 a => BindP (impl_hyperPeriod list0 a0 b0) fun r => K (r, ()) ()⟩
noncomputable def impl_edgesOf (a0 : List TClock) (a1 : Int) (a2 : Int) (a3 : Int) (a4 : Int) : Option (Tedges × Int) :=
  (impl_clockCode a0 [a1, a3]).bind fun clockCode0 =>
  if clockCode0 = (0 : Int) then
    (impl_isTransition a2).bind fun isTransition0 =>
    if isTransition0 = true then
      (impl_isTransition a4).bind fun isTransition1 =>
      if isTransition1 = true then
        (impl_rootOf a0 a1).bind fun rootOf0 =>
        (impl_rootOf a0 a3).bind fun rootOf1 =>
        if rootOf0 = rootOf1 then
          (impl_waveOf a0 a1).bind fun waveOf0 =>
          (impl_waveOf a0 a3).bind fun waveOf1 =>
          (impl_hyperPeriod a0 a1 a3).bind fun hyperPeriod0 =>
          if (100000000 : Int) < hyperPeriod0 then
            some ((((0 : Int), ((0 : Int), (0 : Int), ()), ()), ((0 : Int), ((0 : Int), (0 : Int), ()), ()), (0 : Int), (0 : Int), (0 : Int), ()), (3 : Int))
          else
            guardO (Twave.period waveOf0 ≠ (0 : Int)) <|
            if (200 : Int) < IntKind.i64.wrap (Int.tdiv hyperPeriod0 (Twave.period waveOf0)) then
              some ((((0 : Int), ((0 : Int), (0 : Int), ()), ()), ((0 : Int), ((0 : Int), (0 : Int), ()), ()), (0 : Int), (0 : Int), (0 : Int), ()), (3 : Int))
            else
              some ((waveOf0, waveOf1, a2, a4, hyperPeriod0, ()), (0 : Int))
        else
          some ((((0 : Int), ((0 : Int), (0 : Int), ()), ()), ((0 : Int), ((0 : Int), (0 : Int), ()), ()), (0 : Int), (0 : Int), (0 : Int), ()), (5 : Int))
      else
        some ((((0 : Int), ((0 : Int), (0 : Int), ()), ()), ((0 : Int), ((0 : Int), (0 : Int), ()), ()), (0 : Int), (0 : Int), (0 : Int), ()), (2 : Int))
    else
      some ((((0 : Int), ((0 : Int), (0 : Int), ()), ()), ((0 : Int), ((0 : Int), (0 : Int), ()), ()), (0 : Int), (0 : Int), (0 : Int), ()), (2 : Int))
  else
    some ((((0 : Int), ((0 : Int), (0 : Int), ()), ()), ((0 : Int), ((0 : Int), (0 : Int), ()), ()), (0 : Int), (0 : Int), (0 : Int), ()), clockCode0)
noncomputable def c_impl_edgesOf : Ctr := ⟨[.dat (.sl (tClock)), .dat (.int .i64), .dat (.int .i64), .dat (.int .i64), .dat (.int .i64)], [.dat (tedges), .dat (.int .i64)], fun a K => splitK a fun a0 a => splitK a fun a1 a => splitK a fun a2 a => splitK a fun a3 a => splitK a fun a4 a => BindP (impl_edgesOf a0 a1 a2 a3 a4) fun r => K (r.1, r.2, ()) ()⟩
noncomputable def impl_modulo (a0 : Int) (b0 : Int) : Option Int :=
  guardO (b0 ≠ (0 : Int)) <|
  some (Int.tmod (IntKind.i64.wrap (Int.tmod a0 b0 + b0)) b0)
noncomputable def c_impl_modulo : Ctr := ⟨[.dat (.int .i64), .dat (.int .i64)], [.dat (.int .i64)], fun a K => splitK a fun a0 a => splitK a fun b0 a => BindP (impl_modulo a0 b0) fun r => K (r, ()) ()⟩
noncomputable def impl_wave_next (w0 : Twave) (edge0 : Int) (time0 : Int) : Option Int :=
  guardO ((0 : Int) ≤ edge0) <|
  guardO (edge0 < (↑(2 : Nat) : Int)) <|
  if edge0 = (0 : Int) then
    (impl_modulo (IntKind.i64.wrap ((Twave.edges w0).fst - time0)) (Twave.period w0)).bind fun modulo0 =>
    some (IntKind.i64.wrap (time0 + modulo0))
  else
    if edge0 = (1 : Int) then
      (impl_modulo (IntKind.i64.wrap ((Twave.edges w0).snd.fst - time0)) (Twave.period w0)).bind fun modulo0 =>
      some (IntKind.i64.wrap (time0 + modulo0))
    else
      none
noncomputable def c_impl_wave_next : Ctr := ⟨[.dat (twave), .dat (.int .i64), .dat (.int .i64)], [.dat (.int .i64)], fun a K => splitK a fun w0 a => splitK a fun edge0 a => splitK a fun time0 a => BindP (impl_wave_next w0 edge0 time0) fun r => K (r, ()) ()⟩
noncomputable def impl_edges_pairs_loop0 (x0 : Tedges) (list0 : List (List Int)) (l0 : Int) : Option (((List (List Int)) × Int × Unit) ⊕ List (List Int)) :=
  if l0 < Tedges.hyper x0 then
    (impl_wave_next (Tedges.to x0) (Tedges.eb x0) (IntKind.i64.wrap (l0 + (1 : Int)))).bind fun next0 =>
    guardO ((List.length list0 + List.length [[l0, next0]]) * (24 : Nat) ≤ (140737488355328 : Nat)) <|
    some (.inl (list0 ++ [[l0, next0]], IntKind.i64.wrap (l0 + Twave.period (Tedges.from x0)), ()))
  else
    some (.inr list0)
noncomputable def impl_edges_pairs (x0 : Tedges) : Option (List (List Int)) :=
  guardO ((0 : Int) ≤ Tedges.ea x0) <|
  guardO (Tedges.ea x0 < (↑(2 : Nat) : Int)) <|
  if Tedges.ea x0 = (0 : Int) then
    whileM (fun v => impl_edges_pairs_loop0 x0 v.1 v.2.1) (([] : List (List Int)), (Twave.edges (Tedges.from x0)).fst, ())
  else
    if Tedges.ea x0 = (1 : Int) then
      whileM (fun v => impl_edges_pairs_loop0 x0 v.1 v.2.1) (([] : List (List Int)), (Twave.edges (Tedges.from x0)).snd.fst, ())
    else
      none
noncomputable def c_impl_edges_pairs : Ctr := ⟨[.dat (tedges)], [.own 94 (.sl (.int .i64))], fun a K => splitK a fun x0 a => BindP (impl_edges_pairs x0) fun r => K (r, ()) ()⟩
noncomputable def impl_edges_setup_loop0 (pairs0 : List (List Int)) (least0 : Int) (v0 : Int) : Option ((Int × Int × Unit) ⊕ Int) :=
  if v0 < (↑(List.length pairs0) : Int) then
    (atI pairs0 v0).bind fun x1 =>
    (atI x1 (1 : Int)).bind fun x2 =>
    (atI x1 (0 : Int)).bind fun x3 =>
    some (.inl (Min.min least0 (IntKind.i64.wrap (x2 - x3)), IntKind.i64.wrap (v0 + (1 : Int)), ()))
  else
    some (.inr least0)
noncomputable def impl_edges_setup (x0 : Tedges) : Option Int :=
  (impl_edges_pairs x0).bind fun pairs0 =>
  whileM (fun v => impl_edges_setup_loop0 pairs0 v.1 v.2.1) (Twave.period (Tedges.to x0), (0 : Int), ())
noncomputable def c_impl_edges_setup : Ctr := ⟨[.dat (tedges)], [.dat (.int .i64)], fun a K => splitK a fun x0 a => BindP (impl_edges_setup x0) fun r => K (r, ()) ()⟩
noncomputable def impl_edges_hold_loop0 (x0 : Tedges) (pairs0 : List (List Int)) (most0 : Int) (v0 : Int) : Option ((Int × Int × Unit) ⊕ Int) :=
  if v0 < (↑(List.length pairs0) : Int) then
    (atI pairs0 v0).bind fun x1 =>
    (atI x1 (1 : Int)).bind fun x2 =>
    (atI x1 (0 : Int)).bind fun x3 =>
    some (.inl (Max.max most0 (IntKind.i64.wrap (IntKind.i64.wrap (x2 - x3) - Min.min (Twave.period (Tedges.to x0)) (Twave.period (Tedges.from x0)))), IntKind.i64.wrap (v0 + (1 : Int)), ()))
  else
    some (.inr most0)
noncomputable def impl_edges_hold (x0 : Tedges) : Option Int :=
  (impl_edges_pairs x0).bind fun pairs0 =>
  whileM (fun v => impl_edges_hold_loop0 x0 pairs0 v.1 v.2.1) (IntKind.i64.wrap (IntKind.i64.wrap ((0 : Int) - Twave.period (Tedges.to x0)) - Twave.period (Tedges.from x0)), (0 : Int), ())
noncomputable def c_impl_edges_hold : Ctr := ⟨[.dat (tedges)], [.dat (.int .i64)], fun a K => splitK a fun x0 a => BindP (impl_edges_hold x0) fun r => K (r, ()) ()⟩
noncomputable def impl_RelationOf (s0 : TSetup) (from0 : Int) (to0 : Int) : Option (TRelation × Int) :=
  (impl_edgesOf (TSetup.Clocks s0) from0 (0 : Int) to0 (0 : Int)).bind fun edgesOf0 =>
  if edgesOf0.snd = (0 : Int) then
    (atI (TSetup.Clocks s0) from0).bind fun x0 =>
    (atI (TSetup.Clocks s0) to0).bind fun x1 =>
    (impl_edges_setup edgesOf0.fst).bind fun setup0 =>
    (impl_edges_hold edgesOf0.fst).bind fun hold0 =>
    some ((setup0, hold0, Max.max (TClock.Uncertainty x0) (TClock.Uncertainty x1), ()), (0 : Int))
  else
    some (((0 : Int), (0 : Int), (0 : Int), ()), edgesOf0.snd)
noncomputable def c_impl_RelationOf : Ctr := ⟨[.dat (tSetup), .dat (.int .i64), .dat (.int .i64)], [.dat (tRelation), .dat (.int .i64)], fun a K => splitK a fun s0 a => splitK a fun from0 a => splitK a fun to0 a => BindP (impl_RelationOf s0 from0 to0) fun r => K (r.1, r.2, ()) ()⟩
noncomputable def spec_l14Root_loop0 (list0 : List TClock) (k1 : Int) : Option ((Int × Unit) ⊕ Int) :=
  (atI list0 k1).bind fun x0 =>
  if (0 : Int) ≤ TClock.Source x0 then
    some (.inl (TClock.Source x0, ()))
  else
    some (.inr k1)
noncomputable def spec_l14Root (list0 : List TClock) (k0 : Int) : Option Int :=
  whileM (fun v => spec_l14Root_loop0 list0 v.1) (k0, ())
noncomputable def c_spec_l14Root : Ctr := ⟨[.dat (.sl (tClock)), .dat (.int .i64)], [.dat (.int .i64)], fun a K => splitK a fun list0 a => splitK a fun k0 a => BindP (spec_l14Root list0 k0) fun r => K (r, ()) ()⟩
noncomputable def spec_l14Gcd_loop0 (a1 : Int) (b1 : Int) : Option ((Int × Int × Unit) ⊕ Int) :=
  if (0 : Int) < b1 then
    guardO (b1 ≠ (0 : Int)) <|
    some (.inl (b1, Int.tmod a1 b1, ()))
  else
    some (.inr a1)
noncomputable def spec_l14Gcd (a0 : Int) (b0 : Int) : Option Int :=
  whileM (fun v => spec_l14Gcd_loop0 v.1 v.2.1) (a0, b0, ())
noncomputable def c_spec_l14Gcd : Ctr := ⟨[.dat (.int .i64), .dat (.int .i64)], [.dat (.int .i64)], fun a K => splitK a fun a0 a => splitK a fun b0 a => BindP (spec_l14Gcd a0 b0) fun r => K (r, ()) ()⟩
noncomputable def spec_l14Hyper (list0 : List TClock) (a0 : Int) (b0 : Int) : Option Int :=
  (spec_l14Of list0 a0).bind fun l14Of0 =>
  (spec_l14Of list0 b0).bind fun l14Of1 =>
  (spec_l14Gcd (Tl14Wave.period l14Of0) (Tl14Wave.period l14Of1)).bind fun l14Gcd0 =>
  guardO (l14Gcd0 ≠ (0 : Int)) <|
  some (IntKind.i64.wrap (IntKind.i64.wrap (Int.tdiv (Tl14Wave.period l14Of0) l14Gcd0) * Tl14Wave.period l14Of1))
noncomputable def c_spec_l14Hyper : Ctr := ⟨[.dat (.sl (tClock)), .dat (.int .i64), .dat (.int .i64)], [.dat (.int .i64)], fun a K => splitK a fun list0 a => splitK a fun a0 a => splitK a fun b0 a => BindP (spec_l14Hyper list0 a0 b0) fun r => K (r, ()) ()⟩
noncomputable def spec_l15Code (list0 : List TClock) (a0 : Int) (ea0 : Int) (b0 : Int) (eb0 : Int) : Option Int :=
  (spec_IsClocks list0).bind fun IsClocks0 =>
  if IsClocks0 = true then
    (spec_l01In a0 (0 : Int) (IntKind.i64.wrap ((↑(List.length list0) : Int) - (1 : Int)))).bind fun l01In0 =>
    if l01In0 = true then
      (spec_l01In b0 (0 : Int) (IntKind.i64.wrap ((↑(List.length list0) : Int) - (1 : Int)))).bind fun l01In1 =>
      if l01In1 = true then
        (spec_l01In ea0 (0 : Int) (1 : Int)).bind fun l01In2 =>
        if l01In2 = true then
          (spec_l01In eb0 (0 : Int) (1 : Int)).bind fun l01In3 =>
          if l01In3 = true then
            (spec_l14Root list0 a0).bind fun l14Root0 =>
            (spec_l14Root list0 b0).bind fun l14Root1 =>
            if l14Root0 = l14Root1 then
              (spec_l14Hyper list0 a0 b0).bind fun l14Hyper0 =>
              if (100000000 : Int) < l14Hyper0 then
                some (3 : Int)
              else
                (spec_l14Of list0 a0).bind fun l14Of0 =>
                guardO (Tl14Wave.period l14Of0 ≠ (0 : Int)) <|
                if (200 : Int) < IntKind.i64.wrap (Int.tdiv l14Hyper0 (Tl14Wave.period l14Of0)) then
                  some (3 : Int)
                else
                  some (0 : Int)
            else
              some (5 : Int)
          else
            some (2 : Int)
        else
          some (2 : Int)
      else
        some (4 : Int)
    else
      some (4 : Int)
  else
    some (1 : Int)
noncomputable def c_spec_l15Code : Ctr := ⟨[.dat (.sl (tClock)), .dat (.int .i64), .dat (.int .i64), .dat (.int .i64), .dat (.int .i64)], [.dat (.int .i64)], fun a K => splitK a fun list0 a => splitK a fun a0 a => splitK a fun ea0 a => splitK a fun b0 a => splitK a fun eb0 a => BindP (spec_l15Code list0 a0 ea0 b0 eb0) fun r => K (r, ()) ()⟩
noncomputable def spec_l14Edge (w0 : Tl14Wave) (edge0 : Int) : Option Int :=
  if edge0 = (0 : Int) then
    some (Tl14Wave.rise w0)
  else
    some (Tl14Wave.fall w0)
noncomputable def c_spec_l14Edge : Ctr := ⟨[.dat (tl14Wave), .dat (.int .i64)], [.dat (.int .i64)], fun a K => splitK a fun w0 a => splitK a fun edge0 a => BindP (spec_l14Edge w0 edge0) fun r => K (r, ()) ()⟩
noncomputable def spec_l14After (w0 : Tl14Wave) (edge0 : Int) (time0 : Int) : Option Int :=
  (spec_l14Edge w0 edge0).bind fun l14Edge0 =>
  guardO (Tl14Wave.period w0 ≠ (0 : Int)) <|
  some (IntKind.i64.wrap (time0 + Int.tmod (IntKind.i64.wrap (Int.tmod (IntKind.i64.wrap (l14Edge0 - time0)) (Tl14Wave.period w0) + Tl14Wave.period w0)) (Tl14Wave.period w0)))
noncomputable def c_spec_l14After : Ctr := ⟨[.dat (tl14Wave), .dat (.int .i64), .dat (.int .i64)], [.dat (.int .i64)], fun a K => splitK a fun w0 a => splitK a fun edge0 a => splitK a fun time0 a => BindP (spec_l14After w0 edge0 time0) fun r => K (r, ()) ()⟩
noncomputable def spec_l15Pairs_loop0 (eb0 : Int) (l14Hyper0 : Int) (l14Of0 : Tl14Wave) (l14Of1 : Tl14Wave) (out0 : List (List Int)) (at0 : Int) : Option (((List (List Int)) × Int × Unit) ⊕ List (List Int)) :=
  if at0 < l14Hyper0 then
    (spec_l14After l14Of1 eb0 (IntKind.i64.wrap (at0 + (1 : Int)))).bind fun l14After1 =>
    guardO ((List.length out0 + List.length [[at0, l14After1]]) * (24 : Nat) ≤ (140737488355328 : Nat)) <|
    some (.inl (out0 ++ [[at0, l14After1]], IntKind.i64.wrap (at0 + Tl14Wave.period l14Of0), ()))
  else
    some (.inr out0)
noncomputable def spec_l15Pairs (list0 : List TClock) (a0 : Int) (ea0 : Int) (b0 : Int) (eb0 : Int) : Option (List (List Int)) :=
  (spec_l14Hyper list0 a0 b0).bind fun l14Hyper0 =>
  (spec_l14Of list0 a0).bind fun l14Of0 =>
  (spec_l14Of list0 b0).bind fun l14Of1 =>
  (spec_l14After l14Of0 ea0 (0 : Int)).bind fun l14After0 =>
  whileM (fun v => spec_l15Pairs_loop0 eb0 l14Hyper0 l14Of0 l14Of1 v.1 v.2.1) (([] : List (List Int)), l14After0, ())
noncomputable def c_spec_l15Pairs : Ctr := ⟨[.dat (.sl (tClock)), .dat (.int .i64), .dat (.int .i64), .dat (.int .i64), .dat (.int .i64)], [.own 94 (.sl (.int .i64))], fun a K => splitK a fun list0 a => splitK a fun a0 a => splitK a fun ea0 a => splitK a fun b0 a => splitK a fun eb0 a => BindP (spec_l15Pairs list0 a0 ea0 b0 eb0) fun r => K (r, ()) ()⟩
noncomputable def spec_SetupSeparation_loop0 (l15Pairs0 : List (List Int)) (best0 : Int) (i0 : Int) : Option ((Int × Int × Unit) ⊕ (Int × Int)) :=
  if i0 < (↑(List.length l15Pairs0) : Int) then
    (atI l15Pairs0 i0).bind fun x3 =>
    (atI x3 (1 : Int)).bind fun x4 =>
    (atI x3 (0 : Int)).bind fun x5 =>
    some (.inl (Min.min best0 (IntKind.i64.wrap (x4 - x5)), IntKind.i64.wrap (i0 + (1 : Int)), ()))
  else
    some (.inr (best0, (0 : Int)))
noncomputable def spec_SetupSeparation (list0 : List TClock) (a0 : Int) (ea0 : Int) (b0 : Int) (eb0 : Int) : Option (Int × Int) :=
  (spec_l15Code list0 a0 ea0 b0 eb0).bind fun l15Code0 =>
  if l15Code0 = (0 : Int) then
    (spec_l15Pairs list0 a0 ea0 b0 eb0).bind fun l15Pairs0 =>
    (atI l15Pairs0 (0 : Int)).bind fun x0 =>
    (atI x0 (1 : Int)).bind fun x1 =>
    (atI x0 (0 : Int)).bind fun x2 =>
    whileM (fun v => spec_SetupSeparation_loop0 l15Pairs0 v.1 v.2.1) (IntKind.i64.wrap (x1 - x2), (0 : Int), ())
  else
    some ((0 : Int), l15Code0)
noncomputable def c_spec_SetupSeparation : Ctr := ⟨[.dat (.sl (tClock)), .dat (.int .i64), .dat (.int .i64), .dat (.int .i64), .dat (.int .i64)], [.dat (.int .i64), .dat (.int .i64)], fun a K => splitK a fun list0 a => splitK a fun a0 a => splitK a fun ea0 a => splitK a fun b0 a => splitK a fun eb0 a => BindP (spec_SetupSeparation list0 a0 ea0 b0 eb0) fun r => K (r.1, r.2, ()) ()⟩
noncomputable def spec_HoldSeparation_loop0 (l15Pairs0 : List (List Int)) (l14Of0 : Tl14Wave) (l14Of1 : Tl14Wave) (v0 : Int) (v1 : Int) : Option ((Int × Int × Unit) ⊕ (Int × Int)) :=
  if v1 < (↑(List.length l15Pairs0) : Int) then
    (atI l15Pairs0 v1).bind fun x3 =>
    (atI x3 (1 : Int)).bind fun x4 =>
    (atI x3 (0 : Int)).bind fun x5 =>
    some (.inl (Max.max v0 (IntKind.i64.wrap (IntKind.i64.wrap (x4 - x5) - Min.min (Tl14Wave.period l14Of0) (Tl14Wave.period l14Of1))), IntKind.i64.wrap (v1 + (1 : Int)), ()))
  else
    some (.inr (v0, (0 : Int)))
noncomputable def spec_HoldSeparation (a0 : List TClock) (a1 : Int) (a2 : Int) (a3 : Int) (a4 : Int) : Option (Int × Int) :=
  (spec_l15Code a0 a1 a2 a3 a4).bind fun l15Code0 =>
  if l15Code0 = (0 : Int) then
    (spec_l15Pairs a0 a1 a2 a3 a4).bind fun l15Pairs0 =>
    (spec_l14Of a0 a1).bind fun l14Of0 =>
    (spec_l14Of a0 a3).bind fun l14Of1 =>
    (atI l15Pairs0 (0 : Int)).bind fun x0 =>
    (atI x0 (1 : Int)).bind fun x1 =>
    (atI x0 (0 : Int)).bind fun x2 =>
    whileM (fun v => spec_HoldSeparation_loop0 l15Pairs0 l14Of0 l14Of1 v.1 v.2.1) (IntKind.i64.wrap (IntKind.i64.wrap (x1 - x2) - Min.min (Tl14Wave.period l14Of0) (Tl14Wave.period l14Of1)), (0 : Int), ())
  else
    some ((0 : Int), l15Code0)
noncomputable def c_spec_HoldSeparation : Ctr := ⟨[.dat (.sl (tClock)), .dat (.int .i64), .dat (.int .i64), .dat (.int .i64), .dat (.int .i64)], [.dat (.int .i64), .dat (.int .i64)], fun a K => splitK a fun a0 a => splitK a fun a1 a => splitK a fun a2 a => splitK a fun a3 a => splitK a fun a4 a => BindP (spec_HoldSeparation a0 a1 a2 a3 a4) fun r => K (r.1, r.2, ()) ()⟩
noncomputable def spec_l14Code (list0 : List TClock) (k0 : Int) : Option Int :=
  (spec_IsClocks list0).bind fun IsClocks0 =>
  if IsClocks0 = true then
    (spec_l01In k0 (0 : Int) (IntKind.i64.wrap ((↑(List.length list0) : Int) - (1 : Int)))).bind fun l01In0 =>
    if l01In0 = true then
      some (0 : Int)
    else
      some (4 : Int)
  else
    some (1 : Int)
noncomputable def c_spec_l14Code : Ctr := ⟨[.dat (.sl (tClock)), .dat (.int .i64)], [.dat (.int .i64)], fun a K => splitK a fun list0 a => splitK a fun k0 a => BindP (spec_l14Code list0 k0) fun r => K (r, ()) ()⟩
noncomputable def spec_UncertaintyOf (list0 : List TClock) (a0 : Int) (b0 : Int) : Option (Int × Int) :=
  (spec_l14Code list0 a0).bind fun l14Code0 =>
  if l14Code0 = (0 : Int) then
    (spec_l14Code list0 b0).bind fun l14Code1 =>
    if l14Code1 = (0 : Int) then
      (atI list0 a0).bind fun x0 =>
      (atI list0 b0).bind fun x1 =>
      some (Max.max (TClock.Uncertainty x0) (TClock.Uncertainty x1), (0 : Int))
    else
      some ((0 : Int), l14Code1)
  else
    some ((0 : Int), l14Code0)
noncomputable def c_spec_UncertaintyOf : Ctr := ⟨[.dat (.sl (tClock)), .dat (.int .i64), .dat (.int .i64)], [.dat (.int .i64), .dat (.int .i64)], fun a K => splitK a fun list0 a => splitK a fun a0 a => splitK a fun b0 a => BindP (spec_UncertaintyOf list0 a0 b0) fun r => K (r.1, r.2, ()) ()⟩
noncomputable def spec_RelationOf (s0 : TSetup) (from0 : Int) (to0 : Int) : Option (TRelation × Int) :=
  (spec_SetupSeparation (TSetup.Clocks s0) from0 (0 : Int) to0 (0 : Int)).bind fun SetupSeparation0 =>
  if SetupSeparation0.snd = (0 : Int) then
    (spec_HoldSeparation (TSetup.Clocks s0) from0 (0 : Int) to0 (0 : Int)).bind fun HoldSeparation0 =>
    (spec_UncertaintyOf (TSetup.Clocks s0) from0 to0).bind fun UncertaintyOf0 =>
    some ((SetupSeparation0.fst, HoldSeparation0.fst, UncertaintyOf0.fst, ()), (0 : Int))
  else
    some (((0 : Int), (0 : Int), (0 : Int), ()), SetupSeparation0.snd)
noncomputable def c_spec_RelationOf : Ctr := ⟨[.dat (tSetup), .dat (.int .i64), .dat (.int .i64)], [.dat (tRelation), .dat (.int .i64)], fun a K => splitK a fun s0 a => splitK a fun from0 a => splitK a fun to0 a => BindP (spec_RelationOf s0 from0 to0) fun r => K (r.1, r.2, ()) ()⟩
noncomputable def impl_WaveOf (list0 : List TClock) (k0 : Int) : Option (Int × Int × Int × Int) :=
  (impl_clockCode list0 [k0]).bind fun clockCode0 =>
  if clockCode0 = (0 : Int) then
    (impl_waveOf list0 k0).bind fun waveOf0 =>
    some (Twave.period waveOf0, (Twave.edges waveOf0).fst, (Twave.edges waveOf0).snd.fst, (0 : Int))
  else
    some ((0 : Int), (0 : Int), (0 : Int), clockCode0)
noncomputable def c_impl_WaveOf : Ctr := ⟨[.dat (.sl (tClock)), .dat (.int .i64)], [.dat (.int .i64), .dat (.int .i64), .dat (.int .i64), .dat (.int .i64)], fun a K => splitK a fun list0 a => splitK a fun k0 a => BindP (impl_WaveOf list0 k0) fun r => K (r.1, r.2.1, r.2.2.1, r.2.2.2, ()) ()⟩
noncomputable def laws_szClock (a0 : TClock) (left0 : Int) : Option Int :=
  if IntKind.i64.wrap (left0 - (↑(List.length (TClock.Name a0)) : Int)) < (0 : Int) then
    some (-1 : Int)
  else
    some (IntKind.i64.wrap (left0 - (↑(List.length (TClock.Name a0)) : Int)))
noncomputable def c_laws_szClock : Ctr := ⟨[.dat (tClock), .dat (.int .i64)], [.dat (.int .i64)], fun a K => splitK a fun a0 a => splitK a fun left0 a => BindP (laws_szClock a0 left0) fun r => K (r, ()) ()⟩
noncomputable def laws_szClockS_loop0 (a0 : List TClock) (left1 : Int) (i0 : Int) : Option ((Int × Int × Unit) ⊕ Int) :=
  if i0 < (↑(List.length a0) : Int) then
    (atI a0 i0).bind fun x0 =>
    (laws_szClock x0 left1).bind fun szClock0 =>
    if szClock0 < (0 : Int) then
      some (.inr (-1 : Int))
    else
      some (.inl (szClock0, IntKind.i64.wrap (i0 + (1 : Int)), ()))
  else
    some (.inr left1)
noncomputable def laws_szClockS (a0 : List TClock) (left0 : Int) : Option Int :=
  if IntKind.i64.wrap (left0 - (↑(List.length a0) : Int)) < (0 : Int) then
    some (-1 : Int)
  else
    whileM (fun v => laws_szClockS_loop0 a0 v.1 v.2.1) (IntKind.i64.wrap (left0 - (↑(List.length a0) : Int)), (0 : Int), ())
noncomputable def c_laws_szClockS : Ctr := ⟨[.dat (.sl (tClock)), .dat (.int .i64)], [.dat (.int .i64)], fun a K => splitK a fun a0 a => splitK a fun left0 a => BindP (laws_szClockS a0 left0) fun r => K (r, ()) ()⟩
noncomputable def laws_szExternalS (a0 : List TExternal) (left0 : Int) : Option Int :=
  if IntKind.i64.wrap (left0 - (↑(List.length a0) : Int)) < (0 : Int) then
    some (-1 : Int)
  else
    some (IntKind.i64.wrap (left0 - (↑(List.length a0) : Int)))
noncomputable def c_laws_szExternalS : Ctr := ⟨[.dat (.sl (tExternal)), .dat (.int .i64)], [.dat (.int .i64)], fun a K => splitK a fun a0 a => splitK a fun left0 a => BindP (laws_szExternalS a0 left0) fun r => K (r, ()) ()⟩
noncomputable def laws_szInt64S (a0 : List Int) (left0 : Int) : Option Int :=
  if IntKind.i64.wrap (left0 - (↑(List.length a0) : Int)) < (0 : Int) then
    some (-1 : Int)
  else
    some (IntKind.i64.wrap (left0 - (↑(List.length a0) : Int)))
noncomputable def c_laws_szInt64S : Ctr := ⟨[.dat (.sl (.int .i64)), .dat (.int .i64)], [.dat (.int .i64)], fun a K => splitK a fun a0 a => splitK a fun left0 a => BindP (laws_szInt64S a0 left0) fun r => K (r, ()) ()⟩
noncomputable def laws_szException (a0 : TException) (left0 : Int) : Option Int :=
  (laws_szInt64S (TException.From a0) left0).bind fun szInt64S0 =>
  if szInt64S0 < (0 : Int) then
    some (-1 : Int)
  else
    (laws_szInt64S (TException.Through a0) szInt64S0).bind fun szInt64S1 =>
    if szInt64S1 < (0 : Int) then
      some (-1 : Int)
    else
      (laws_szInt64S (TException.To a0) szInt64S1).bind fun szInt64S2 =>
      if szInt64S2 < (0 : Int) then
        some (-1 : Int)
      else
        some szInt64S2
noncomputable def c_laws_szException : Ctr := ⟨[.dat (tException), .dat (.int .i64)], [.dat (.int .i64)], fun a K => splitK a fun a0 a => splitK a fun left0 a => BindP (laws_szException a0 left0) fun r => K (r, ()) ()⟩
noncomputable def laws_szExceptionS_loop0 (a0 : List TException) (left1 : Int) (i0 : Int) : Option ((Int × Int × Unit) ⊕ Int) :=
  if i0 < (↑(List.length a0) : Int) then
    (atI a0 i0).bind fun x0 =>
    (laws_szException x0 left1).bind fun szException0 =>
    if szException0 < (0 : Int) then
      some (.inr (-1 : Int))
    else
      some (.inl (szException0, IntKind.i64.wrap (i0 + (1 : Int)), ()))
  else
    some (.inr left1)
noncomputable def laws_szExceptionS (a0 : List TException) (left0 : Int) : Option Int :=
  if IntKind.i64.wrap (left0 - (↑(List.length a0) : Int)) < (0 : Int) then
    some (-1 : Int)
  else
    whileM (fun v => laws_szExceptionS_loop0 a0 v.1 v.2.1) (IntKind.i64.wrap (left0 - (↑(List.length a0) : Int)), (0 : Int), ())
noncomputable def c_laws_szExceptionS : Ctr := ⟨[.dat (.sl (tException)), .dat (.int .i64)], [.dat (.int .i64)], fun a K => splitK a fun a0 a => splitK a fun left0 a => BindP (laws_szExceptionS a0 left0) fun r => K (r, ()) ()⟩
noncomputable def laws_szCorner (a0 : TCorner) (left0 : Int) : Option Int :=
  if IntKind.i64.wrap (left0 - (↑(List.length (TCorner.Name a0)) : Int)) < (0 : Int) then
    some (-1 : Int)
  else
    some (IntKind.i64.wrap (left0 - (↑(List.length (TCorner.Name a0)) : Int)))
noncomputable def c_laws_szCorner : Ctr := ⟨[.dat (tCorner), .dat (.int .i64)], [.dat (.int .i64)], fun a K => splitK a fun a0 a => splitK a fun left0 a => BindP (laws_szCorner a0 left0) fun r => K (r, ()) ()⟩
noncomputable def laws_szCornerS_loop0 (a0 : List TCorner) (left1 : Int) (i0 : Int) : Option ((Int × Int × Unit) ⊕ Int) :=
  if i0 < (↑(List.length a0) : Int) then
    (atI a0 i0).bind fun x0 =>
    (laws_szCorner x0 left1).bind fun szCorner0 =>
    if szCorner0 < (0 : Int) then
      some (.inr (-1 : Int))
    else
      some (.inl (szCorner0, IntKind.i64.wrap (i0 + (1 : Int)), ()))
  else
    some (.inr left1)
noncomputable def laws_szCornerS (a0 : List TCorner) (left0 : Int) : Option Int :=
  if IntKind.i64.wrap (left0 - (↑(List.length a0) : Int)) < (0 : Int) then
    some (-1 : Int)
  else
    whileM (fun v => laws_szCornerS_loop0 a0 v.1 v.2.1) (IntKind.i64.wrap (left0 - (↑(List.length a0) : Int)), (0 : Int), ())
noncomputable def c_laws_szCornerS : Ctr := ⟨[.dat (.sl (tCorner)), .dat (.int .i64)], [.dat (.int .i64)], fun a K => splitK a fun a0 a => splitK a fun left0 a => BindP (laws_szCornerS a0 left0) fun r => K (r, ()) ()⟩
noncomputable def laws_szSetup (a0 : TSetup) (left0 : Int) : Option Int :=
  (laws_szClockS (TSetup.Clocks a0) left0).bind fun szClockS0 =>
  if szClockS0 < (0 : Int) then
    some (-1 : Int)
  else
    (laws_szExternalS (TSetup.Inputs a0) szClockS0).bind fun szExternalS0 =>
    if szExternalS0 < (0 : Int) then
      some (-1 : Int)
    else
      (laws_szExternalS (TSetup.Outputs a0) szExternalS0).bind fun szExternalS1 =>
      if szExternalS1 < (0 : Int) then
        some (-1 : Int)
      else
        (laws_szExceptionS (TSetup.Exceptions a0) szExternalS1).bind fun szExceptionS0 =>
        if szExceptionS0 < (0 : Int) then
          some (-1 : Int)
        else
          (laws_szCornerS (TSetup.Corners a0) szExceptionS0).bind fun szCornerS0 =>
          if szCornerS0 < (0 : Int) then
            some (-1 : Int)
          else
            some szCornerS0
noncomputable def c_laws_szSetup : Ctr := ⟨[.dat (tSetup), .dat (.int .i64)], [.dat (.int .i64)], fun a K => splitK a fun a0 a => splitK a fun left0 a => BindP (laws_szSetup a0 left0) fun r => K (r, ()) ()⟩
noncomputable def laws_toClock (a0 : TClock) : Option TClock :=
  some a0
noncomputable def c_laws_toClock : Ctr := ⟨[.dat (tClock)], [.dat (tClock)], fun a K => splitK a fun a0 a => BindP (laws_toClock a0) fun r => K (r, ()) ()⟩
noncomputable def laws_toClockS_loop0 (a0 : List TClock) (i0 : Int) (out0 : List TClock) : Option ((Int × (List TClock) × Unit) ⊕ List TClock) :=
  if i0 < (↑(List.length a0) : Int) then
    (atI a0 i0).bind fun x0 =>
    (laws_toClock x0).bind fun toClock0 =>
    (atI out0 i0).bind fun x1 =>
    some (.inl (IntKind.i64.wrap (i0 + (1 : Int)), List.set out0 (Int.toNat i0) toClock0, ()))
  else
    some (.inr out0)
noncomputable def laws_toClockS (a0 : List TClock) : Option (List TClock) :=
  guardO ((0 : Int) ≤ (↑(List.length a0) : Int)) <|
  guardO ((↑(List.length a0) : Int) ≤ (↑(List.length a0) : Int)) <|
  guardO ((↑(List.length a0) : Int) ≤ (4611686018427387904 : Int)) <|
  guardO ((↑(96 : Nat) : Int) * (↑(List.length a0) : Int) ≤ (281474976710656 : Int)) <|
  whileM (fun v => laws_toClockS_loop0 a0 v.1 v.2.1) ((0 : Int), List.replicate (Int.toNat (↑(List.length a0) : Int)) (([] : List UInt8), (0 : Int), (0 : Int), (0 : Int), (0 : Int), (0 : Int), (0 : Int), Bool.false, (0 : Int), (0 : Int), (0 : Int), ()), ())
noncomputable def c_laws_toClockS : Ctr := ⟨[.dat (.sl (tClock))], [.own 74 (tClock)], fun a K => splitK a fun a0 a => BindP (laws_toClockS a0) fun r => K (r, ()) ()⟩
noncomputable def laws_toSpan (a0 : TSpan) : Option TSpan :=
  some a0
noncomputable def c_laws_toSpan : Ctr := ⟨[.dat (tSpan)], [.dat (tSpan)], fun a K => splitK a fun a0 a => BindP (laws_toSpan a0) fun r => K (r, ()) ()⟩
noncomputable def laws_toExternal (a0 : TExternal) : Option TExternal :=
  (laws_toSpan (TExternal.Delay a0)).bind fun toSpan0 =>
  (laws_toSpan (TExternal.Slew a0)).bind fun toSpan1 =>
  some (TExternal.Place a0, TExternal.Clock a0, toSpan0, toSpan1, ())
noncomputable def c_laws_toExternal : Ctr := ⟨[.dat (tExternal)], [.dat (tExternal)], fun a K => splitK a fun a0 a => BindP (laws_toExternal a0) fun r => K (r, ()) ()⟩
noncomputable def laws_toExternalS_loop0 (a0 : List TExternal) (i0 : Int) (out0 : List TExternal) : Option ((Int × (List TExternal) × Unit) ⊕ List TExternal) :=
  if i0 < (↑(List.length a0) : Int) then
    (atI a0 i0).bind fun x0 =>
    (laws_toExternal x0).bind fun toExternal0 =>
    (atI out0 i0).bind fun x1 =>
    some (.inl (IntKind.i64.wrap (i0 + (1 : Int)), List.set out0 (Int.toNat i0) toExternal0, ()))
  else
    some (.inr out0)
noncomputable def laws_toExternalS (a0 : List TExternal) : Option (List TExternal) :=
  guardO ((0 : Int) ≤ (↑(List.length a0) : Int)) <|
  guardO ((↑(List.length a0) : Int) ≤ (↑(List.length a0) : Int)) <|
  guardO ((↑(List.length a0) : Int) ≤ (4611686018427387904 : Int)) <|
  guardO ((↑(48 : Nat) : Int) * (↑(List.length a0) : Int) ≤ (281474976710656 : Int)) <|
  whileM (fun v => laws_toExternalS_loop0 a0 v.1 v.2.1) ((0 : Int), List.replicate (Int.toNat (↑(List.length a0) : Int)) ((0 : Int), (0 : Int), ((0 : Int), (0 : Int), ()), ((0 : Int), (0 : Int), ()), ()), ())
noncomputable def c_laws_toExternalS : Ctr := ⟨[.dat (.sl (tExternal))], [.own 98 (tExternal)], fun a K => splitK a fun a0 a => BindP (laws_toExternalS a0) fun r => K (r, ()) ()⟩
noncomputable def laws_toInt64S_loop0 (a0 : List Int) (i0 : Int) (out0 : List Int) : Option ((Int × (List Int) × Unit) ⊕ List Int) :=
  if i0 < (↑(List.length a0) : Int) then
    (atI a0 i0).bind fun x0 =>
    (atI out0 i0).bind fun x1 =>
    some (.inl (IntKind.i64.wrap (i0 + (1 : Int)), List.set out0 (Int.toNat i0) x0, ()))
  else
    some (.inr out0)
noncomputable def laws_toInt64S (a0 : List Int) : Option (List Int) :=
  guardO ((0 : Int) ≤ (↑(List.length a0) : Int)) <|
  guardO ((↑(List.length a0) : Int) ≤ (↑(List.length a0) : Int)) <|
  guardO ((↑(List.length a0) : Int) ≤ (4611686018427387904 : Int)) <|
  guardO ((↑(8 : Nat) : Int) * (↑(List.length a0) : Int) ≤ (281474976710656 : Int)) <|
  whileM (fun v => laws_toInt64S_loop0 a0 v.1 v.2.1) ((0 : Int), List.replicate (Int.toNat (↑(List.length a0) : Int)) (0 : Int), ())
noncomputable def c_laws_toInt64S : Ctr := ⟨[.dat (.sl (.int .i64))], [.own 2 (.int .i64)], fun a K => splitK a fun a0 a => BindP (laws_toInt64S a0) fun r => K (r, ()) ()⟩
noncomputable def laws_toException (a0 : TException) : Option TException :=
  (laws_toInt64S (TException.From a0)).bind fun toInt64S0 =>
  (laws_toInt64S (TException.Through a0)).bind fun toInt64S1 =>
  (laws_toInt64S (TException.To a0)).bind fun toInt64S2 =>
  some (TException.Kind a0, TException.Value a0, toInt64S0, toInt64S1, toInt64S2, ())
noncomputable def c_laws_toException : Ctr := ⟨[.dat (tException)], [.dat (tException)], fun a K => splitK a fun a0 a => BindP (laws_toException a0) fun r => K (r, ()) ()⟩
noncomputable def laws_toExceptionS_loop0 (a0 : List TException) (i0 : Int) (out0 : List TException) : Option ((Int × (List TException) × Unit) ⊕ List TException) :=
  if i0 < (↑(List.length a0) : Int) then
    (atI a0 i0).bind fun x0 =>
    (laws_toException x0).bind fun toException0 =>
    (atI out0 i0).bind fun x1 =>
    some (.inl (IntKind.i64.wrap (i0 + (1 : Int)), List.set out0 (Int.toNat i0) toException0, ()))
  else
    some (.inr out0)
noncomputable def laws_toExceptionS (a0 : List TException) : Option (List TException) :=
  guardO ((0 : Int) ≤ (↑(List.length a0) : Int)) <|
  guardO ((↑(List.length a0) : Int) ≤ (↑(List.length a0) : Int)) <|
  guardO ((↑(List.length a0) : Int) ≤ (4611686018427387904 : Int)) <|
  guardO ((↑(88 : Nat) : Int) * (↑(List.length a0) : Int) ≤ (281474976710656 : Int)) <|
  whileM (fun v => laws_toExceptionS_loop0 a0 v.1 v.2.1) ((0 : Int), List.replicate (Int.toNat (↑(List.length a0) : Int)) ((0 : Int), (0 : Int), ([] : List Int), ([] : List Int), ([] : List Int), ()), ())
noncomputable def c_laws_toExceptionS : Ctr := ⟨[.dat (.sl (tException))], [.own 102 (tException)], fun a K => splitK a fun a0 a => BindP (laws_toExceptionS a0) fun r => K (r, ()) ()⟩
noncomputable def laws_toCorner (a0 : TCorner) : Option TCorner :=
  some a0
noncomputable def c_laws_toCorner : Ctr := ⟨[.dat (tCorner)], [.dat (tCorner)], fun a K => splitK a fun a0 a => BindP (laws_toCorner a0) fun r => K (r, ()) ()⟩
noncomputable def laws_toCornerS_loop0 (a0 : List TCorner) (i0 : Int) (out0 : List TCorner) : Option ((Int × (List TCorner) × Unit) ⊕ List TCorner) :=
  if i0 < (↑(List.length a0) : Int) then
    (atI a0 i0).bind fun x0 =>
    (laws_toCorner x0).bind fun toCorner0 =>
    (atI out0 i0).bind fun x1 =>
    some (.inl (IntKind.i64.wrap (i0 + (1 : Int)), List.set out0 (Int.toNat i0) toCorner0, ()))
  else
    some (.inr out0)
noncomputable def laws_toCornerS (a0 : List TCorner) : Option (List TCorner) :=
  guardO ((0 : Int) ≤ (↑(List.length a0) : Int)) <|
  guardO ((↑(List.length a0) : Int) ≤ (↑(List.length a0) : Int)) <|
  guardO ((↑(List.length a0) : Int) ≤ (4611686018427387904 : Int)) <|
  guardO ((↑(48 : Nat) : Int) * (↑(List.length a0) : Int) ≤ (281474976710656 : Int)) <|
  whileM (fun v => laws_toCornerS_loop0 a0 v.1 v.2.1) ((0 : Int), List.replicate (Int.toNat (↑(List.length a0) : Int)) (([] : List UInt8), (0 : Int), (0 : Int), (0 : Int), (0 : Int), ()), ())
noncomputable def c_laws_toCornerS : Ctr := ⟨[.dat (.sl (tCorner))], [.own 100 (tCorner)], fun a K => splitK a fun a0 a => BindP (laws_toCornerS a0) fun r => K (r, ()) ()⟩
noncomputable def laws_toSetup (a0 : TSetup) : Option TSetup :=
  (laws_toClockS (TSetup.Clocks a0)).bind fun toClockS0 =>
  (laws_toExternalS (TSetup.Inputs a0)).bind fun toExternalS0 =>
  (laws_toExternalS (TSetup.Outputs a0)).bind fun toExternalS1 =>
  (laws_toExceptionS (TSetup.Exceptions a0)).bind fun toExceptionS0 =>
  (laws_toCornerS (TSetup.Corners a0)).bind fun toCornerS0 =>
  some (toClockS0, toExternalS0, toExternalS1, toExceptionS0, toCornerS0, ())
noncomputable def c_laws_toSetup : Ctr := ⟨[.dat (tSetup)], [.dat (tSetup)], fun a K => splitK a fun a0 a => BindP (laws_toSetup a0) fun r => K (r, ()) ()⟩
noncomputable def laws_eqRelation (a0 : TRelation) (b0 : TRelation) : Option Bool :=
  if TRelation.Setup a0 = TRelation.Setup b0 then
    if TRelation.Hold a0 = TRelation.Hold b0 then
      if TRelation.Uncertainty a0 = TRelation.Uncertainty b0 then
        some Bool.true
      else
        some Bool.false
    else
      some Bool.false
  else
    some Bool.false
noncomputable def c_laws_eqRelation : Ctr := ⟨[.dat (tRelation), .dat (tRelation)], [.dat (.bool)], fun a K => splitK a fun a0 a => splitK a fun b0 a => BindP (laws_eqRelation a0 b0) fun r => K (r, ()) ()⟩
noncomputable def laws_eqClock (a0 : TClock) (b0 : TClock) : Option Bool :=
  if TClock.Name a0 = TClock.Name b0 then
    if TClock.Place a0 = TClock.Place b0 then
      if TClock.Period a0 = TClock.Period b0 then
        if TClock.RiseAt a0 = TClock.RiseAt b0 then
          if TClock.FallAt a0 = TClock.FallAt b0 then
            if TClock.Source a0 = TClock.Source b0 then
              if TClock.Divide a0 = TClock.Divide b0 then
                if (TClock.Invert a0 == TClock.Invert b0) = true then
                  if TClock.EarlyLatency a0 = TClock.EarlyLatency b0 then
                    if TClock.LateLatency a0 = TClock.LateLatency b0 then
                      if TClock.Uncertainty a0 = TClock.Uncertainty b0 then
                        some Bool.true
                      else
                        some Bool.false
                    else
                      some Bool.false
                  else
                    some Bool.false
                else
                  some Bool.false
              else
                some Bool.false
            else
              some Bool.false
          else
            some Bool.false
        else
          some Bool.false
      else
        some Bool.false
    else
      some Bool.false
  else
    some Bool.false
noncomputable def c_laws_eqClock : Ctr := ⟨[.dat (tClock), .dat (tClock)], [.dat (.bool)], fun a K => splitK a fun a0 a => splitK a fun b0 a => BindP (laws_eqClock a0 b0) fun r => K (r, ()) ()⟩
noncomputable def laws_eqClockS_loop0 (a0 : List TClock) (b0 : List TClock) (i0 : Int) : Option ((Int × Unit) ⊕ Bool) :=
  if i0 < (↑(List.length a0) : Int) then
    (atI a0 i0).bind fun x0 =>
    (atI b0 i0).bind fun x1 =>
    (laws_eqClock x0 x1).bind fun eqClock0 =>
    if eqClock0 = true then
      some (.inl (IntKind.i64.wrap (i0 + (1 : Int)), ()))
    else
      some (.inr Bool.false)
  else
    some (.inr Bool.true)
noncomputable def laws_eqClockS (a0 : List TClock) (b0 : List TClock) : Option Bool :=
  if (↑(List.length a0) : Int) = (↑(List.length b0) : Int) then
    whileM (fun v => laws_eqClockS_loop0 a0 b0 v.1) ((0 : Int), ())
  else
    some Bool.false
noncomputable def c_laws_eqClockS : Ctr := ⟨[.dat (.sl (tClock)), .dat (.sl (tClock))], [.dat (.bool)], fun a K => splitK a fun a0 a => splitK a fun b0 a => BindP (laws_eqClockS a0 b0) fun r => K (r, ()) ()⟩
noncomputable def laws_eqSpan (a0 : TSpan) (b0 : TSpan) : Option Bool :=
  if TSpan.Early a0 = TSpan.Early b0 then
    if TSpan.Late a0 = TSpan.Late b0 then
      some Bool.true
    else
      some Bool.false
  else
    some Bool.false
noncomputable def c_laws_eqSpan : Ctr := ⟨[.dat (tSpan), .dat (tSpan)], [.dat (.bool)], fun a K => splitK a fun a0 a => splitK a fun b0 a => BindP (laws_eqSpan a0 b0) fun r => K (r, ()) ()⟩
noncomputable def laws_eqExternal (a0 : TExternal) (b0 : TExternal) : Option Bool :=
  if TExternal.Place a0 = TExternal.Place b0 then
    if TExternal.Clock a0 = TExternal.Clock b0 then
      (laws_eqSpan (TExternal.Delay a0) (TExternal.Delay b0)).bind fun eqSpan0 =>
      if eqSpan0 = true then
        (laws_eqSpan (TExternal.Slew a0) (TExternal.Slew b0)).bind fun eqSpan1 =>
        if eqSpan1 = true then
          some Bool.true
        else
          some Bool.false
      else
        some Bool.false
    else
      some Bool.false
  else
    some Bool.false
noncomputable def c_laws_eqExternal : Ctr := ⟨[.dat (tExternal), .dat (tExternal)], [.dat (.bool)], fun a K => splitK a fun a0 a => splitK a fun b0 a => BindP (laws_eqExternal a0 b0) fun r => K (r, ()) ()⟩
noncomputable def laws_eqExternalS_loop0 (a0 : List TExternal) (b0 : List TExternal) (i0 : Int) : Option ((Int × Unit) ⊕ Bool) :=
  if i0 < (↑(List.length a0) : Int) then
    (atI a0 i0).bind fun x0 =>
    (atI b0 i0).bind fun x1 =>
    (laws_eqExternal x0 x1).bind fun eqExternal0 =>
    if eqExternal0 = true then
      some (.inl (IntKind.i64.wrap (i0 + (1 : Int)), ()))
    else
      some (.inr Bool.false)
  else
    some (.inr Bool.true)
noncomputable def laws_eqExternalS (a0 : List TExternal) (b0 : List TExternal) : Option Bool :=
  if (↑(List.length a0) : Int) = (↑(List.length b0) : Int) then
    whileM (fun v => laws_eqExternalS_loop0 a0 b0 v.1) ((0 : Int), ())
  else
    some Bool.false
noncomputable def c_laws_eqExternalS : Ctr := ⟨[.dat (.sl (tExternal)), .dat (.sl (tExternal))], [.dat (.bool)], fun a K => splitK a fun a0 a => splitK a fun b0 a => BindP (laws_eqExternalS a0 b0) fun r => K (r, ()) ()⟩
noncomputable def laws_eqInt64S_loop0 (a0 : List Int) (b0 : List Int) (i0 : Int) : Option ((Int × Unit) ⊕ Bool) :=
  if i0 < (↑(List.length a0) : Int) then
    (atI a0 i0).bind fun x0 =>
    (atI b0 i0).bind fun x1 =>
    if x0 = x1 then
      some (.inl (IntKind.i64.wrap (i0 + (1 : Int)), ()))
    else
      some (.inr Bool.false)
  else
    some (.inr Bool.true)
noncomputable def laws_eqInt64S (a0 : List Int) (b0 : List Int) : Option Bool :=
  if (↑(List.length a0) : Int) = (↑(List.length b0) : Int) then
    whileM (fun v => laws_eqInt64S_loop0 a0 b0 v.1) ((0 : Int), ())
  else
    some Bool.false
noncomputable def c_laws_eqInt64S : Ctr := ⟨[.dat (.sl (.int .i64)), .dat (.sl (.int .i64))], [.dat (.bool)], fun a K => splitK a fun a0 a => splitK a fun b0 a => BindP (laws_eqInt64S a0 b0) fun r => K (r, ()) ()⟩
noncomputable def laws_eqException (a0 : TException) (b0 : TException) : Option Bool :=
  if TException.Kind a0 = TException.Kind b0 then
    if TException.Value a0 = TException.Value b0 then
      (laws_eqInt64S (TException.From a0) (TException.From b0)).bind fun eqInt64S0 =>
      if eqInt64S0 = true then
        (laws_eqInt64S (TException.Through a0) (TException.Through b0)).bind fun eqInt64S1 =>
        if eqInt64S1 = true then
          (laws_eqInt64S (TException.To a0) (TException.To b0)).bind fun eqInt64S2 =>
          if eqInt64S2 = true then
            some Bool.true
          else
            some Bool.false
        else
          some Bool.false
      else
        some Bool.false
    else
      some Bool.false
  else
    some Bool.false
noncomputable def c_laws_eqException : Ctr := ⟨[.dat (tException), .dat (tException)], [.dat (.bool)], fun a K => splitK a fun a0 a => splitK a fun b0 a => BindP (laws_eqException a0 b0) fun r => K (r, ()) ()⟩
noncomputable def laws_eqExceptionS_loop0 (a0 : List TException) (b0 : List TException) (i0 : Int) : Option ((Int × Unit) ⊕ Bool) :=
  if i0 < (↑(List.length a0) : Int) then
    (atI a0 i0).bind fun x0 =>
    (atI b0 i0).bind fun x1 =>
    (laws_eqException x0 x1).bind fun eqException0 =>
    if eqException0 = true then
      some (.inl (IntKind.i64.wrap (i0 + (1 : Int)), ()))
    else
      some (.inr Bool.false)
  else
    some (.inr Bool.true)
noncomputable def laws_eqExceptionS (a0 : List TException) (b0 : List TException) : Option Bool :=
  if (↑(List.length a0) : Int) = (↑(List.length b0) : Int) then
    whileM (fun v => laws_eqExceptionS_loop0 a0 b0 v.1) ((0 : Int), ())
  else
    some Bool.false
noncomputable def c_laws_eqExceptionS : Ctr := ⟨[.dat (.sl (tException)), .dat (.sl (tException))], [.dat (.bool)], fun a K => splitK a fun a0 a => splitK a fun b0 a => BindP (laws_eqExceptionS a0 b0) fun r => K (r, ()) ()⟩
noncomputable def laws_eqCorner (a0 : TCorner) (b0 : TCorner) : Option Bool :=
  if TCorner.Name a0 = TCorner.Name b0 then
    if TCorner.CellEarly a0 = TCorner.CellEarly b0 then
      if TCorner.CellLate a0 = TCorner.CellLate b0 then
        if TCorner.WireEarly a0 = TCorner.WireEarly b0 then
          if TCorner.WireLate a0 = TCorner.WireLate b0 then
            some Bool.true
          else
            some Bool.false
        else
          some Bool.false
      else
        some Bool.false
    else
      some Bool.false
  else
    some Bool.false
noncomputable def c_laws_eqCorner : Ctr := ⟨[.dat (tCorner), .dat (tCorner)], [.dat (.bool)], fun a K => splitK a fun a0 a => splitK a fun b0 a => BindP (laws_eqCorner a0 b0) fun r => K (r, ()) ()⟩
noncomputable def laws_eqCornerS_loop0 (a0 : List TCorner) (b0 : List TCorner) (i0 : Int) : Option ((Int × Unit) ⊕ Bool) :=
  if i0 < (↑(List.length a0) : Int) then
    (atI a0 i0).bind fun x0 =>
    (atI b0 i0).bind fun x1 =>
    (laws_eqCorner x0 x1).bind fun eqCorner0 =>
    if eqCorner0 = true then
      some (.inl (IntKind.i64.wrap (i0 + (1 : Int)), ()))
    else
      some (.inr Bool.false)
  else
    some (.inr Bool.true)
noncomputable def laws_eqCornerS (a0 : List TCorner) (b0 : List TCorner) : Option Bool :=
  if (↑(List.length a0) : Int) = (↑(List.length b0) : Int) then
    whileM (fun v => laws_eqCornerS_loop0 a0 b0 v.1) ((0 : Int), ())
  else
    some Bool.false
noncomputable def c_laws_eqCornerS : Ctr := ⟨[.dat (.sl (tCorner)), .dat (.sl (tCorner))], [.dat (.bool)], fun a K => splitK a fun a0 a => splitK a fun b0 a => BindP (laws_eqCornerS a0 b0) fun r => K (r, ()) ()⟩
noncomputable def laws_eqSetup (a0 : TSetup) (b0 : TSetup) : Option Bool :=
  (laws_eqClockS (TSetup.Clocks a0) (TSetup.Clocks b0)).bind fun eqClockS0 =>
  if eqClockS0 = true then
    (laws_eqExternalS (TSetup.Inputs a0) (TSetup.Inputs b0)).bind fun eqExternalS0 =>
    if eqExternalS0 = true then
      (laws_eqExternalS (TSetup.Outputs a0) (TSetup.Outputs b0)).bind fun eqExternalS1 =>
      if eqExternalS1 = true then
        (laws_eqExceptionS (TSetup.Exceptions a0) (TSetup.Exceptions b0)).bind fun eqExceptionS0 =>
        if eqExceptionS0 = true then
          (laws_eqCornerS (TSetup.Corners a0) (TSetup.Corners b0)).bind fun eqCornerS0 =>
          if eqCornerS0 = true then
            some Bool.true
          else
            some Bool.false
        else
          some Bool.false
      else
        some Bool.false
    else
      some Bool.false
  else
    some Bool.false
noncomputable def c_laws_eqSetup : Ctr := ⟨[.dat (tSetup), .dat (tSetup)], [.dat (.bool)], fun a K => splitK a fun a0 a => splitK a fun b0 a => BindP (laws_eqSetup a0 b0) fun r => K (r, ()) ()⟩
noncomputable def laws_FnExactRelationOf (aS0 : TSetup) (aFrom0 : Int) (aTo0 : Int) : Option Bool :=
  (laws_szSetup aS0 (1048576 : Int)).bind fun szSetup0 =>
  if szSetup0 < (0 : Int) then
    some Bool.true
  else
    (laws_toSetup aS0).bind fun toSetup0 =>
    (spec_RelationOf toSetup0 aFrom0 aTo0).bind fun RelationOf0 =>
    (impl_RelationOf toSetup0 aFrom0 aTo0).bind fun RelationOf1 =>
    (laws_eqRelation RelationOf1.fst RelationOf0.fst).bind fun eqRelation0 =>
    if eqRelation0 = true then
      if RelationOf1.snd = RelationOf0.snd then
        (laws_eqSetup toSetup0 toSetup0).bind fun eqSetup0 =>
        if eqSetup0 = true then
          some Bool.true
        else
          some Bool.false
      else
        some Bool.false
    else
      some Bool.false
noncomputable def c_laws_FnExactRelationOf : Ctr := ⟨[.dat (tSetup), .dat (.int .i64), .dat (.int .i64)], [.dat (.bool)], fun a K => splitK a fun aS0 a => splitK a fun aFrom0 a => splitK a fun aTo0 a => BindP (laws_FnExactRelationOf aS0 aFrom0 aTo0) fun r => K (r, ()) ()⟩
end Go.Proofs.YtmaogoofmebdbaaGreatDoor
