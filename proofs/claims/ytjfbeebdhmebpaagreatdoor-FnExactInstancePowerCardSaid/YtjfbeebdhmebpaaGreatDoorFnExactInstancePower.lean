/-
  FnExactInstancePower: for every input the law returns true, and each argument reads afterwards as it read before. No condition beyond those of the given row.
-/
import Derived.Test.YtjfbeebdhmebpaaGreatDoorRows
import Derived.Test.YtjfbeebdhmebpaaGreatDoorCards
import Derived.Test.YtjfbeebdhmebpaaGreatDoorTie
import Derived.Test.YtjfbeebdhmebpaaGreatDoorK
import Derived.Test.YtjfbeebdhmebpaaGreatDoorLD
import Derived.Test.YtjfbeebdhmebpaaGreatDoorSxBr
import Derived.Test.YtjfbeebdhmebpaaGreatDoorFnExactInstancePowerF
import Derived.Test.YtjfbeebdhmebpaaGreatDoorFnExactInstancePowerG
import Derived.Test.YtjfbeebdhmebpaaGreatDoorFnExactInstancePowerH
import Derived.WalkKit
import Derived.ProofKit
import Derived.Lay
import Derived.LaidOnce
import Derived.SevenTiedAt
import Derived.KernelRfl
namespace Go.Proofs.YtjfbeebdhmebpaaGreatDoor
open Go Go.Sx Go.RowKit Go.ChangeShapes Go.WideShapes Go.ChangeAt
set_option maxRecDepth 100000
set_option linter.unusedVariables false
set_option linter.unusedSimpArgs false
theorem ZxB:ownKnob Tryz.prog.godebug=none:=by kernel_rfl
theorem ZwW:laidOutB Tryz.prog=true:=by kernel_rfl
theorem Zw5 (w:World) {H:Type} {enc:TypeId×Value→H} {args:Array Value} {ds:List (DataW H)} {p:List MemPlace} {base:Nat}
  (hok:∀ (j:Nat) t v,(Tryz.f5.params.toList)[j]?=some t→args[j]?=some v→Value.okWide Tryz.prog w .any base t v) (h:DataW.TrodAll enc Tryz.prog w 0 (fun _=>true) true Tryz.f5.params.toList args.toList ds p) :
  Calls Tryz.prog 5 args w fun e w'=>e=.returned (.bool true)∧Below w.heap.size w w' :=
 ZoK (l:=[YG,.sl (ZE),.int .i64]) Zw3 (by
  rintro ⟨a0,a1,a2,⟨⟩⟩ ⟨b0,b1,b2,_⟩
  exact ⟨true,ZwY a0 a1 a2 b0 b1 b2,rfl⟩) (by kernel_rfl) hok h
theorem Zw2 (os:Os) (started:os.Started) (H:Type) (enc:TypeId×Value→H) :
  ReturnsInHanded {} Tryz.checked os 5 .any (fun w args=>(Rows.fnExactInstancePowerSpec.pre enc Tryz.prog Tryz.f5 [] false w args∧laidMetH Tryz.prog Rows.fnExactInstancePowerRow.laid w)∧sizedMet enc Tryz.prog Tryz.f5 (OpenSpec.ofChange Rows.fnExactInstancePowerSpec) false w args)
   (Rows.fnExactInstancePowerSpec.post enc Tryz.prog Tryz.f5 false true false false):=by
 refine returnsInHanded_of_change_and (C:=Tryz.checked) (X:=fun w _=>laidMetH Tryz.prog Rows.fnExactInstancePowerRow.laid w) (fun _ _ _ hh h=>h.of_heap hh) ZxB started (by kernel_rfl) Tryz.func5
  (ChangeSpec.witness_shaped (enc:=enc) (C:=Tryz.checked) (os:=os) (X:=fun w _=>laidMetH Tryz.prog Rows.fnExactInstancePowerRow.laid w) false (World.laidAll Tryz.prog os Rows.fnExactInstancePowerRow.laid) #[.agg #[.slice none 0 0,.slice none 0 0,.slice none 0 0,.slice none 0 0,.slice none 0 0],.slice none 0 0,.int .i64 0] 8 (World.laidAll_os _ _ _)
   (World.shaped_of_ZipB (by kernel_rfl) (by kernel_rfl)) (by kernel_rfl) (by kernel_rfl) (by kernel_rfl)
   (by rw [MakeChecks.laidMetH_plain _ _ _ (by kernel_rfl)];exact laidMet_laidAll _ (by kernel_rfl) (by kernel_rfl))) ?_
 intro W base args ds gs before hval0 hW _ _ hL _
 have hval:∀ (j:Nat) t v,(Tryz.f5.params.toList)[j]?=some t→args[j]?=some v→Value.okWide Tryz.prog W .any base t v:=fun j t v hj hv=>hval0 j t v (by simpa using hj) hv
 have hW':=hW
 obtain ⟨p,q,hA0,hV,rfl,_,_⟩:=hW
 have hA:DataW.TrodAll enc Tryz.prog W 0 (fun _=>true) true Tryz.f5.params.toList args.toList ds p:=hA0
 obtain ⟨rfl,rfl⟩:=trodVars_none hV
 simp only [List.append_nil] at hW'
 refine (Zw5 W hval hA).mono fun e W' ⟨he,hb⟩=>?_
 subst he
 have hAb:=ZgA ZwW hb _ _ _ _ (by kernel_rfl) hA (fun x hx=>by simpa using hW'.lt x hx)
 rw [Tryz.params5] at hA
 obtain ⟨v0,vs0,d0,ds0,p0,q0,hv0,hd0,hp0,h0,hA⟩:=trodAll_cons hA
 obtain ⟨v1,vs1,d1,ds1,p1,q1,hv1,hd1,hp1,h1,hA⟩:=trodAll_cons hA
 obtain ⟨v2,vs2,d2,ds2,p2,q2,hv2,hd2,hp2,h2,hA⟩:=trodAll_cons hA
 obtain ⟨hvn,hdn,hpn⟩:=trodAll_nil hA
 subst hdn
 subst hd2
 subst hd1
 subst hd0
 exact ⟨_,rfl,_,_,_,[],p,[],hW',trodAll_mk1 (shut_bool (by kernel_rfl) _),hAb,rfl,hb.frame _,fun h=>by cases h⟩
theorem ZxC:Rows.FnExactInstancePowerSaid :=
 OpenClaim.holds_of_wide 5 Tryz.f5 rfl rfl rfl rfl rfl rfl rfl ⟨rfl,rfl,rfl,rfl,rfl⟩ rfl rfl rfl rfl rfl (by kernel_rfl) Tryz.func5 Zw1
  (of_decide_eq_true (by kernel_rfl)) (by unfold Func.isWrapper;first | (rw [if_pos (by decide +kernel)];kernel_rfl) | (rw [if_neg (by decide +kernel)];exact ⟨rfl,rfl⟩))
  (fun os started H enc _=>Zw2 os started H enc)
theorem fnExactInstancePower_holds:Rows.FnExactInstancePowerCardSaid :=
 Claim7.holds_tied_plain_at .later [] [.data,.pinned] true (true, "e936ecd4eb921424699682bdc4ad493d693001564b496961d3342c90b7ffea43") false
  ZxC (fun _ h=>by cases h) Zxa (fun _ h=>by cases h) fnExactInstancePower_row_tie rfl ⟨rfl,rfl⟩ (by kernel_rfl) rfl
  (fun f fn hf hfn=>by
   obtain rfl:f=5:=Option.some.inj ((show Tryz.prog.funcNamed "loop.example/g00861/laws.FnExactInstancePower" = some 5 by kernel_rfl).symm.trans hf) |>.symm
   obtain rfl:fn=Tryz.f5:=(Option.some.inj (Tryz.func5.symm.trans hfn)).symm
   exact ⟨Zw6,fun j t ht=>by
    rw [Tryz.params5] at ht
    have hm:t∈[32,33,2]:=by simpa using Array.mem_of_getElem? ht
    have hall:([32,33,2].all fun u=>!Tryz.prog.wantsStandIn u)=true:=by kernel_rfl
    exact (show Tryz.prog.wantsStandIn t=false by simpa using List.all_eq_true.1 hall t hm)⟩)
  Zw9
#print axioms fnExactInstancePower_holds
end Go.Proofs.YtjfbeebdhmebpaaGreatDoor
