/-
  FnPower: for every input the law returns true, and each argument reads afterwards as it read before. No condition beyond those of the given row.
-/
import Derived.Test.YtioiomifapgimaaGreatDoorRows
import Derived.Test.YtioiomifapgimaaGreatDoorCards
import Derived.Test.YtioiomifapgimaaGreatDoorTie
import Derived.Test.YtioiomifapgimaaGreatDoorK
import Derived.Test.YtioiomifapgimaaGreatDoorLC
import Derived.Test.YtioiomifapgimaaGreatDoorE1
import Derived.Test.YtioiomifapgimaaGreatDoorFnPowerF
import Derived.Test.YtioiomifapgimaaGreatDoorFnPowerG
import Derived.Test.YtioiomifapgimaaGreatDoorFnPowerH
import Derived.WalkKit
import Derived.ProofKit
import Derived.Lay
import Derived.LaidOnce
import Derived.SevenTiedAt
import Derived.KernelRfl
namespace Go.Proofs.YtioiomifapgimaaGreatDoor
open Go Go.Sx Go.RowKit Go.ChangeShapes Go.WideShapes Go.ChangeAt
set_option maxRecDepth 100000
set_option linter.unusedVariables false
set_option linter.unusedSimpArgs false
theorem ZFW:ownKnob Tryz.prog.godebug=none:=by kernel_rfl
theorem ZE6:laidOutB Tryz.prog=true:=by kernel_rfl
theorem ZFf (w:World) {H:Type} {enc:TypeId×Value->H} {args:Array Value} {ds:List (DataW H)} {p:List MemPlace} {base:Nat}
  (hok:∀ (j:Nat) t v,(Tryz.f3.params.toList)[j]?=some t->args[j]?=some v->Value.okWide Tryz.prog w .any base t v) (h:DataW.TrodAll enc Tryz.prog w 0 (λ_=>true) true Tryz.f3.params.toList args.toList ds p) :
  Calls Tryz.prog 3 args w λe w'=>e=.returned (.bool true)/\Below w.heap.size w w' :=
 ZtR (l:=[.sl (.int .u8)]) ZFb (by
  rintro ⟨a0,⟨⟩⟩ ⟨b0,_⟩;exact ⟨true,ZE8 a0 b0,rfl⟩) (by kernel_rfl) hok h
theorem ZFa (os:Os) (started:os.Started) (H:Type) (enc:TypeId×Value->H) :
  ReturnsInHanded {} Tryz.checked os 3 .any (λw args=>(Rows.fnPowerSpec.pre enc Tryz.prog Tryz.f3 [] false w args/\laidMetH Tryz.prog Rows.fnPowerRow.laid w)/\sizedMet enc Tryz.prog Tryz.f3 (OpenSpec.ofChange Rows.fnPowerSpec) false w args)
   (Rows.fnPowerSpec.post enc Tryz.prog Tryz.f3 false true false false):=by
 refine returnsInHanded_of_change_and (C:=Tryz.checked) (X:=λw _=>laidMetH Tryz.prog Rows.fnPowerRow.laid w) (λ_ _ _ hh h=>h.of_heap hh) ZFW started (by kernel_rfl) Tryz.func3
  (ChangeSpec.witness_shaped (enc:=enc) (C:=Tryz.checked) (os:=os) (X:=λw _=>laidMetH Tryz.prog Rows.fnPowerRow.laid w) false (World.laidAll Tryz.prog os Rows.fnPowerRow.laid) #[.slice none 0 0] 8 (World.laidAll_os _ _ _)
   (World.shaped_of_ZipB (by kernel_rfl) (by kernel_rfl)) (by kernel_rfl) (by kernel_rfl) (by kernel_rfl)
   (by rw[MakeChecks.laidMetH_plain _ _ _ (by kernel_rfl)];exact laidMet_laidAll _ (by kernel_rfl) (by kernel_rfl))) ?_
 intro W base args ds gs before hval0 hW _ _ hL _;have hval:∀ (j:Nat) t v,(Tryz.f3.params.toList)[j]?=some t->args[j]?=some v->Value.okWide Tryz.prog W .any base t v:=λj t v hj hv=>hval0 j t v (by simpa using hj) hv;have hW':=hW;obtain ⟨p,q,hA0,hV,rfl,_,_⟩:=hW;have hA:DataW.TrodAll enc Tryz.prog W 0 (λ_=>true) true Tryz.f3.params.toList args.toList ds p:=hA0;obtain ⟨rfl,rfl⟩:=trodVars_none hV;simp only[List.append_nil] at hW';refine (ZFf W hval hA).mono λe W' ⟨he,hb⟩=>?_;subst he;have hAb:=ZjL ZE6 hb _ _ _ _ (by kernel_rfl) hA (λx hx=>by simpa using hW'.lt x hx);rw[Tryz.params3] at hA;obtain ⟨v0,vs0,d0,ds0,p0,q0,hv0,hd0,hp0,h0,hA⟩:=trodAll_cons hA;obtain ⟨hvn,hdn,hpn⟩:=trodAll_nil hA;subst hdn;subst hd0;exact ⟨_,rfl,_,_,_,[],p,[],hW',trodAll_mk1 (shut_bool (by kernel_rfl) _),hAb,rfl,hb.frame _,λh=>by cases h⟩
theorem ZFX:Rows.FnPowerSaid :=
 OpenClaim.holds_of_wide 3 Tryz.f3 rfl rfl rfl rfl rfl rfl rfl ⟨rfl,rfl,rfl,rfl,rfl⟩ rfl rfl rfl rfl rfl (by kernel_rfl) Tryz.func3 ZE9
  (of_decide_eq_true (by kernel_rfl)) (by unfold Func.isWrapper;first | (rw[if_pos (by decide +kernel)];kernel_rfl) | (rw[if_neg (by decide +kernel)];exact ⟨rfl,rfl⟩))
  (λos started H enc _=>ZFa os started H enc)
theorem fnPower_holds:Rows.FnPowerCardSaid :=
 Claim7.holds_tied_plain_at .later [] [.data,.pinned] true (true, "be00858daa01d73d8da2fde1fa54c84a104ad4fb032cdfac5885cfeb8c7404f2") false
  ZFX (λ_ h=>by cases h) ZFq (λ_ h=>by cases h) fnPower_row_tie rfl ⟨rfl,rfl⟩ (by kernel_rfl) rfl
  (λf fn hf hfn=>by
   obtain rfl:f=3:=Option.some.inj ((show Tryz.prog.funcNamed "loop.example/g00861/laws.FnPower" = some 3 by kernel_rfl).symm.trans hf) |>.symm;obtain rfl:fn=Tryz.f3:=(Option.some.inj (Tryz.func3.symm.trans hfn)).symm;exact ⟨ZFg,λj t ht=>by
    rw[Tryz.params3] at ht;have hm:t∈[22]:=by simpa using Array.mem_of_getElem? ht
    have hall:([22].all λu=>!Tryz.prog.wantsStandIn u)=true:=by kernel_rfl
    exact (show Tryz.prog.wantsStandIn t=false by simpa using List.all_eq_true.1 hall t hm)⟩)
  ZFp
#print axioms fnPower_holds
end Go.Proofs.YtioiomifapgimaaGreatDoor
