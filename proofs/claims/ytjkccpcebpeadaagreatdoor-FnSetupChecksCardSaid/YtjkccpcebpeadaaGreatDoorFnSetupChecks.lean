/-
  FnSetupChecks: for every input the law returns true, and each argument reads afterwards as it read before. No condition beyond those of the given row.
-/
import Derived.Test.YtjkccpcebpeadaaGreatDoorRows
import Derived.Test.YtjkccpcebpeadaaGreatDoorCards
import Derived.Test.YtjkccpcebpeadaaGreatDoorTie
import Derived.Test.YtjkccpcebpeadaaGreatDoorK
import Derived.Test.YtjkccpcebpeadaaGreatDoorLD
import Derived.Test.YtjkccpcebpeadaaGreatDoorE1
import Derived.Test.YtjkccpcebpeadaaGreatDoorFnSetupChecksF
import Derived.Test.YtjkccpcebpeadaaGreatDoorFnSetupChecksG
import Derived.Test.YtjkccpcebpeadaaGreatDoorFnSetupChecksH
import Derived.WalkKit
import Derived.ProofKit
import Derived.Lay
import Derived.LaidOnce
import Derived.SevenTiedAt
import Derived.KernelRfl
namespace Go.Proofs.YtjkccpcebpeadaaGreatDoor
open Go Go.Sx Go.RowKit Go.ChangeShapes Go.WideShapes Go.ChangeAt
set_option maxRecDepth 100000
set_option linter.unusedVariables false
set_option linter.unusedSimpArgs false
theorem ZKz:ownKnob Tryz.prog.godebug=none:=by kernel_rfl
theorem ZJL:laidOutB Tryz.prog=true:=by kernel_rfl
theorem ZJ1 (w:World) {H:Type} {enc:TypeId×Value->H} {args:Array Value} {ds:List (DataW H)} {p:List MemPlace} {base:Nat}
  (hok:∀(j:Nat) t v,(Tryz.f4.params.toList)[j]?=some t->args[j]?=some v->Value.okWide Tryz.prog w .any base t v) (h:DataW.TrodAll enc Tryz.prog w 0 (λ_=>true) true Tryz.f4.params.toList args.toList ds p) :
  Calls Tryz.prog 4 args w λe w'=>e=.returned (.bool true)/\Below w.heap.size w w' :=
 ZwK (l:=[.sl (.int .u8)]) ZJV (by
  rintro ⟨a0,⟨⟩⟩ ⟨b0,_⟩;exact ⟨true,ZJM a0 b0,rfl⟩) (by kernel_rfl) hok h
theorem ZJT (os:Os) (started:os.Started) (H:Type) (enc:TypeId×Value->H) :
  ReturnsInHanded {} Tryz.checked os 4 .any (λw args=>(Rows.fnSetupChecksSpec.pre enc Tryz.prog Tryz.f4 [] false w args/\laidMetH Tryz.prog Rows.fnSetupChecksRow.laid w)/\sizedMet enc Tryz.prog Tryz.f4 (OpenSpec.ofChange Rows.fnSetupChecksSpec) false w args)
   (Rows.fnSetupChecksSpec.post enc Tryz.prog Tryz.f4 false true false false):=by
 refine returnsInHanded_of_change_and (C:=Tryz.checked) (X:=λw _=>laidMetH Tryz.prog Rows.fnSetupChecksRow.laid w) (λ_ _ _ hh h=>h.of_heap hh) ZKz started (by kernel_rfl) Tryz.func4
  (ChangeSpec.witness_shaped (enc:=enc) (C:=Tryz.checked) (os:=os) (X:=λw _=>laidMetH Tryz.prog Rows.fnSetupChecksRow.laid w) false (World.laidAll Tryz.prog os Rows.fnSetupChecksRow.laid) #[.slice none 0 0] 8 (World.laidAll_os _ _ _)
   (World.shaped_of_ZipB (by kernel_rfl) (by kernel_rfl)) (by kernel_rfl) (by kernel_rfl) (by kernel_rfl)
   (by rw[MakeChecks.laidMetH_plain _ _ _ (by kernel_rfl)];exact laidMet_laidAll _ (by kernel_rfl) (by kernel_rfl))) ?_
 intro W base args ds gs before hval0 hW _ _ hL _;have hval:∀(j:Nat) t v,(Tryz.f4.params.toList)[j]?=some t->args[j]?=some v->Value.okWide Tryz.prog W .any base t v:=λj t v hj hv=>hval0 j t v (by simpa using hj) hv;have hW':=hW;obtain⟨p,q,hA0,hV,rfl,_,_⟩:=hW;have hA:DataW.TrodAll enc Tryz.prog W 0 (λ_=>true) true Tryz.f4.params.toList args.toList ds p:=hA0;obtain⟨rfl,rfl⟩:=trodVars_none hV;simp only[Um]at hW';refine(ZJ1 W hval hA).mono λe W' ⟨he,hb⟩=>?_;subst he;have hAb:=Zk8 ZJL hb _ _ _ _ (by kernel_rfl) hA (λx hx=>by simpa using hW'.lt x hx);rw[Tryz.params4]at hA;obtain⟨v0,vs0,d0,ds0,p0,q0,hv0,hd0,hp0,h0,hA⟩:=trodAll_cons hA;obtain⟨hvn,hdn,hpn⟩:=trodAll_nil hA;subst hdn;subst hd0;exact⟨_,rfl,_,_,_,[],p,[],hW',trodAll_mk1 (shut_bool (by kernel_rfl) _),hAb,rfl,hb.frame _,λh=>by cases h⟩
theorem ZKA:Rows.FnSetupChecksSaid :=
 OpenClaim.holds_of_wide 4 Tryz.f4 rfl rfl rfl rfl rfl rfl rfl ⟨rfl,rfl,rfl,rfl,rfl⟩ rfl rfl rfl rfl rfl (by kernel_rfl) Tryz.func4 ZJS
  (of_decide_eq_true (by kernel_rfl)) (by unfold Func.isWrapper;first|(rw[Uc (by decide +kernel)];kernel_rfl)|(rw[Ue (by decide +kernel)];exact⟨rfl,rfl⟩))
  (λos started H enc _=>ZJT os started H enc)
theorem fnSetupChecks_holds:Rows.FnSetupChecksCardSaid :=
 Claim7.holds_tied_plain_at .later [] [.data,.pinned] true (true, "c93ade1e7b034d1888e8edf8af8103eb98ee4af8022e27f22f79c821266f62b9") false
  ZKA (λ_ h=>by cases h) ZJ5 (λ_ h=>by cases h) fnSetupChecks_row_tie rfl ⟨rfl,rfl⟩ (by kernel_rfl) rfl
  (λf fn hf hfn=>by
   obtain rfl:f=4:=Option.some.inj ((show Tryz.prog.funcNamed "loop.example/g00861/laws.FnSetupChecks" = some 4 by kernel_rfl).symm.trans hf) |>.symm;obtain rfl:fn=Tryz.f4:=(Option.some.inj (Tryz.func4.symm.trans hfn)).symm;exact ⟨ZJ2,λj t ht=>by
    rw[Tryz.params4]at ht;have hm:t∈[22]:=by simpa using Array.mem_of_getElem? ht
    have hall:([22].all λu=>!Tryz.prog.wantsStandIn u)=true:=by kernel_rfl
    exact (show Tryz.prog.wantsStandIn t=false by simpa using Kw.1 hall t hm)⟩)
  ZJ4
#print axioms fnSetupChecks_holds
end Go.Proofs.YtjkccpcebpeadaaGreatDoor
