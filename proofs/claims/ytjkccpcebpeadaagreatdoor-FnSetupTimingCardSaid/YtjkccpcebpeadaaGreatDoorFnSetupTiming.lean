/-
  FnSetupTiming: for every input the law returns true, and each argument reads afterwards as it read before. No condition beyond those of the given row.
-/
import Derived.Test.YtjkccpcebpeadaaGreatDoorRows
import Derived.Test.YtjkccpcebpeadaaGreatDoorCards
import Derived.Test.YtjkccpcebpeadaaGreatDoorTie
import Derived.Test.YtjkccpcebpeadaaGreatDoorK
import Derived.Test.YtjkccpcebpeadaaGreatDoorLD
import Derived.Test.YtjkccpcebpeadaaGreatDoorE1
import Derived.Test.YtjkccpcebpeadaaGreatDoorFnSetupTimingF
import Derived.Test.YtjkccpcebpeadaaGreatDoorFnSetupTimingG
import Derived.Test.YtjkccpcebpeadaaGreatDoorFnSetupTimingH
import Derived.WalkKit
import Derived.ProofKit
import Derived.Lay
import Derived.LaidOnce
import Derived.SevenTiedAt
import Derived.KernelRfl
namespace Go.Proofs.YtjkccpcebpeadaaGreatDoor
open Go Go.Sx Go.RowKit Go.ChangeShapes Go.WideShapes Go.ChangeAt
set_option maxRecDepth 100000
set_option linter.unusedVariables false
set_option linter.unusedSimpArgs false
theorem ZlH:ownKnob Tryz.prog.godebug=none:=by kernel_rfl
theorem ZiE:laidOutB Tryz.prog=true:=by kernel_rfl
theorem ZjY (w:World) {H:Type} {enc:TypeId×Value->H} {args:Array Value} {ds:List (DataW H)} {p:List MemPlace} {base:Nat}
  (hok:∀(j:Nat) t v,(Tryz.f3.params.toList)[j]?=some t->args[j]?=some v->Value.okWide Tryz.prog w .any base t v) (h:DataW.TrodAll enc Tryz.prog w 0 (λ_=>true) true Tryz.f3.params.toList args.toList ds p) :
  Calls Tryz.prog 3 args w λe w'=>e=.returned (.bool true)/\Below w.heap.size w w' :=
 ZwK (l:=[.sl (.int .u8)]) Zjo (by
  rintro ⟨a0,⟨⟩⟩ ⟨b0,_⟩;exact ⟨true,ZiO a0 b0,rfl⟩) (by kernel_rfl) hok h
theorem Zjl (os:Os) (started:os.Started) (H:Type) (enc:TypeId×Value->H) :
  ReturnsInHanded {} Tryz.checked os 3 .any (λw args=>(Rows.fnSetupTimingSpec.pre enc Tryz.prog Tryz.f3 [] false w args/\laidMetH Tryz.prog Rows.fnSetupTimingRow.laid w)/\sizedMet enc Tryz.prog Tryz.f3 (OpenSpec.ofChange Rows.fnSetupTimingSpec) false w args)
   (Rows.fnSetupTimingSpec.post enc Tryz.prog Tryz.f3 false true false false):=by
 refine returnsInHanded_of_change_and (C:=Tryz.checked) (X:=λw _=>laidMetH Tryz.prog Rows.fnSetupTimingRow.laid w) (λ_ _ _ hh h=>h.of_heap hh) ZlH started (by kernel_rfl) Tryz.func3
  (ChangeSpec.witness_shaped (enc:=enc) (C:=Tryz.checked) (os:=os) (X:=λw _=>laidMetH Tryz.prog Rows.fnSetupTimingRow.laid w) false (World.laidAll Tryz.prog os Rows.fnSetupTimingRow.laid) #[.slice none 0 0] 8 (World.laidAll_os _ _ _)
   (World.shaped_of_ZipB (by kernel_rfl) (by kernel_rfl)) (by kernel_rfl) (by kernel_rfl) (by kernel_rfl)
   (by rw[MakeChecks.laidMetH_plain _ _ _ (by kernel_rfl)];exact laidMet_laidAll _ (by kernel_rfl) (by kernel_rfl))) ?_
 intro W base args ds gs before hval0 hW _ _ hL _;have hval:∀(j:Nat) t v,(Tryz.f3.params.toList)[j]?=some t->args[j]?=some v->Value.okWide Tryz.prog W .any base t v:=λj t v hj hv=>hval0 j t v (by simpa using hj) hv;have hW':=hW;obtain⟨p,q,hA0,hV,rfl,_,_⟩:=hW;have hA:DataW.TrodAll enc Tryz.prog W 0 (λ_=>true) true Tryz.f3.params.toList args.toList ds p:=hA0;obtain⟨rfl,rfl⟩:=trodVars_none hV;simp only[Um]at hW';refine(ZjY W hval hA).mono λe W' ⟨he,hb⟩=>?_;subst he;have hAb:=Zk8 ZiE hb _ _ _ _ (by kernel_rfl) hA (λx hx=>by simpa using hW'.lt x hx);rw[Tryz.params3]at hA;obtain⟨v0,vs0,d0,ds0,p0,q0,hv0,hd0,hp0,h0,hA⟩:=trodAll_cons hA;obtain⟨hvn,hdn,hpn⟩:=trodAll_nil hA;subst hdn;subst hd0;exact⟨_,rfl,_,_,_,[],p,[],hW',trodAll_mk1 (shut_bool (by kernel_rfl) _),hAb,rfl,hb.frame _,λh=>by cases h⟩
theorem ZlI:Rows.FnSetupTimingSaid :=
 OpenClaim.holds_of_wide 3 Tryz.f3 rfl rfl rfl rfl rfl rfl rfl ⟨rfl,rfl,rfl,rfl,rfl⟩ rfl rfl rfl rfl rfl (by kernel_rfl) Tryz.func3 Zjk
  (of_decide_eq_true (by kernel_rfl)) (by unfold Func.isWrapper;first|(rw[Uc (by decide +kernel)];kernel_rfl)|(rw[Ue (by decide +kernel)];exact⟨rfl,rfl⟩))
  (λos started H enc _=>Zjl os started H enc)
theorem fnSetupTiming_holds:Rows.FnSetupTimingCardSaid :=
 Claim7.holds_tied_plain_at .later [] [.data,.pinned] true (true, "c93ade1e7b034d1888e8edf8af8103eb98ee4af8022e27f22f79c821266f62b9") false
  ZlI (λ_ h=>by cases h) ZkH (λ_ h=>by cases h) fnSetupTiming_row_tie rfl ⟨rfl,rfl⟩ (by kernel_rfl) rfl
  (λf fn hf hfn=>by
   obtain rfl:f=3:=Option.some.inj ((show Tryz.prog.funcNamed "loop.example/g00861/laws.FnSetupTiming" = some 3 by kernel_rfl).symm.trans hf) |>.symm;obtain rfl:fn=Tryz.f3:=(Option.some.inj (Tryz.func3.symm.trans hfn)).symm;exact ⟨ZjZ,λj t ht=>by
    rw[Tryz.params3]at ht;have hm:t∈[22]:=by simpa using Array.mem_of_getElem? ht
    have hall:([22].all λu=>!Tryz.prog.wantsStandIn u)=true:=by kernel_rfl
    exact (show Tryz.prog.wantsStandIn t=false by simpa using Kw.1 hall t hm)⟩)
  ZkG
#print axioms fnSetupTiming_holds
end Go.Proofs.YtjkccpcebpeadaaGreatDoor
