/-
  FnUpdate: for every input the law returns true, and each argument reads afterwards as it read before. No condition beyond those of the given row.
-/
import Derived.Test.YtgjjlgodlhhdoaaGreatDoorRows
import Derived.Test.YtgjjlgodlhhdoaaGreatDoorCards
import Derived.Test.YtgjjlgodlhhdoaaGreatDoorTie
import Derived.Test.YtgjjlgodlhhdoaaGreatDoorK
import Derived.Test.YtgjjlgodlhhdoaaGreatDoorLD
import Derived.Test.YtgjjlgodlhhdoaaGreatDoorSxBr
import Derived.Test.YtgjjlgodlhhdoaaGreatDoorFnUpdateF
import Derived.Test.YtgjjlgodlhhdoaaGreatDoorFnUpdateG
import Derived.Test.YtgjjlgodlhhdoaaGreatDoorFnUpdateH
import Derived.WalkKit
import Derived.ProofKit
import Derived.Lay
import Derived.LaidOnce
import Derived.SevenTiedAt
import Derived.KernelRfl
namespace Go.Proofs.YtgjjlgodlhhdoaaGreatDoor
open Go Go.Sx Go.RowKit Go.ChangeShapes Go.WideShapes Go.ChangeAt
set_option maxRecDepth 100000
set_option linter.unusedVariables false
set_option linter.unusedSimpArgs false
theorem ZC8:ownKnob Tryz.prog.godebug=none:=by kernel_rfl
theorem ZCr:laidOutB Tryz.prog=true:=by kernel_rfl
theorem ZCC (w:World) {H:Type} {enc:TypeId×Value->H} {args:Array Value} {ds:List (DataW H)} {p:List MemPlace} {base:Nat}
  (hok:∀ (j:Nat) t v,(Tryz.f5.params.toList)[j]?=some t->args[j]?=some v->Value.okWide Tryz.prog w .any base t v) (h:DataW.TrodAll enc Tryz.prog w 0 (λ_=>true) true Tryz.f5.params.toList args.toList ds p) :
  Calls Tryz.prog 5 args w λe w'=>e=.returned (.bool true)/\Below w.heap.size w w' :=
 Zsd (l:=[.sl (.int .u8)]) ZCx (by
  rintro ⟨a0,⟨⟩⟩ ⟨b0,_⟩;exact ⟨true,ZCs a0 b0,rfl⟩) (by kernel_rfl) hok h
theorem ZCw (os:Os) (started:os.Started) (H:Type) (enc:TypeId×Value->H) :
  ReturnsInHanded {} Tryz.checked os 5 .any (λw args=>(Rows.fnUpdateSpec.pre enc Tryz.prog Tryz.f5 [] false w args/\laidMetH Tryz.prog Rows.fnUpdateRow.laid w)/\sizedMet enc Tryz.prog Tryz.f5 (OpenSpec.ofChange Rows.fnUpdateSpec) false w args)
   (Rows.fnUpdateSpec.post enc Tryz.prog Tryz.f5 false true false false):=by
 refine returnsInHanded_of_change_and (C:=Tryz.checked) (X:=λw _=>laidMetH Tryz.prog Rows.fnUpdateRow.laid w) (λ_ _ _ hh h=>h.of_heap hh) ZC8 started (by kernel_rfl) Tryz.func5
  (ChangeSpec.witness_shaped (enc:=enc) (C:=Tryz.checked) (os:=os) (X:=λw _=>laidMetH Tryz.prog Rows.fnUpdateRow.laid w) false (World.laidAll Tryz.prog os Rows.fnUpdateRow.laid) #[.slice none 0 0] 8 (World.laidAll_os _ _ _)
   (World.shaped_of_ZipB (by kernel_rfl) (by kernel_rfl)) (by kernel_rfl) (by kernel_rfl) (by kernel_rfl)
   (by rw[MakeChecks.laidMetH_plain _ _ _ (by kernel_rfl)];exact laidMet_laidAll _ (by kernel_rfl) (by kernel_rfl))) ?_
 intro W base args ds gs before hval0 hW _ _ hL _;have hval:∀ (j:Nat) t v,(Tryz.f5.params.toList)[j]?=some t->args[j]?=some v->Value.okWide Tryz.prog W .any base t v:=λj t v hj hv=>hval0 j t v (by simpa using hj) hv;have hW':=hW;obtain ⟨p,q,hA0,hV,rfl,_,_⟩:=hW;have hA:DataW.TrodAll enc Tryz.prog W 0 (λ_=>true) true Tryz.f5.params.toList args.toList ds p:=hA0;obtain ⟨rfl,rfl⟩:=trodVars_none hV;simp only[List.append_nil] at hW';refine (ZCC W hval hA).mono λe W' ⟨he,hb⟩=>?_;subst he;have hAb:=Zia ZCr hb _ _ _ _ (by kernel_rfl) hA (λx hx=>by simpa using hW'.lt x hx);rw[Tryz.params5] at hA;obtain ⟨v0,vs0,d0,ds0,p0,q0,hv0,hd0,hp0,h0,hA⟩:=trodAll_cons hA;obtain ⟨hvn,hdn,hpn⟩:=trodAll_nil hA;subst hdn;subst hd0;exact ⟨_,rfl,_,_,_,[],p,[],hW',trodAll_mk1 (shut_bool (by kernel_rfl) _),hAb,rfl,hb.frame _,λh=>by cases h⟩
theorem ZC9:Rows.FnUpdateSaid :=
 OpenClaim.holds_of_wide 5 Tryz.f5 rfl rfl rfl rfl rfl rfl rfl ⟨rfl,rfl,rfl,rfl,rfl⟩ rfl rfl rfl rfl rfl (by kernel_rfl) Tryz.func5 ZCv
  (of_decide_eq_true (by kernel_rfl)) (by unfold Func.isWrapper;first | (rw[if_pos (by decide +kernel)];kernel_rfl) | (rw[if_neg (by decide +kernel)];exact ⟨rfl,rfl⟩))
  (λos started H enc _=>ZCw os started H enc)
theorem fnUpdate_holds:Rows.FnUpdateCardSaid :=
 Claim7.holds_tied_plain_at .later [] [.data,.pinned] true (true, "e54a54501499c8bf41780fb60c3bbde918b07d05d003c7acfdd1836a47d6471d") false
  ZC9 (λ_ h=>by cases h) ZCH (λ_ h=>by cases h) fnUpdate_row_tie rfl ⟨rfl,rfl⟩ (by kernel_rfl) rfl
  (λf fn hf hfn=>by
   obtain rfl:f=5:=Option.some.inj ((show Tryz.prog.funcNamed "loop.example/g00861/laws.FnUpdate" = some 5 by kernel_rfl).symm.trans hf) |>.symm;obtain rfl:fn=Tryz.f5:=(Option.some.inj (Tryz.func5.symm.trans hfn)).symm;exact ⟨ZCD,λj t ht=>by
    rw[Tryz.params5] at ht;have hm:t∈[22]:=by simpa using Array.mem_of_getElem? ht
    have hall:([22].all λu=>!Tryz.prog.wantsStandIn u)=true:=by kernel_rfl
    exact (show Tryz.prog.wantsStandIn t=false by simpa using List.all_eq_true.1 hall t hm)⟩)
  ZCG
#print axioms fnUpdate_holds
end Go.Proofs.YtgjjlgodlhhdoaaGreatDoor
