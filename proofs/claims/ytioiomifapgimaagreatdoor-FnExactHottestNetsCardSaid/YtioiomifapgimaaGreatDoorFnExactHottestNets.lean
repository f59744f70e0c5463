/-
  FnExactHottestNets: for every input the law returns true, and each argument reads afterwards as it read before. No condition beyond those of the given row.
-/
import Derived.Test.YtioiomifapgimaaGreatDoorRows
import Derived.Test.YtioiomifapgimaaGreatDoorCards
import Derived.Test.YtioiomifapgimaaGreatDoorTie
import Derived.Test.YtioiomifapgimaaGreatDoorK
import Derived.Test.YtioiomifapgimaaGreatDoorLB
import Derived.Test.YtioiomifapgimaaGreatDoorE1
import Derived.Test.YtioiomifapgimaaGreatDoorFnExactHottestNetsF
import Derived.Test.YtioiomifapgimaaGreatDoorFnExactHottestNetsG
import Derived.Test.YtioiomifapgimaaGreatDoorFnExactHottestNetsH
import Derived.WalkKit
import Derived.ProofKit
import Derived.Lay
import Derived.LaidOnce
import Derived.SevenTiedAt
import Derived.KernelRfl
namespace Go.Proofs.YtioiomifapgimaaGreatDoor
open Go Go.Sx Go.RowKit Go.ChangeShapes Go.WideShapes Go.ChangeAt
set_option maxRecDepth 100000
set_option linter.unusedVariables false
set_option linter.unusedSimpArgs false
theorem ZgC:ownKnob Tryz.prog.godebug=none:=by kernel_rfl
theorem Zen:laidOutB Tryz.prog=true:=by kernel_rfl
theorem Zfa (w:World) {H:Type} {enc:TypeId×Value->H} {args:Array Value} {ds:List (DataW H)} {p:List MemPlace} {base:Nat}
  (hok:∀ (j:Nat) t v,(Tryz.f4.params.toList)[j]?=some t->args[j]?=some v->Value.okWide Tryz.prog w .any base t v) (h:DataW.TrodAll enc Tryz.prog w 0 (λ_=>true) true Tryz.f4.params.toList args.toList ds p) :
  Calls Tryz.prog 4 args w λe w'=>e=.returned (.bool true)/\Below w.heap.size w w' :=
 ZtR (l:=[Yz,.sl (Zy),.int .i64]) Ze2 (by
  rintro ⟨a0,a1,a2,⟨⟩⟩ ⟨b0,b1,b2,_⟩;exact ⟨true,Zeo a0 a1 a2 b0 b1 b2,rfl⟩) (by kernel_rfl) hok h
theorem ZeY (os:Os) (started:os.Started) (H:Type) (enc:TypeId×Value->H) :
  ReturnsInHanded {} Tryz.checked os 4 .any (λw args=>(Rows.fnExactHottestNetsSpec.pre enc Tryz.prog Tryz.f4 [] false w args/\laidMetH Tryz.prog Rows.fnExactHottestNetsRow.laid w)/\sizedMet enc Tryz.prog Tryz.f4 (OpenSpec.ofChange Rows.fnExactHottestNetsSpec) false w args)
   (Rows.fnExactHottestNetsSpec.post enc Tryz.prog Tryz.f4 false true false false):=by
 refine returnsInHanded_of_change_and (C:=Tryz.checked) (X:=λw _=>laidMetH Tryz.prog Rows.fnExactHottestNetsRow.laid w) (λ_ _ _ hh h=>h.of_heap hh) ZgC started (by kernel_rfl) Tryz.func4
  (ChangeSpec.witness_shaped (enc:=enc) (C:=Tryz.checked) (os:=os) (X:=λw _=>laidMetH Tryz.prog Rows.fnExactHottestNetsRow.laid w) false (World.laidAll Tryz.prog os Rows.fnExactHottestNetsRow.laid) #[.agg #[.slice none 0 0,.slice none 0 0,.slice none 0 0,.slice none 0 0,.slice none 0 0],.slice none 0 0,.int .i64 0] 8 (World.laidAll_os _ _ _)
   (World.shaped_of_ZipB (by kernel_rfl) (by kernel_rfl)) (by kernel_rfl) (by kernel_rfl) (by kernel_rfl)
   (by rw[MakeChecks.laidMetH_plain _ _ _ (by kernel_rfl)];exact laidMet_laidAll _ (by kernel_rfl) (by kernel_rfl))) ?_
 intro W base args ds gs before hval0 hW _ _ hL _;have hval:∀ (j:Nat) t v,(Tryz.f4.params.toList)[j]?=some t->args[j]?=some v->Value.okWide Tryz.prog W .any base t v:=λj t v hj hv=>hval0 j t v (by simpa using hj) hv;have hW':=hW;obtain ⟨p,q,hA0,hV,rfl,_,_⟩:=hW;have hA:DataW.TrodAll enc Tryz.prog W 0 (λ_=>true) true Tryz.f4.params.toList args.toList ds p:=hA0;obtain ⟨rfl,rfl⟩:=trodVars_none hV;simp only[List.append_nil] at hW';refine (Zfa W hval hA).mono λe W' ⟨he,hb⟩=>?_;subst he;have hAb:=ZjL Zen hb _ _ _ _ (by kernel_rfl) hA (λx hx=>by simpa using hW'.lt x hx);rw[Tryz.params4] at hA;obtain ⟨v0,vs0,d0,ds0,p0,q0,hv0,hd0,hp0,h0,hA⟩:=trodAll_cons hA;obtain ⟨v1,vs1,d1,ds1,p1,q1,hv1,hd1,hp1,h1,hA⟩:=trodAll_cons hA;obtain ⟨v2,vs2,d2,ds2,p2,q2,hv2,hd2,hp2,h2,hA⟩:=trodAll_cons hA;obtain ⟨hvn,hdn,hpn⟩:=trodAll_nil hA;subst hdn;subst hd2;subst hd1;subst hd0;exact ⟨_,rfl,_,_,_,[],p,[],hW',trodAll_mk1 (shut_bool (by kernel_rfl) _),hAb,rfl,hb.frame _,λh=>by cases h⟩
theorem ZgD:Rows.FnExactHottestNetsSaid :=
 OpenClaim.holds_of_wide 4 Tryz.f4 rfl rfl rfl rfl rfl rfl rfl ⟨rfl,rfl,rfl,rfl,rfl⟩ rfl rfl rfl rfl rfl (by kernel_rfl) Tryz.func4 ZeX
  (of_decide_eq_true (by kernel_rfl)) (by unfold Func.isWrapper;first | (rw[if_pos (by decide +kernel)];kernel_rfl) | (rw[if_neg (by decide +kernel)];exact ⟨rfl,rfl⟩))
  (λos started H enc _=>ZeY os started H enc)
theorem fnExactHottestNets_holds:Rows.FnExactHottestNetsCardSaid :=
 Claim7.holds_tied_plain_at .later [] [.data,.pinned] true (true, "be00858daa01d73d8da2fde1fa54c84a104ad4fb032cdfac5885cfeb8c7404f2") false
  ZgD (λ_ h=>by cases h) Zfu (λ_ h=>by cases h) fnExactHottestNets_row_tie rfl ⟨rfl,rfl⟩ (by kernel_rfl) rfl
  (λf fn hf hfn=>by
   obtain rfl:f=4:=Option.some.inj ((show Tryz.prog.funcNamed "loop.example/g00861/laws.FnExactHottestNets" = some 4 by kernel_rfl).symm.trans hf) |>.symm;obtain rfl:fn=Tryz.f4:=(Option.some.inj (Tryz.func4.symm.trans hfn)).symm;exact ⟨Zfb,λj t ht=>by
    rw[Tryz.params4] at ht;have hm:t∈[61,62,2]:=by simpa using Array.mem_of_getElem? ht
    have hall:([61,62,2].all λu=>!Tryz.prog.wantsStandIn u)=true:=by kernel_rfl
    exact (show Tryz.prog.wantsStandIn t=false by simpa using List.all_eq_true.1 hall t hm)⟩)
  Zft
#print axioms fnExactHottestNets_holds
end Go.Proofs.YtioiomifapgimaaGreatDoor
