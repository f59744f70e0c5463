/-
  FnSetupAfter: for every input the law returns true, and each argument reads afterwards as it read before. No condition beyond those of the given row.
-/
import Derived.Test.YtepbknolmhmipaaGreatDoorRows
import Derived.Test.YtepbknolmhmipaaGreatDoorCards
import Derived.Test.YtepbknolmhmipaaGreatDoorTie
import Derived.Test.YtepbknolmhmipaaGreatDoorK
import Derived.Test.YtepbknolmhmipaaGreatDoorLD
import Derived.Test.YtepbknolmhmipaaGreatDoorE1
import Derived.Test.YtepbknolmhmipaaGreatDoorFnSetupAfterF
import Derived.Test.YtepbknolmhmipaaGreatDoorSxLaid
import Derived.Test.YtepbknolmhmipaaGreatDoorFnSetupAfterG
import Derived.Test.YtepbknolmhmipaaGreatDoorFnSetupAfterH
import Derived.WalkKit
import Derived.ProofKit
import Derived.Lay
import Derived.LaidOnce
import Derived.SevenTiedAt
import Derived.KernelRfl
import Derived.OpenVars
import Derived.ChangeVars
namespace Go.Proofs.YtepbknolmhmipaaGreatDoor
open Go Go.Sx Go.RowKit Go.ChangeShapes Go.WideShapes Go.ChangeAt
set_option maxRecDepth 100000
set_option linter.unusedVariables false
set_option linter.unusedSimpArgs false
theorem ZGF:ownKnob Tryz.prog.godebug=none:=by kernel_rfl
theorem ZEc:laidOutB Tryz.prog=true:=by kernel_rfl
theorem ZFO (w:World) {H:Type} {enc:TypeId×Value->H} {args:Array Value} {ds:List (DataW H)} {p:List MemPlace} {base:Nat}
  (hok:∀ (j:Nat) t v,(Tryz.f4.params.toList)[j]?=some t->args[j]?=some v->Value.okWide Tryz.prog w .any base t v) (h:DataW.TrodAll enc Tryz.prog w 0 (λ_=>true) true Tryz.f4.params.toList args.toList ds p) (hG:ZfC (λb=>b<w.heap.size) w) :
  Calls Tryz.prog 4 args w λe w'=>e=.returned (.bool true)/\Below w.heap.size w w' :=
 ZrD (l:=[.sl (.int .u8)]) ZFE (by
  rintro ⟨a0,⟨⟩⟩ ⟨b0,_⟩;exact ⟨true,ZFo a0 b0,rfl⟩) (by kernel_rfl) hok h hG
theorem ZFA (os:Os) (started:os.Started) (H:Type) (enc:TypeId×Value->H) :
  ReturnsInHanded {} Tryz.checked os 4 .any (λw args=>(Rows.fnSetupAfterSpec.pre enc Tryz.prog Tryz.f4 [] false w args/\laidMetH Tryz.prog Rows.fnSetupAfterRow.laid w)/\sizedMet enc Tryz.prog Tryz.f4 (OpenSpec.ofChange Rows.fnSetupAfterSpec) false w args)
   (Rows.fnSetupAfterSpec.post enc Tryz.prog Tryz.f4 false true false false):=by
 refine returnsInHanded_of_change_and (C:=Tryz.checked) (X:=λw _=>laidMetH Tryz.prog Rows.fnSetupAfterRow.laid w) (λ_ _ _ hh h=>h.of_heap hh) ZGF started (by kernel_rfl) Tryz.func4
  (ChangeSpec.witness_shaped (enc:=enc) (C:=Tryz.checked) (os:=os) (X:=λw _=>laidMetH Tryz.prog Rows.fnSetupAfterRow.laid w) false (World.laidAll Tryz.prog os Rows.fnSetupAfterRow.laid) #[.slice none 0 0] 8 (World.laidAll_os _ _ _)
   (World.shaped_of_ZipB (by kernel_rfl) (by kernel_rfl)) (by kernel_rfl) (by kernel_rfl) (by kernel_rfl)
   (by rw[MakeChecks.laidMetH_plain _ _ _ (by kernel_rfl)];exact laidMet_laidAll _ (by kernel_rfl) (by kernel_rfl))) ?_
 intro W base args ds gs before hval0 hW _ _ hL _;have hval:∀ (j:Nat) t v,(Tryz.f4.params.toList)[j]?=some t->args[j]?=some v->Value.okWide Tryz.prog W .any base t v:=λj t v hj hv=>hval0 j t v (by simpa using hj) hv;have hW':=hW;obtain ⟨p,q,hA0,hV,rfl,_,_⟩:=hW;have hA:DataW.TrodAll enc Tryz.prog W 0 (λ_=>true) true Tryz.f4.params.toList args.toList ds p:=hA0;obtain ⟨_,_,_,_,g0,_,rfl,_,_,_,_,_⟩:=trodVars_one hV;have hLL:=hL;rw[MakeChecks.laidMetH_plain _ _ _ (by kernel_rfl)] at hLL;have hG:ZfC (λb=>b<W.heap.size) W:=by
  intro p hp;simp only[globs,List.mem_cons,List.not_mem_nil,or_false] at hp;rcases hp with rfl | rfl
  ·exact Zrs hLL (i:=4) (l:=ZiH) (t:=311) (e:=9) (m:=5) rfl (by kernel_rfl) (by kernel_rfl) (by kernel_rfl) (by kernel_rfl) (by kernel_rfl) (by kernel_rfl)
  ·exact Zrr hLL (i:=2) (k:=.u64) (l:=Zp3) (t:=446) (e:=423) (m:=20) rfl (by kernel_rfl) (by kernel_rfl) (by kernel_rfl) (by kernel_rfl) (by kernel_rfl) (by kernel_rfl)
 refine (ZFO W hval hA hG).mono λe W' ⟨he,hb⟩=>?_;subst he;have hAb:=Zjk ZEc hb _ _ _ _ (by kernel_rfl) hA (λx hx=>by simpa using hW'.lt x (List.mem_append_left _ hx));have hVb:=Below.trodVars ZEc hb (by kernel_rfl) hV;rw[Tryz.params4] at hA;obtain ⟨v0,vs0,d0,ds0,p0,q0,hv0,hd0,hp0,h0,hA⟩:=trodAll_cons hA;obtain ⟨hvn,hdn,hpn⟩:=trodAll_nil hA;subst hdn;subst hd0;exact ⟨_,rfl,_,_,_,[],p,q,hW',trodAll_mk1 (shut_bool (by kernel_rfl) _),hAb,hVb,hb.frame _,λh=>by cases h⟩
theorem ZGG:Rows.FnSetupAfterSaid :=
 OpenClaim.holds_of_wide 4 Tryz.f4 rfl rfl rfl rfl rfl rfl rfl ⟨rfl,rfl,rfl,rfl,rfl⟩ rfl rfl rfl rfl rfl (by kernel_rfl) Tryz.func4 ZFz
  (of_decide_eq_true (by kernel_rfl)) (by unfold Func.isWrapper;first | (rw[if_pos (by decide +kernel)];kernel_rfl) | (rw[if_neg (by decide +kernel)];exact ⟨rfl,rfl⟩))
  (λos started H enc _=>ZFA os started H enc)
theorem fnSetupAfter_holds:Rows.FnSetupAfterCardSaid :=
 Claim7.holds_tied_plain_at .later [] [.data,.data,.data,.data,.widerDeep,.pinned] true (true, "42d0b9c65fe2543554777111a623272a69bb08c9f10be9d833b3670c7bb05c6f") false
  ZGG (λ_ h=>by cases h) ZF6 (λ_ h=>by cases h) fnSetupAfter_row_tie rfl ⟨rfl,rfl⟩ (by kernel_rfl) rfl
  (λf fn hf hfn=>by
   obtain rfl:f=4:=Option.some.inj ((show Tryz.prog.funcNamed "loop.example/g00861/laws.FnSetupAfter" = some 4 by kernel_rfl).symm.trans hf) |>.symm;obtain rfl:fn=Tryz.f4:=(Option.some.inj (Tryz.func4.symm.trans hfn)).symm;exact ⟨ZFP,λj t ht=>by
    rw[Tryz.params4] at ht;have hm:t∈[63]:=by simpa using Array.mem_of_getElem? ht
    have hall:([63].all λu=>!Tryz.prog.wantsStandIn u)=true:=by kernel_rfl
    exact (show Tryz.prog.wantsStandIn t=false by simpa using List.all_eq_true.1 hall t hm)⟩)
  ZF5
#print axioms fnSetupAfter_holds
end Go.Proofs.YtepbknolmhmipaaGreatDoor
