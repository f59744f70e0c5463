/-
  FnExactSetupText: for every input the law returns true, and each argument reads afterwards as it read before. No condition beyond those of the given row.
-/
import Derived.Test.YtepbknolmhmipaaGreatDoorRows
import Derived.Test.YtepbknolmhmipaaGreatDoorCards
import Derived.Test.YtepbknolmhmipaaGreatDoorTie
import Derived.Test.YtepbknolmhmipaaGreatDoorK
import Derived.Test.YtepbknolmhmipaaGreatDoorLB
import Derived.Test.YtepbknolmhmipaaGreatDoorE1
import Derived.Test.YtepbknolmhmipaaGreatDoorFnExactSetupTextF
import Derived.Test.YtepbknolmhmipaaGreatDoorSxLaid
import Derived.Test.YtepbknolmhmipaaGreatDoorFnExactSetupTextG
import Derived.Test.YtepbknolmhmipaaGreatDoorFnExactSetupTextH
import Derived.WalkKit
import Derived.ProofKit
import Derived.Lay
import Derived.LaidOnce
import Derived.SevenTiedAt
import Derived.KernelRfl
import Derived.OpenVars
import Derived.ChangeVars
namespace Go.Proofs.YtepbknolmhmipaaGreatDoor
open Go Go.Sx Go.RowKit Go.ChangeShapes Go.WideShapes Go.ChangeAt
set_option maxRecDepth 100000
set_option linter.unusedVariables false
set_option linter.unusedSimpArgs false
theorem Zg8:ownKnob Tryz.prog.godebug=none:=by kernel_rfl
theorem ZeB:laidOutB Tryz.prog=true:=by kernel_rfl
theorem ZfS (w:World) {H:Type} {enc:TypeId×Value->H} {args:Array Value} {ds:List (DataW H)} {p:List MemPlace} {base:Nat}
  (hok:∀ (j:Nat) t v,(Tryz.f3.params.toList)[j]?=some t->args[j]?=some v->Value.okWide Tryz.prog w .any base t v) (h:DataW.TrodAll enc Tryz.prog w 0 (λ_=>true) true Tryz.f3.params.toList args.toList ds p) (hG:ZfC (λb=>b<w.heap.size) w) :
  Calls Tryz.prog 3 args w λe w'=>e=.returned (.bool true)/\Below w.heap.size w w' :=
 ZrD (l:=[Xz,Vh]) Ze5 (by
  rintro ⟨a0,a1,⟨⟩⟩ ⟨b0,b1,_⟩;exact ⟨true,ZeD a0 a1 b0 b1,rfl⟩) (by kernel_rfl) hok h hG
theorem ZeY (os:Os) (started:os.Started) (H:Type) (enc:TypeId×Value->H) :
  ReturnsInHanded {} Tryz.checked os 3 .any (λw args=>(Rows.fnExactSetupTextSpec.pre enc Tryz.prog Tryz.f3 [] false w args/\laidMetH Tryz.prog Rows.fnExactSetupTextRow.laid w)/\sizedMet enc Tryz.prog Tryz.f3 (OpenSpec.ofChange Rows.fnExactSetupTextSpec) false w args)
   (Rows.fnExactSetupTextSpec.post enc Tryz.prog Tryz.f3 false true false false):=by
 refine returnsInHanded_of_change_and (C:=Tryz.checked) (X:=λw _=>laidMetH Tryz.prog Rows.fnExactSetupTextRow.laid w) (λ_ _ _ hh h=>h.of_heap hh) Zg8 started (by kernel_rfl) Tryz.func3
  (ChangeSpec.witness_shaped (enc:=enc) (C:=Tryz.checked) (os:=os) (X:=λw _=>laidMetH Tryz.prog Rows.fnExactSetupTextRow.laid w) false (World.laidAll Tryz.prog os Rows.fnExactSetupTextRow.laid) #[.agg #[.slice none 0 0,.slice none 0 0,.slice none 0 0,.slice none 0 0,.slice none 0 0],.agg #[.slice none 0 0,.slice none 0 0,.slice none 0 0,.slice none 0 0,.slice none 0 0]] 8 (World.laidAll_os _ _ _)
   (World.shaped_of_ZipB (by kernel_rfl) (by kernel_rfl)) (by kernel_rfl) (by kernel_rfl) (by kernel_rfl)
   (by rw[MakeChecks.laidMetH_plain _ _ _ (by kernel_rfl)];exact laidMet_laidAll _ (by kernel_rfl) (by kernel_rfl))) ?_
 intro W base args ds gs before hval0 hW _ _ hL _;have hval:∀ (j:Nat) t v,(Tryz.f3.params.toList)[j]?=some t->args[j]?=some v->Value.okWide Tryz.prog W .any base t v:=λj t v hj hv=>hval0 j t v (by simpa using hj) hv;have hW':=hW;obtain ⟨p,q,hA0,hV,rfl,_,_⟩:=hW;have hA:DataW.TrodAll enc Tryz.prog W 0 (λ_=>true) true Tryz.f3.params.toList args.toList ds p:=hA0;obtain ⟨_,_,_,_,g0,_,rfl,_,_,_,_,_⟩:=trodVars_one hV;have hLL:=hL;rw[MakeChecks.laidMetH_plain _ _ _ (by kernel_rfl)] at hLL;have hG:ZfC (λb=>b<W.heap.size) W:=by
  intro p hp;simp only[globs,List.mem_cons,List.not_mem_nil,or_false] at hp;rcases hp with rfl | rfl
  ·exact Zrs hLL (i:=4) (l:=ZiH) (t:=311) (e:=9) (m:=5) rfl (by kernel_rfl) (by kernel_rfl) (by kernel_rfl) (by kernel_rfl) (by kernel_rfl) (by kernel_rfl)
  ·exact Zrr hLL (i:=2) (k:=.u64) (l:=Zp3) (t:=446) (e:=423) (m:=20) rfl (by kernel_rfl) (by kernel_rfl) (by kernel_rfl) (by kernel_rfl) (by kernel_rfl) (by kernel_rfl)
 refine (ZfS W hval hA hG).mono λe W' ⟨he,hb⟩=>?_;subst he;have hAb:=Zjk ZeB hb _ _ _ _ (by kernel_rfl) hA (λx hx=>by simpa using hW'.lt x (List.mem_append_left _ hx));have hVb:=Below.trodVars ZeB hb (by kernel_rfl) hV;rw[Tryz.params3] at hA;obtain ⟨v0,vs0,d0,ds0,p0,q0,hv0,hd0,hp0,h0,hA⟩:=trodAll_cons hA;obtain ⟨v1,vs1,d1,ds1,p1,q1,hv1,hd1,hp1,h1,hA⟩:=trodAll_cons hA;obtain ⟨hvn,hdn,hpn⟩:=trodAll_nil hA;subst hdn;subst hd1;subst hd0;exact ⟨_,rfl,_,_,_,[],p,q,hW',trodAll_mk1 (shut_bool (by kernel_rfl) _),hAb,hVb,hb.frame _,λh=>by cases h⟩
theorem Zg9:Rows.FnExactSetupTextSaid :=
 OpenClaim.holds_of_wide 3 Tryz.f3 rfl rfl rfl rfl rfl rfl rfl ⟨rfl,rfl,rfl,rfl,rfl⟩ rfl rfl rfl rfl rfl (by kernel_rfl) Tryz.func3 ZeX
  (of_decide_eq_true (by kernel_rfl)) (by unfold Func.isWrapper;first | (rw[if_pos (by decide +kernel)];kernel_rfl) | (rw[if_neg (by decide +kernel)];exact ⟨rfl,rfl⟩))
  (λos started H enc _=>ZeY os started H enc)
theorem fnExactSetupText_holds:Rows.FnExactSetupTextCardSaid :=
 Claim7.holds_tied_plain_at .later [] [.data,.data,.data,.data,.widerDeep,.pinned] true (true, "42d0b9c65fe2543554777111a623272a69bb08c9f10be9d833b3670c7bb05c6f") false
  Zg9 (λ_ h=>by cases h) Zge (λ_ h=>by cases h) fnExactSetupText_row_tie rfl ⟨rfl,rfl⟩ (by kernel_rfl) rfl
  (λf fn hf hfn=>by
   obtain rfl:f=3:=Option.some.inj ((show Tryz.prog.funcNamed "loop.example/g00861/laws.FnExactSetupText" = some 3 by kernel_rfl).symm.trans hf) |>.symm;obtain rfl:fn=Tryz.f3:=(Option.some.inj (Tryz.func3.symm.trans hfn)).symm;exact ⟨ZfT,λj t ht=>by
    rw[Tryz.params3] at ht;have hm:t∈[32,38]:=by simpa using Array.mem_of_getElem? ht
    have hall:([32,38].all λu=>!Tryz.prog.wantsStandIn u)=true:=by kernel_rfl
    exact (show Tryz.prog.wantsStandIn t=false by simpa using List.all_eq_true.1 hall t hm)⟩)
  Zgd
#print axioms fnExactSetupText_holds
end Go.Proofs.YtepbknolmhmipaaGreatDoor
