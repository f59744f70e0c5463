/-
  FnPlacesAfter: for every input the law returns true, and each argument reads afterwards as it read before. No condition beyond those of the given row.
-/
import Derived.Test.YtnnbgbgapogckaaGreatDoorRows
import Derived.Test.YtnnbgbgapogckaaGreatDoorCards
import Derived.Test.YtnnbgbgapogckaaGreatDoorTie
import Derived.Test.YtnnbgbgapogckaaGreatDoorK
import Derived.Test.YtnnbgbgapogckaaGreatDoorLD
import Derived.Test.YtnnbgbgapogckaaGreatDoorSxBr
import Derived.Test.YtnnbgbgapogckaaGreatDoorFnPlacesAfterF
import Derived.Test.YtnnbgbgapogckaaGreatDoorFnPlacesAfterG
import Derived.Test.YtnnbgbgapogckaaGreatDoorFnPlacesAfterH
import Derived.WalkKit
import Derived.ProofKit
import Derived.Lay
import Derived.LaidOnce
import Derived.SevenTiedAt
import Derived.KernelRfl
namespace Go.Proofs.YtnnbgbgapogckaaGreatDoor
open Go Go.Sx Go.RowKit Go.ChangeShapes Go.WideShapes Go.ChangeAt
set_option maxRecDepth 100000
set_option linter.unusedVariables false
set_option linter.unusedSimpArgs false
theorem ZLQ:ownKnob Tryz.prog.godebug=none:=by kernel_rfl
theorem ZLc:laidOutB Tryz.prog=true:=by kernel_rfl
theorem ZLk (w:World) {H:Type} {enc:TypeId×Value→H} {args:Array Value} {ds:List (DataW H)} {p:List MemPlace} {base:Nat}
  (hok:∀ (j:Nat) t v,(Tryz.f8.params.toList)[j]?=some t→args[j]?=some v→Value.okWide Tryz.prog w .any base t v) (h:DataW.TrodAll enc Tryz.prog w 0 (fun _=>true) true Tryz.f8.params.toList args.toList ds p) :
  Calls Tryz.prog 8 args w fun e w'=>e=.returned (.bool true)∧Below w.heap.size w w' :=
 Zjq (l:=[.sl (.int .u8)]) ZLh (by
  rintro ⟨a0,⟨⟩⟩ ⟨b0,_⟩
  exact ⟨true,ZLd a0 b0,rfl⟩) (by kernel_rfl) hok h
theorem ZLg (os:Os) (started:os.Started) (H:Type) (enc:TypeId×Value→H) :
  ReturnsInHanded {} Tryz.checked os 8 .any (fun w args=>(Rows.fnPlacesAfterSpec.pre enc Tryz.prog Tryz.f8 [] false w args∧laidMetH Tryz.prog Rows.fnPlacesAfterRow.laid w)∧sizedMet enc Tryz.prog Tryz.f8 (OpenSpec.ofChange Rows.fnPlacesAfterSpec) false w args)
   (Rows.fnPlacesAfterSpec.post enc Tryz.prog Tryz.f8 false true false false):=by
 refine returnsInHanded_of_change_and (C:=Tryz.checked) (X:=fun w _=>laidMetH Tryz.prog Rows.fnPlacesAfterRow.laid w) (fun _ _ _ hh h=>h.of_heap hh) ZLQ started (by kernel_rfl) Tryz.func8
  (ChangeSpec.witness_shaped (enc:=enc) (C:=Tryz.checked) (os:=os) (X:=fun w _=>laidMetH Tryz.prog Rows.fnPlacesAfterRow.laid w) false (World.laidAll Tryz.prog os Rows.fnPlacesAfterRow.laid) #[.slice none 0 0] 8 (World.laidAll_os _ _ _)
   (World.shaped_of_ZipB (by kernel_rfl) (by kernel_rfl)) (by kernel_rfl) (by kernel_rfl) (by kernel_rfl)
   (by rw [MakeChecks.laidMetH_plain _ _ _ (by kernel_rfl)];exact laidMet_laidAll _ (by kernel_rfl) (by kernel_rfl))) ?_
 intro W base args ds gs before hval0 hW _ _ hL _
 have hval:∀ (j:Nat) t v,(Tryz.f8.params.toList)[j]?=some t→args[j]?=some v→Value.okWide Tryz.prog W .any base t v:=fun j t v hj hv=>hval0 j t v (by simpa using hj) hv
 have hW':=hW
 obtain ⟨p,q,hA0,hV,rfl,_,_⟩:=hW
 have hA:DataW.TrodAll enc Tryz.prog W 0 (fun _=>true) true Tryz.f8.params.toList args.toList ds p:=hA0
 obtain ⟨rfl,rfl⟩:=trodVars_none hV
 simp only [List.append_nil] at hW'
 refine (ZLk W hval hA).mono fun e W' ⟨he,hb⟩=>?_
 subst he
 have hAb:=ZbV ZLc hb _ _ _ _ (by kernel_rfl) hA (fun x hx=>by simpa using hW'.lt x hx)
 rw [Tryz.params8] at hA
 obtain ⟨v0,vs0,d0,ds0,p0,q0,hv0,hd0,hp0,h0,hA⟩:=trodAll_cons hA
 obtain ⟨hvn,hdn,hpn⟩:=trodAll_nil hA
 subst hdn
 subst hd0
 exact ⟨_,rfl,_,_,_,[],p,[],hW',trodAll_mk1 (shut_bool (by kernel_rfl) _),hAb,rfl,hb.frame _,fun h=>by cases h⟩
theorem ZLR:Rows.FnPlacesAfterSaid :=
 OpenClaim.holds_of_wide 8 Tryz.f8 rfl rfl rfl rfl rfl rfl rfl ⟨rfl,rfl,rfl,rfl,rfl⟩ rfl rfl rfl rfl rfl (by kernel_rfl) Tryz.func8 ZLf
  (of_decide_eq_true (by kernel_rfl)) (by unfold Func.isWrapper;first | (rw [if_pos (by decide +kernel)];kernel_rfl) | (rw [if_neg (by decide +kernel)];exact ⟨rfl,rfl⟩))
  (fun os started H enc _=>ZLg os started H enc)
theorem fnPlacesAfter_holds:Rows.FnPlacesAfterCardSaid :=
 Claim7.holds_tied_plain_at .later [] [.data,.pinned] true (true, "e4317ee8058a1a75cede7cc7767fd80a998b054a0ca3830f8f7cc4bdf0fa9d66") false
  ZLR (fun _ h=>by cases h) ZLq (fun _ h=>by cases h) fnPlacesAfter_row_tie rfl ⟨rfl,rfl⟩ (by kernel_rfl) rfl
  (fun f fn hf hfn=>by
   obtain rfl:f=8:=Option.some.inj ((show Tryz.prog.funcNamed "loop.example/g00861/laws.FnPlacesAfter" = some 8 by kernel_rfl).symm.trans hf) |>.symm
   obtain rfl:fn=Tryz.f8:=(Option.some.inj (Tryz.func8.symm.trans hfn)).symm
   exact ⟨ZLl,fun j t ht=>by
    rw [Tryz.params8] at ht
    have hm:t∈[22]:=by simpa using Array.mem_of_getElem? ht
    have hall:([22].all fun u=>!Tryz.prog.wantsStandIn u)=true:=by kernel_rfl
    exact (show Tryz.prog.wantsStandIn t=false by simpa using List.all_eq_true.1 hall t hm)⟩)
  ZLp
#print axioms fnPlacesAfter_holds
end Go.Proofs.YtnnbgbgapogckaaGreatDoor
