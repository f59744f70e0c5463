/-
  FnExactUpdateTiming: for every input the law returns true, and each argument reads afterwards as it read before. No condition beyond those of the given row.
-/
import Derived.Test.YtclfgjepbamnlaaGreatDoorRows
import Derived.Test.YtclfgjepbamnlaaGreatDoorCards
import Derived.Test.YtclfgjepbamnlaaGreatDoorTie
import Derived.Test.YtclfgjepbamnlaaGreatDoorK
import Derived.Test.YtclfgjepbamnlaaGreatDoorLE
import Derived.Test.YtclfgjepbamnlaaGreatDoorSxBr
import Derived.Test.YtclfgjepbamnlaaGreatDoorFnExactUpdateTimingF
import Derived.Test.YtclfgjepbamnlaaGreatDoorFnExactUpdateTimingG
import Derived.Test.YtclfgjepbamnlaaGreatDoorFnExactUpdateTimingH
import Derived.WalkKit
import Derived.ProofKit
import Derived.Lay
import Derived.LaidOnce
import Derived.SevenTiedAt
import Derived.KernelRfl
namespace Go.Proofs.YtclfgjepbamnlaaGreatDoor
open Go Go.Sx Go.RowKit Go.ChangeShapes Go.WideShapes Go.ChangeAt
set_option maxRecDepth 100000
set_option linter.unusedVariables false
set_option linter.unusedSimpArgs false
theorem ZFa:ownKnob Tryz.prog.godebug=none:=by kernel_rfl
theorem ZEA:laidOutB Tryz.prog=true:=by kernel_rfl
theorem ZEG (w:World) {H:Type} {enc:TypeId×Value→H} {args:Array Value} {ds:List (DataW H)} {p:List MemPlace} {base:Nat}
  (hok:∀ (j:Nat) t v,(Tryz.f4.params.toList)[j]?=some t→args[j]?=some v→Value.okWide Tryz.prog w .any base t v) (h:DataW.TrodAll enc Tryz.prog w 0 (fun _=>true) true Tryz.f4.params.toList args.toList ds p) :
  Calls Tryz.prog 4 args w fun e w'=>e=.returned (.bool true)∧Below w.heap.size w w' :=
 ZtB (l:=[Yt,X3,.sl (.int .i64),.sl (Z6),Xd,.sl (.int .i64)]) ZEE (by
  rintro ⟨a0,a1,a2,a3,a4,a5,⟨⟩⟩ ⟨b0,b1,b2,b3,b4,b5,_⟩
  exact ⟨true,ZEB a0 a1 a2 a3 a4 a5 b0 b1 b2 b3 b4 b5,rfl⟩) (by kernel_rfl) hok h
theorem ZED (os:Os) (started:os.Started) (H:Type) (enc:TypeId×Value→H) :
  ReturnsInHanded {} Tryz.checked os 4 .any (fun w args=>(Rows.fnExactUpdateTimingSpec.pre enc Tryz.prog Tryz.f4 [] false w args∧laidMetH Tryz.prog Rows.fnExactUpdateTimingRow.laid w)∧sizedMet enc Tryz.prog Tryz.f4 (OpenSpec.ofChange Rows.fnExactUpdateTimingSpec) false w args)
   (Rows.fnExactUpdateTimingSpec.post enc Tryz.prog Tryz.f4 false true false false):=by
 refine returnsInHanded_of_change_and (C:=Tryz.checked) (X:=fun w _=>laidMetH Tryz.prog Rows.fnExactUpdateTimingRow.laid w) (fun _ _ _ hh h=>h.of_heap hh) ZFa started (by kernel_rfl) Tryz.func4
  (ChangeSpec.witness_shaped (enc:=enc) (C:=Tryz.checked) (os:=os) (X:=fun w _=>laidMetH Tryz.prog Rows.fnExactUpdateTimingRow.laid w) false (World.laidAll Tryz.prog os Rows.fnExactUpdateTimingRow.laid) #[.agg #[.slice none 0 0,.slice none 0 0,.slice none 0 0,.slice none 0 0,.slice none 0 0],.agg #[.string ByteArray.empty,.int .i64 0,.int .i64 0,.int .i64 0,.int .i64 0],.slice none 0 0,.slice none 0 0,.agg #[.slice none 0 0,.slice none 0 0,.slice none 0 0],.slice none 0 0] 8 (World.laidAll_os _ _ _)
   (World.shaped_of_ZipB (by kernel_rfl) (by kernel_rfl)) (by kernel_rfl) (by kernel_rfl) (by kernel_rfl)
   (by rw [MakeChecks.laidMetH_plain _ _ _ (by kernel_rfl)];exact laidMet_laidAll _ (by kernel_rfl) (by kernel_rfl))) ?_
 intro W base args ds gs before hval0 hW _ _ hL _
 have hval:∀ (j:Nat) t v,(Tryz.f4.params.toList)[j]?=some t→args[j]?=some v→Value.okWide Tryz.prog W .any base t v:=fun j t v hj hv=>hval0 j t v (by simpa using hj) hv
 have hW':=hW
 obtain ⟨p,q,hA0,hV,rfl,_,_⟩:=hW
 have hA:DataW.TrodAll enc Tryz.prog W 0 (fun _=>true) true Tryz.f4.params.toList args.toList ds p:=hA0
 obtain ⟨rfl,rfl⟩:=trodVars_none hV
 simp only [List.append_nil] at hW'
 refine (ZEG W hval hA).mono fun e W' ⟨he,hb⟩=>?_
 subst he
 have hAb:=Zkf ZEA hb _ _ _ _ (by kernel_rfl) hA (fun x hx=>by simpa using hW'.lt x hx)
 rw [Tryz.params4] at hA
 obtain ⟨v0,vs0,d0,ds0,p0,q0,hv0,hd0,hp0,h0,hA⟩:=trodAll_cons hA
 obtain ⟨v1,vs1,d1,ds1,p1,q1,hv1,hd1,hp1,h1,hA⟩:=trodAll_cons hA
 obtain ⟨v2,vs2,d2,ds2,p2,q2,hv2,hd2,hp2,h2,hA⟩:=trodAll_cons hA
 obtain ⟨v3,vs3,d3,ds3,p3,q3,hv3,hd3,hp3,h3,hA⟩:=trodAll_cons hA
 obtain ⟨v4,vs4,d4,ds4,p4,q4,hv4,hd4,hp4,h4,hA⟩:=trodAll_cons hA
 obtain ⟨v5,vs5,d5,ds5,p5,q5,hv5,hd5,hp5,h5,hA⟩:=trodAll_cons hA
 obtain ⟨hvn,hdn,hpn⟩:=trodAll_nil hA
 subst hdn
 subst hd5
 subst hd4
 subst hd3
 subst hd2
 subst hd1
 subst hd0
 exact ⟨_,rfl,_,_,_,[],p,[],hW',trodAll_mk1 (shut_bool (by kernel_rfl) _),hAb,rfl,hb.frame _,fun h=>by cases h⟩
theorem ZFb:Rows.FnExactUpdateTimingSaid :=
 OpenClaim.holds_of_wide 4 Tryz.f4 rfl rfl rfl rfl rfl rfl rfl ⟨rfl,rfl,rfl,rfl,rfl⟩ rfl rfl rfl rfl rfl (by kernel_rfl) Tryz.func4 ZEC
  (of_decide_eq_true (by kernel_rfl)) (by unfold Func.isWrapper;first | (rw [if_pos (by decide +kernel)];kernel_rfl) | (rw [if_neg (by decide +kernel)];exact ⟨rfl,rfl⟩))
  (fun os started H enc _=>ZED os started H enc)
theorem fnExactUpdateTiming_holds:Rows.FnExactUpdateTimingCardSaid :=
 Claim7.holds_tied_plain_at .later [] [.data,.pinned] true (true, "50617e436dce0d6e2e80ec34c680027656b2d57993440acc8682626ca8f338b8") false
  ZFb (fun _ h=>by cases h) ZEK (fun _ h=>by cases h) fnExactUpdateTiming_row_tie rfl ⟨rfl,rfl⟩ (by kernel_rfl) rfl
  (fun f fn hf hfn=>by
   obtain rfl:f=4:=Option.some.inj ((show Tryz.prog.funcNamed "loop.example/g00861/laws.FnExactUpdateTiming" = some 4 by kernel_rfl).symm.trans hf) |>.symm
   obtain rfl:fn=Tryz.f4:=(Option.some.inj (Tryz.func4.symm.trans hfn)).symm
   exact ⟨ZEH,fun j t ht=>by
    rw [Tryz.params4] at ht
    have hm:t∈[32,34,35,36,40,35]:=by simpa using Array.mem_of_getElem? ht
    have hall:([32,34,35,36,40,35].all fun u=>!Tryz.prog.wantsStandIn u)=true:=by kernel_rfl
    exact (show Tryz.prog.wantsStandIn t=false by simpa using List.all_eq_true.1 hall t hm)⟩)
  ZEJ
#print axioms fnExactUpdateTiming_holds
end Go.Proofs.YtclfgjepbamnlaaGreatDoor
