/-
  FnExactIncrementalTiming: for every input the law returns true, and each argument reads afterwards as it read before. No condition beyond those of the given row.
-/
import Derived.Test.YtjepimjoknccmaaGreatDoorRows
import Derived.Test.YtjepimjoknccmaaGreatDoorCards
import Derived.Test.YtjepimjoknccmaaGreatDoorTie
import Derived.Test.YtjepimjoknccmaaGreatDoorK
import Derived.Test.YtjepimjoknccmaaGreatDoorLD
import Derived.Test.YtjepimjoknccmaaGreatDoorE1
import Derived.Test.YtjepimjoknccmaaGreatDoorFnExactIncrementalTimingF
import Derived.Test.YtjepimjoknccmaaGreatDoorFnExactIncrementalTimingG
import Derived.Test.YtjepimjoknccmaaGreatDoorFnExactIncrementalTimingH
import Derived.WalkKit
import Derived.ProofKit
import Derived.Lay
import Derived.LaidOnce
import Derived.SevenTiedAt
import Derived.KernelRfl
namespace Go.Proofs.YtjepimjoknccmaaGreatDoor
open Go Go.Sx Go.RowKit Go.ChangeShapes Go.WideShapes Go.ChangeAt
set_option maxRecDepth 100000
set_option linter.unusedVariables false
set_option linter.unusedSimpArgs false
theorem ZhH:ownKnob Tryz.prog.godebug=none:=by kernel_rfl
theorem ZfJ:laidOutB Tryz.prog=true:=by kernel_rfl
theorem ZgJ (w:World) {H:Type} {enc:TypeId×Value->H} {args:Array Value} {ds:List (DataW H)} {p:List MemPlace} {base:Nat}
  (hok:∀ (j:Nat) t v,(Tryz.f3.params.toList)[j]?=some t->args[j]?=some v->Value.okWide Tryz.prog w .any base t v) (h:DataW.TrodAll enc Tryz.prog w 0 (λ_=>true) true Tryz.f3.params.toList args.toList ds p) :
  Calls Tryz.prog 3 args w λe w'=>e=.returned (.bool true)/\Below w.heap.size w w' :=
 ZAE (l:=[ZT,XO,XW,.sl (Z7),Yf]) ZfY (by
  rintro ⟨a0,a1,a2,a3,a4,⟨⟩⟩ ⟨b0,b1,b2,b3,b4,_⟩;exact ⟨true,ZfK a0 a1 a2 a3 a4 b0 b1 b2 b3 b4,rfl⟩) (by kernel_rfl) hok h
theorem ZfT (os:Os) (started:os.Started) (H:Type) (enc:TypeId×Value->H) :
  ReturnsInHanded {} Tryz.checked os 3 .any (λw args=>(Rows.fnExactIncrementalTimingSpec.pre enc Tryz.prog Tryz.f3 [] false w args/\laidMetH Tryz.prog Rows.fnExactIncrementalTimingRow.laid w)/\sizedMet enc Tryz.prog Tryz.f3 (OpenSpec.ofChange Rows.fnExactIncrementalTimingSpec) false w args)
   (Rows.fnExactIncrementalTimingSpec.post enc Tryz.prog Tryz.f3 false true false false):=by
 refine returnsInHanded_of_change_and (C:=Tryz.checked) (X:=λw _=>laidMetH Tryz.prog Rows.fnExactIncrementalTimingRow.laid w) (λ_ _ _ hh h=>h.of_heap hh) ZhH started (by kernel_rfl) Tryz.func3
  (ChangeSpec.witness_shaped (enc:=enc) (C:=Tryz.checked) (os:=os) (X:=λw _=>laidMetH Tryz.prog Rows.fnExactIncrementalTimingRow.laid w) false (World.laidAll Tryz.prog os Rows.fnExactIncrementalTimingRow.laid) #[.agg #[.slice none 0 0,.slice none 0 0,.slice none 0 0,.slice none 0 0,.slice none 0 0],.agg #[.int .i64 0,.int .i64 0,.int .i64 0,.int .i64 0,.int .i64 0,.string ByteArray.empty,.slice none 0 0,.slice none 0 0,.slice none 0 0,.slice none 0 0],.agg #[.string ByteArray.empty,.int .i64 0,.int .i64 0,.int .i64 0,.int .i64 0],.slice none 0 0,.agg #[.slice none 0 0,.slice none 0 0,.slice none 0 0]] 8 (World.laidAll_os _ _ _)
   (World.shaped_of_ZipB (by kernel_rfl) (by kernel_rfl)) (by kernel_rfl) (by kernel_rfl) (by kernel_rfl)
   (by rw[MakeChecks.laidMetH_plain _ _ _ (by kernel_rfl)];exact laidMet_laidAll _ (by kernel_rfl) (by kernel_rfl))) ?_
 intro W base args ds gs before hval0 hW _ _ hL _;have hval:∀ (j:Nat) t v,(Tryz.f3.params.toList)[j]?=some t->args[j]?=some v->Value.okWide Tryz.prog W .any base t v:=λj t v hj hv=>hval0 j t v (by simpa using hj) hv;have hW':=hW;obtain ⟨p,q,hA0,hV,rfl,_,_⟩:=hW;have hA:DataW.TrodAll enc Tryz.prog W 0 (λ_=>true) true Tryz.f3.params.toList args.toList ds p:=hA0;obtain ⟨rfl,rfl⟩:=trodVars_none hV;simp only[Uo] at hW';refine (ZgJ W hval hA).mono λe W' ⟨he,hb⟩=>?_;subst he;have hAb:=ZoM ZfJ hb _ _ _ _ (by kernel_rfl) hA (λx hx=>by simpa using hW'.lt x hx);rw[Tryz.params3] at hA;obtain ⟨v0,vs0,d0,ds0,p0,q0,hv0,hd0,hp0,h0,hA⟩:=trodAll_cons hA;obtain ⟨v1,vs1,d1,ds1,p1,q1,hv1,hd1,hp1,h1,hA⟩:=trodAll_cons hA;obtain ⟨v2,vs2,d2,ds2,p2,q2,hv2,hd2,hp2,h2,hA⟩:=trodAll_cons hA;obtain ⟨v3,vs3,d3,ds3,p3,q3,hv3,hd3,hp3,h3,hA⟩:=trodAll_cons hA;obtain ⟨v4,vs4,d4,ds4,p4,q4,hv4,hd4,hp4,h4,hA⟩:=trodAll_cons hA;obtain ⟨hvn,hdn,hpn⟩:=trodAll_nil hA;subst hdn;subst hd4;subst hd3;subst hd2;subst hd1;subst hd0;exact ⟨_,rfl,_,_,_,[],p,[],hW',trodAll_mk1 (shut_bool (by kernel_rfl) _),hAb,rfl,hb.frame _,λh=>by cases h⟩
theorem ZhI:Rows.FnExactIncrementalTimingSaid :=
 OpenClaim.holds_of_wide 3 Tryz.f3 rfl rfl rfl rfl rfl rfl rfl ⟨rfl,rfl,rfl,rfl,rfl⟩ rfl rfl rfl rfl rfl (by kernel_rfl) Tryz.func3 ZfS
  (of_decide_eq_true (by kernel_rfl)) (by unfold Func.isWrapper;first | (rw[Uc (by decide +kernel)];kernel_rfl) | (rw[Ud (by decide +kernel)];exact ⟨rfl,rfl⟩))
  (λos started H enc _=>ZfT os started H enc)
theorem fnExactIncrementalTiming_holds:Rows.FnExactIncrementalTimingCardSaid :=
 Claim7.holds_tied_plain_at .later [] [.data,.pinned] true (true, "7520392732858032026d183f6f3b498efaefcefb64a81b77b10caa5baf8ac1fe") false
  ZhI (λ_ h=>by cases h) Zg4 (λ_ h=>by cases h) fnExactIncrementalTiming_row_tie rfl ⟨rfl,rfl⟩ (by kernel_rfl) rfl
  (λf fn hf hfn=>by
   obtain rfl:f=3:=Option.some.inj ((show Tryz.prog.funcNamed "loop.example/g00861/laws.FnExactIncrementalTiming" = some 3 by kernel_rfl).symm.trans hf) |>.symm;obtain rfl:fn=Tryz.f3:=(Option.some.inj (Tryz.func3.symm.trans hfn)).symm;exact ⟨ZgK,λj t ht=>by
    rw[Tryz.params3] at ht;have hm:t∈[32,37,39,40,44]:=by simpa using Array.mem_of_getElem? ht
    have hall:([32,37,39,40,44].all λu=>!Tryz.prog.wantsStandIn u)=true:=by kernel_rfl
    exact (show Tryz.prog.wantsStandIn t=false by simpa using KE.1 hall t hm)⟩)
  Zg3
#print axioms fnExactIncrementalTiming_holds
end Go.Proofs.YtjepimjoknccmaaGreatDoor
