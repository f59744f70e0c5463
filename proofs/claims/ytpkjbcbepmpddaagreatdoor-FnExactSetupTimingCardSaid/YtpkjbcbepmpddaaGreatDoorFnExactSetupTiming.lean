/-
  FnExactSetupTiming: for every input the law returns true, and each argument reads afterwards as it read before. No condition beyond those of the given row.
-/
import Derived.Test.YtpkjbcbepmpddaaGreatDoorRows
import Derived.Test.YtpkjbcbepmpddaaGreatDoorCards
import Derived.Test.YtpkjbcbepmpddaaGreatDoorTie
import Derived.Test.YtpkjbcbepmpddaaGreatDoorK
import Derived.Test.YtpkjbcbepmpddaaGreatDoorLC
import Derived.Test.YtpkjbcbepmpddaaGreatDoorE1
import Derived.Test.YtpkjbcbepmpddaaGreatDoorFnExactSetupTimingF
import Derived.Test.YtpkjbcbepmpddaaGreatDoorFnExactSetupTimingG
import Derived.Test.YtpkjbcbepmpddaaGreatDoorFnExactSetupTimingH
import Derived.WalkKit
import Derived.ProofKit
import Derived.Lay
import Derived.LaidOnce
import Derived.SevenTiedAt
import Derived.KernelRfl
namespace Go.Proofs.YtpkjbcbepmpddaaGreatDoor
open Go Go.Sx Go.RowKit Go.ChangeShapes Go.WideShapes Go.ChangeAt
set_option maxRecDepth 100000
set_option linter.unusedVariables false
set_option linter.unusedSimpArgs false
theorem ZkM:ownKnob Tryz.prog.godebug=none:=by kernel_rfl
theorem Zh2:laidOutB Tryz.prog=true:=by kernel_rfl
theorem Zi4 (w:World) {H:Type} {enc:TypeId×Value->H} {args:Array Value} {ds:List (DataW H)} {p:List MemPlace} {base:Nat}
  (hok:∀ (j:Nat) t v,(Tryz.f3.params.toList)[j]?=some t->args[j]?=some v->Value.okWide Tryz.prog w .any base t v) (h:DataW.TrodAll enc Tryz.prog w 0 (λ_=>true) true Tryz.f3.params.toList args.toList ds p) :
  Calls Tryz.prog 3 args w λe w'=>e=.returned (.bool true)/\Below w.heap.size w w' :=
 ZAs (l:=[YA,Vi,.int .i64]) ZiT (by
  rintro ⟨a0,a1,a2,⟨⟩⟩ ⟨b0,b1,b2,_⟩;exact ⟨true,Zh4 a0 a1 a2 b0 b1 b2,rfl⟩) (by kernel_rfl) hok h
theorem ZiM (os:Os) (started:os.Started) (H:Type) (enc:TypeId×Value->H) :
  ReturnsInHanded {} Tryz.checked os 3 .any (λw args=>(Rows.fnExactSetupTimingSpec.pre enc Tryz.prog Tryz.f3 [] false w args/\laidMetH Tryz.prog Rows.fnExactSetupTimingRow.laid w)/\sizedMet enc Tryz.prog Tryz.f3 (OpenSpec.ofChange Rows.fnExactSetupTimingSpec) false w args)
   (Rows.fnExactSetupTimingSpec.post enc Tryz.prog Tryz.f3 false true false false):=by
 refine returnsInHanded_of_change_and (C:=Tryz.checked) (X:=λw _=>laidMetH Tryz.prog Rows.fnExactSetupTimingRow.laid w) (λ_ _ _ hh h=>h.of_heap hh) ZkM started (by kernel_rfl) Tryz.func3
  (ChangeSpec.witness_shaped (enc:=enc) (C:=Tryz.checked) (os:=os) (X:=λw _=>laidMetH Tryz.prog Rows.fnExactSetupTimingRow.laid w) false (World.laidAll Tryz.prog os Rows.fnExactSetupTimingRow.laid) #[.agg #[.slice none 0 0,.slice none 0 0,.slice none 0 0,.slice none 0 0,.slice none 0 0],.agg #[.slice none 0 0,.slice none 0 0,.slice none 0 0,.slice none 0 0,.slice none 0 0],.int .i64 0] 8 (World.laidAll_os _ _ _)
   (World.shaped_of_ZipB (by kernel_rfl) (by kernel_rfl)) (by kernel_rfl) (by kernel_rfl) (by kernel_rfl)
   (by rw[MakeChecks.laidMetH_plain _ _ _ (by kernel_rfl)];exact laidMet_laidAll _ (by kernel_rfl) (by kernel_rfl))) ?_
 intro W base args ds gs before hval0 hW _ _ hL _;have hval:∀ (j:Nat) t v,(Tryz.f3.params.toList)[j]?=some t->args[j]?=some v->Value.okWide Tryz.prog W .any base t v:=λj t v hj hv=>hval0 j t v (by simpa using hj) hv;have hW':=hW;obtain ⟨p,q,hA0,hV,rfl,_,_⟩:=hW;have hA:DataW.TrodAll enc Tryz.prog W 0 (λ_=>true) true Tryz.f3.params.toList args.toList ds p:=hA0;obtain ⟨rfl,rfl⟩:=trodVars_none hV;simp only[List.append_nil] at hW';refine (Zi4 W hval hA).mono λe W' ⟨he,hb⟩=>?_;subst he;have hAb:=Zos Zh2 hb _ _ _ _ (by kernel_rfl) hA (λx hx=>by simpa using hW'.lt x hx);rw[Tryz.params3] at hA;obtain ⟨v0,vs0,d0,ds0,p0,q0,hv0,hd0,hp0,h0,hA⟩:=trodAll_cons hA;obtain ⟨v1,vs1,d1,ds1,p1,q1,hv1,hd1,hp1,h1,hA⟩:=trodAll_cons hA;obtain ⟨v2,vs2,d2,ds2,p2,q2,hv2,hd2,hp2,h2,hA⟩:=trodAll_cons hA;obtain ⟨hvn,hdn,hpn⟩:=trodAll_nil hA;subst hdn;subst hd2;subst hd1;subst hd0;exact ⟨_,rfl,_,_,_,[],p,[],hW',trodAll_mk1 (shut_bool (by kernel_rfl) _),hAb,rfl,hb.frame _,λh=>by cases h⟩
theorem ZkN:Rows.FnExactSetupTimingSaid :=
 OpenClaim.holds_of_wide 3 Tryz.f3 rfl rfl rfl rfl rfl rfl rfl ⟨rfl,rfl,rfl,rfl,rfl⟩ rfl rfl rfl rfl rfl (by kernel_rfl) Tryz.func3 ZiL
  (of_decide_eq_true (by kernel_rfl)) (by unfold Func.isWrapper;first | (rw[if_pos (by decide +kernel)];kernel_rfl) | (rw[if_neg (by decide +kernel)];exact ⟨rfl,rfl⟩))
  (λos started H enc _=>ZiM os started H enc)
theorem fnExactSetupTiming_holds:Rows.FnExactSetupTimingCardSaid :=
 Claim7.holds_tied_plain_at .later [] [.data,.pinned] true (true, "c32ee973ed589a200b58648b9c6d7a7fbdda5d2bec71db95aad8edf4296567df") false
  ZkN (λ_ h=>by cases h) Zjx (λ_ h=>by cases h) fnExactSetupTiming_row_tie rfl ⟨rfl,rfl⟩ (by kernel_rfl) rfl
  (λf fn hf hfn=>by
   obtain rfl:f=3:=Option.some.inj ((show Tryz.prog.funcNamed "loop.example/g00861/laws.FnExactSetupTiming" = some 3 by kernel_rfl).symm.trans hf) |>.symm;obtain rfl:fn=Tryz.f3:=(Option.some.inj (Tryz.func3.symm.trans hfn)).symm;exact ⟨Zi5,λj t ht=>by
    rw[Tryz.params3] at ht;have hm:t∈[32,38,2]:=by simpa using Array.mem_of_getElem? ht
    have hall:([32,38,2].all λu=>!Tryz.prog.wantsStandIn u)=true:=by kernel_rfl
    exact (show Tryz.prog.wantsStandIn t=false by simpa using List.all_eq_true.1 hall t hm)⟩)
  Zjw
#print axioms fnExactSetupTiming_holds
end Go.Proofs.YtpkjbcbepmpddaaGreatDoor
