/-
  Functions of Go's library that make texts: their contracts, by the kit's summaries.
-/
import Derived.Test.YtepbknolmhmipaaGreatDoorSxLib
import Derived.Test.YtepbknolmhmipaaGreatDoorShT
import Derived.Lib.AppendIntMem
import Derived.Shelf.Strconv.Itoa4
import Derived.Shelf.Strings.OnBuilder
namespace Go.Proofs.YtepbknolmhmipaaGreatDoor
set_option linter.unusedVariables false
set_option linter.unusedSimpArgs false
open Go Go.Sx
theorem Zop {S:Nat->Prop} {w:World} {k:IntKind}:∀ (l:List Int) (xs:List Value),YZ (rep S w (.int k)) l xs->xs=l.map (Value.int k)
 | [],_,h=>h
 | n::l,_,⟨v1,v2,e,r,rs⟩=>by
  have:=Zop l _ rs;have r:v1=[Value.int k n]:=r;subst this;subst r;subst e;rfl
theorem Zoq {S:Nat->Prop} {w:World}:∀ (l:List (List UInt8)) (xs:List Value),YZ (rep S w .str) l xs->xs=l.map λs=>Value.string ⟨s.toArray⟩
 | [],_,h=>h
 | n::l,_,⟨v1,v2,e,r,rs⟩=>by
  have:=Zoq l _ rs;have r:v1=[Value.string ⟨n.toArray⟩]:=r;subst this;subst r;subst e;rfl
theorem ZpA:Go.Proofs.Builder.Extra Tryz.prog Tryz.lays156_ren:={
 sizeBuilder:=by kernel_rfl
 liesBuilder:=by kernel_rfl
 t5:=Tryz.underlying5
 a5:=Tryz.isAgg5
 z5:=Tryz.sizeOf5
 v5:=Tryz.zeroValue5
 infoByte:=by kernel_rfl
 cellsByte:=by kernel_rfl
 sizeByte:=by kernel_rfl
 neB5:=by decide}
def Zdk:Ctr:=⟨[.dat tI,.dat tI],[.dat .str],λ(a:Int×Int×Unit) K=>ZT a λn a=>ZT a λb _=>-9223372036854775808<=n/\n<=9223372036854775807/\b=10/\K (Lib.itoa n,()) ()⟩
theorem Zh2:Za Tryz.prog 286 Zdk:=by
 refine Zfr ⟨_,Tryz.func286,by kernel_rfl,by kernel_rfl⟩ rfl ?_;rintro w S vs ⟨(n:Int),(b:Int),⟨⟩⟩ K hS hG ⟨v,vr,f1,f2,rfl,ef,⟨_,h1⟩,⟨u,ur,f3,f4,rfl,ef',⟨_,h2⟩,h3⟩⟩ ⟨g1,g2,g3,hK⟩;obtain ⟨rfl,_⟩:=h3;obtain ⟨_,e1,r1⟩:=h1;obtain ⟨_,e2,r2⟩:=h2;have hv:v=.int .i64 n:=by
  have:=e1 rfl;rw[this] at r1;simpa[rep] using r1
 have hu:u=.int .i64 b:=by
  have:=e2 rfl;rw[this] at r2;simpa[rep] using r2
 subst hv;subst hu;subst g3;obtain ⟨_,xs,hr,⟨c,m,hh⟩,_⟩:=hG (1,⟨.int .u64,Zp3⟩) Zqo;have hx:=Zop _ _ hr;subst hx;refine ⟨_,(),hK,?_⟩;have hc:=Go.Proofs.Any.strconv_FormatInt_10 Tryz.lays173 n g1 g2 w (by
  show (Program.globalNamed _ _).bind _=_;rw[show Program.globalNamed Tryz.prog _=some 1 from by kernel_rfl,Option.bind_some,hh];rfl)
 refine (show Calls Tryz.prog 286 _ _ _ from hc).mono ?_;rintro e w' ⟨he,k,os,rfl⟩;exact ⟨⟨_,he,ZkT _ _ _⟩,Lib.below_grow _ _ (Nat.le_refl _) _ _⟩
def Zer:Ctr:=⟨[.dat (.sl .str),.dat .str],[.dat .str],λ(a:List (List UInt8)×List UInt8×Unit) K=>ZT a λl a=>ZT a λs _=>l.length<=140737488355328/\(Lib.join l s).length<=140737488355328/\K (Lib.join l s,()) ()⟩
theorem ZhA:Za Tryz.prog 227 Zer:=by
 refine Zfr ⟨_,Tryz.func227,by kernel_rfl,by kernel_rfl⟩ rfl ?_;rintro w S vs ⟨(l:List (List UInt8)),(s:List UInt8),⟨⟩⟩ K hS hG ⟨v,vr,f1,f2,rfl,ef,⟨_,h1⟩,⟨u,ur,f3,f4,rfl,ef',⟨_,h2⟩,h3⟩⟩ ⟨g1,g2,hK⟩;obtain ⟨rfl,_⟩:=h3;obtain ⟨_,e1,r1⟩:=h1;obtain ⟨_,e2,r2⟩:=h2;have hu:u=.string ⟨s.toArray⟩:=by
  have:=e2 rfl;rw[this] at r2;simpa[rep] using r2
 subst hu;have hv:=e1 rfl;rw[hv] at r1;obtain ⟨a,cap,ev,hcap,hn,hx⟩:=r1;have ev:v=.slice a l.length cap:=by simpa using ev
 subst ev;refine ⟨_,(),hK,?_⟩;rcases hx with rfl | ⟨p,xs,rfl,hp,hSp,hcl,hr⟩
 ·have hc:=Go.Proofs.Any.strings_Join_none Tryz.lays156 ZpA a cap ⟨s.toArray⟩ w
  refine (show Calls Tryz.prog 227 _ _ _ from hc).mono ?_;rintro e w' ⟨he,rfl⟩;exact ⟨⟨_,he,ZkT _ _ _⟩,RowKit.Below.refl _ _⟩
 ·have hx:=Zoq _ _ hr
  subst hx;obtain ⟨bk,o,sp⟩:=p;have hp:sp=none:=hp;subst hp;have e3:(l.map λs=>(⟨s.toArray⟩:ByteArray)).map (·.data.toList)=l:=by
   rw[List.map_map];exact (List.map_congr_left λx _=>rfl).trans (List.map_id l)
  have hc:=Go.Proofs.Any.strings_Join Tryz.lays156 ZpA bk o cap (l.map λs=>⟨s.toArray⟩) ⟨s.toArray⟩ w (λj x hj=>by
    rw[List.getElem?_map] at hj;obtain ⟨y,hy,rfl⟩:=Option.map_eq_some_iff.1 hj;have h:=hcl j (.string ⟨y.toArray⟩) (by rw[List.getElem?_map,hy];rfl);rw[add_eq] at h;exact h) (hS _ hSp) (by rw[List.length_map];exact g1) (by rw[List.length_map];exact hcap) (by rw[e3];exact g2)
  rw[e3,List.length_map] at hc;refine (show Calls Tryz.prog 227 _ _ _ from hc).mono ?_;rintro e w' ⟨he,hB⟩;exact ⟨⟨_,he,ZkT _ _ _⟩,hB⟩
end Go.Proofs.YtepbknolmhmipaaGreatDoor
