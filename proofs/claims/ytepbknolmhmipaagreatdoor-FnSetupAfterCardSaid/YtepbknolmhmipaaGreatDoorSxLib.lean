/-
  Functions of Go's library: their contracts, by the kit's summaries.
-/
import Derived.Test.YtepbknolmhmipaaGreatDoorSxS0
import Derived.Below
import Derived.Ground.NamesProg
import Derived.Test.YtepbknolmhmipaaGreatDoorShP
import Derived.Shelf.Strings.SlTrimAscii
import Derived.Shelf.Small.Strs
namespace Go.Proofs.YtepbknolmhmipaaGreatDoor
set_option linter.unusedVariables false
set_option linter.unusedSimpArgs false
open Go Go.Sx
theorem ZmV {S:Nat->Prop} {w:World}:∀ (l:List Sh) (_:Zbf l=true) (ios:Ios l) (vs:List Value),l.length=vs.length->ZfH S w l ios vs []
 | [],_,_,_,_=>rfl
 | .dat _::r,h,ios,[],hl=>by simp at hl
 | .dat _::r,h,ios,v::vs,hl=>⟨v,vs,rfl,ZmV r h ios vs (by simpa using hl)⟩
 | .own _::_,h,_,_,_=>by simp[Zbf] at h
 | .io _::_,h,_,_,_=>by simp[Zbf] at h
 | .back _::_,h,_,_,_=>by simp[Zbf] at h
theorem Zfr {P:Program} {f:FuncId} {args:List Sh} {t:Ty} {tr:Shs args->(Shs [.dat t]->Ios args->Prop)->Prop} (hcall:Zm8 P f) (hdat:Zbf args=true)
  (h:∀ (w:World) (S:Nat->Prop) (vs:List Value) (d:Shs args) (K:Shs [.dat t]->Ios args->Prop),(∀ b,S b->b<w.heap.size)->ZfC S w->ZbN S w args d vs []->tr d K->
   ∃ (r:t.den) (ios:Ios args),K (r,()) ios/\Calls P f vs.toArray w (λe w'=>(∃ v,e=.returned v/\Zuw S w' t r v)/\RowKit.Below w.heap.size w w')):Za P f ⟨args,[.dat t],tr⟩:=by
 refine ⟨hcall,λw S vs d fp K hS hG hd hnd hpr hK=>?_⟩;have hfp:=ZjX _ _ _ _ hdat hd;subst hfp;obtain ⟨r,ios,hK',hc⟩:=h w S vs d K hS hG hd hK;refine hc.mono ?_;rintro e w' ⟨⟨v,rfl,hv⟩,hB⟩;exact ⟨v,[v],(r,()),ios,S,[],[],rfl,rfl,hK',⟨hB.os,hB.tape,hB.output,hB.size,λb hb _=>hB.block b hb⟩,λb h=>h,λb h=>⟨Nat.lt_of_lt_of_le (hS b h) hB.size,λ_=>.inl h⟩,
  ⟨v,[],[],[],rfl,rfl,⟨rfl,hv⟩,⟨rfl,rfl⟩⟩,ZmV args hdat ios vs (Zjg args d vs _ hd),by simp,by simp⟩
theorem ZkT (S:Nat->Prop) (w:World) (s:List UInt8):Zuw S w .str s (.string ⟨s.toArray⟩):=by
 refine ⟨λh=>?_,λ_=>rfl,?_⟩
 ·cases h
 ·rfl
theorem Zto (S:Nat->Prop) (w:World) (k:IntKind) (n:Int):Zuw S w (.int k) n (.int k n):=by
 refine ⟨λh=>?_,λ_=>rfl,?_⟩
 ·cases h
 ·rfl
theorem bsize (s:List UInt8):(⟨s.toArray⟩:ByteArray).size=s.length:=by simp[ByteArray.size]
def Zht:Ctr:=⟨[.dat .str,.dat .str],[.dat .str],λ(a:List UInt8×List UInt8×Unit) K=>ZT a λs a=>ZT a λcs _=>s.length<=1000000/\cs.length<=1000000/\cs.all (λb=>decide (b.toNat<128))=true/\K (Lib.trimS s cs,()) ()⟩
theorem Zmm:Za Tryz.prog 320 Zht:=by
 refine Zfr ⟨_,Tryz.func320,by kernel_rfl,by kernel_rfl⟩ rfl ?_;rintro w S vs ⟨(s:List UInt8),(cs:List UInt8),⟨⟩⟩ K _ _ ⟨v,vr,f1,f2,rfl,ef,⟨_,h1⟩,⟨u,ur,f3,f4,rfl,ef',⟨_,h2⟩,h3⟩⟩ ⟨g1,g2,g3,hK⟩;obtain ⟨rfl,_⟩:=h3;obtain ⟨_,e1,r1⟩:=h1;obtain ⟨_,e2,r2⟩:=h2;have hv:v=.string ⟨s.toArray⟩:=by
  have:=e1 rfl;rw[this] at r1;simpa[rep] using r1
 have hu:u=.string ⟨cs.toArray⟩:=by
  have:=e2 rfl;rw[this] at r2;simpa[rep] using r2
 subst hv;subst hu;refine ⟨_,(),hK,?_⟩;have hc:=Go.Proofs.Any.strings_Trim_laid Tryz.lays160 (by kernel_rfl) ⟨s.toArray⟩ ⟨cs.toArray⟩ w (by rw[bsize];omega) (by rw[bsize];omega) (Go.Proofs.ascii_of_all (by simpa using g3));refine (show Calls Tryz.prog 320 _ _ _ from hc).mono ?_;rintro e w' ⟨he,hB⟩;exact ⟨⟨_,he,ZkT _ _ _⟩,hB⟩
def Zdl:Ctr:=⟨[.dat .str,.dat (.int .u8)],[.dat tI],λ(a:List UInt8×Int×Unit) K=>ZT a λs a=>ZT a λc _=>K ((Lib.indexByte s c.toNat.toUInt8:Int),()) ()⟩
theorem Zh3:Za Tryz.prog 321 Zdl:=by
 refine Zfr ⟨_,Tryz.func321,by kernel_rfl,by kernel_rfl⟩ rfl ?_;rintro w S vs ⟨(s:List UInt8),(c:Int),⟨⟩⟩ K _ _ ⟨v,vr,f1,f2,rfl,ef,⟨_,h1⟩,⟨u,ur,f3,f4,rfl,ef',⟨_,h2⟩,h3⟩⟩ hK;obtain ⟨rfl,_⟩:=h3;obtain ⟨_,e1,r1⟩:=h1;obtain ⟨_,e2,r2⟩:=h2;have hv:v=.string ⟨s.toArray⟩:=by
  have:=e1 rfl;rw[this] at r1;simpa[rep] using r1
 have hu:u=.int .u8 c:=by
  have:=e2 rfl;rw[this] at r2;simpa[rep] using r2
 subst hv;subst hu;refine ⟨_,(),hK,?_⟩;have hc:=Go.Proofs.Any.strings_IndexByte Tryz.lays137 ⟨s.toArray⟩ c w;refine (show Calls Tryz.prog 321 _ _ _ from hc).mono ?_;rintro e w' ⟨he,rfl⟩;exact ⟨⟨_,he,Zto _ _ _ _⟩,RowKit.Below.refl _ _⟩
end Go.Proofs.YtepbknolmhmipaaGreatDoor
