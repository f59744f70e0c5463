/-
  Functions of Go's library: their contracts, by the kit's summaries.
-/
import Derived.Test.YtjkccpcebpeadaaGreatDoorSxS0
import Derived.Below
import Derived.Ground.NamesProg
import Derived.Test.YtjkccpcebpeadaaGreatDoorShP
import Derived.Shelf.Strings.SlTrimAscii
import Derived.Shelf.Small.Strs
namespace Go.Proofs.YtjkccpcebpeadaaGreatDoor
set_option linter.unusedVariables false
set_option linter.unusedSimpArgs false
open Go Go.Sx
theorem Zpo {S:Nat->Prop} {w:World}:∀(l:List Sh) (_:ZdV l=true) (i:Ios l) (vs:List Value),l.length=vs.length->Zgo S w l i vs []
 |[],_,_,_,_=>rfl
 | .dat _::r,h,i,[],q=>by simp at q
 | .dat _::r,h,i,v::vs,q=>⟨v,vs,rfl,Zpo r h i vs (by simpa using q)⟩
 | .own _::_,h,_,_,_=>by simp[ZdV]at h
 | .io _::_,h,_,_,_=>by simp[ZdV]at h
 | .back _::_,h,_,_,_=>by simp[ZdV]at h
theorem Zok {P:Program} {f:FuncId} {args:List Sh} {t:Ty} {tr:Shs args->(Shs [.dat t]->Ios args->Prop)->Prop} (l:Zi4 P f) (H:ZdV args=true)
  (h:∀ (w:World) (S:Nat->Prop) (vs:List Value) (d:Shs args) (K:Shs [.dat t]->Ios args->Prop),Zc0 S w args d vs []->tr d K->
   ∃ (r:t.den) (i:Ios args),K (r,()) i/\Calls P f vs.toArray w (λe w'=>(∃ v,e=.returned v/\ZBN S w' t r v)/\RowKit.Below w.heap.size w w')):Za P f ⟨args,[.dat t],tr⟩:=by
 refine ⟨l,λw S vs d F K s L g m k=>?_⟩;have p:=Zma _ _ _ _ H L;subst p;obtain ⟨r,i,a,q⟩:=h w S vs d K L k;refine q.mono ?_;rintro e w' ⟨⟨v,rfl,n⟩,j⟩;exact ⟨v,[v],(r,()),i,S,[],[],rfl,rfl,a,⟨j.os,j.tape,j.output,j.size,λb c _=>j.block b c⟩,λb h=>h,λb h=>⟨UD (s b h) j.size,λ_=>.inl h⟩,
  ⟨v,[],[],[],rfl,rfl,⟨rfl,n⟩,⟨rfl,rfl⟩⟩,Zpo args H i vs (Zk3 args d vs _ L),by simp,by simp⟩
theorem Zzh (S:Nat->Prop) (w:World) (s:List UInt8):ZBN S w .str s (.string ⟨s.toArray⟩):=by
 refine⟨λh=>?_,λ_=>rfl,?_⟩
 ·cases h
 ·rfl
theorem Zzg (S:Nat->Prop) (w:World) (k:IntKind) (n:Int):ZBN S w (.int k) n (.int k n):=by
 refine⟨λh=>?_,λ_=>rfl,?_⟩
 ·cases h
 ·rfl
theorem bsize (s:List UInt8):(⟨s.toArray⟩:ByteArray).size=s.length:=by simp[ByteArray.size]
def Zjy:Ctr:=⟨[.dat .str,.dat .str],[.dat .str],λ(a:List UInt8×List UInt8×Unit) K=>Zx a λs a=>Zx a λcs _=>s.length<=1000000/\cs.length<=1000000/\cs.all (λb=>decide (b.toNat<128))=true/\K (Lib.trimS s cs,()) ()⟩
theorem ZoR:Za Tryz.prog 236 Zjy:=by
 refine Zok ⟨_,Tryz.func236,by kernel_rfl,by kernel_rfl⟩ rfl ?_;rintro w S vs ⟨(s:List UInt8),(cs:List UInt8),⟨⟩⟩ K ⟨v,vr,f1,f2,rfl,c,⟨_,d⟩,⟨u,U,F,i,rfl,E,⟨_,h⟩,H⟩⟩ ⟨G,m,g,k⟩;obtain⟨rfl,_⟩:=H;obtain⟨_,e1,r1⟩:=d;obtain⟨_,f,r2⟩:=h;have b:v=.string ⟨s.toArray⟩:=by
  have:=e1 rfl;rw[this]at r1;simpa[rep]using r1
 have a:u=.string ⟨cs.toArray⟩:=by
  have:=f rfl;rw[this]at r2;simpa[rep]using r2
 subst b;subst a;refine⟨_,(),k,?_⟩;have q:=Go.Proofs.Any.strings_Trim_laid Tryz.lays160 (by kernel_rfl) ⟨s.toArray⟩ ⟨cs.toArray⟩ w (by rw[bsize];omega) (by rw[bsize];omega) (Go.Proofs.ascii_of_all (by simpa using g));refine(show Calls Tryz.prog 236 _ _ _ from q).mono ?_;rintro e w' ⟨l,j⟩;exact⟨⟨_,l,Zzh _ _ _⟩,j⟩
def Zgg:Ctr:=⟨[.dat .str,.dat (.int .u8)],[.dat tI],λ(a:List UInt8×Int×Unit) K=>Zx a λs a=>Zx a λc _=>K ((Lib.indexByte s c.toNat.toUInt8:Int),()) ()⟩
theorem Zj3:Za Tryz.prog 237 Zgg:=by
 refine Zok ⟨_,Tryz.func237,by kernel_rfl,by kernel_rfl⟩ rfl ?_;rintro w S vs ⟨(s:List UInt8),(c:Int),⟨⟩⟩ K ⟨v,vr,f1,f2,rfl,b,⟨_,d⟩,⟨u,U,F,j,rfl,E,⟨_,h⟩,g⟩⟩ k;obtain⟨rfl,_⟩:=g;obtain⟨_,e1,r1⟩:=d;obtain⟨_,f,r2⟩:=h;have H:v=.string ⟨s.toArray⟩:=by
  have:=e1 rfl;rw[this]at r1;simpa[rep]using r1
 have a:u=.int .u8 c:=by
  have:=f rfl;rw[this]at r2;simpa[rep]using r2
 subst H;subst a;refine⟨_,(),k,?_⟩;have q:=Go.Proofs.Any.strings_IndexByte Tryz.lays137 ⟨s.toArray⟩ c w;refine(show Calls Tryz.prog 237 _ _ _ from q).mono ?_;rintro e w' ⟨l,rfl⟩;exact⟨⟨_,l,Zzg _ _ _ _⟩,RowKit.Below.refl _ _⟩
end Go.Proofs.YtjkccpcebpeadaaGreatDoor
