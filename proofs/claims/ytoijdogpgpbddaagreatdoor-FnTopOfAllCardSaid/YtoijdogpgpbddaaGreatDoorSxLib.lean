/-
  Functions of Go's library: their contracts, by the kit's summaries.
-/
import Derived.Test.YtoijdogpgpbddaaGreatDoorSxS0
import Derived.Below
import Derived.Ground.NamesProg
import Derived.Test.YtoijdogpgpbddaaGreatDoorShP
import Derived.Shelf.Strings.SlTrimAscii
import Derived.Shelf.Small.Strs
namespace Go.Proofs.YtoijdogpgpbddaaGreatDoor
set_option linter.unusedVariables false
set_option linter.unusedSimpArgs false
open Go Go.Sx
theorem ZnK {S:Nat->Prop} {w:World}:∀(l:List Sh) (_:Zcy l=true) (i:Ios l) (vs:List Value),l.length=vs.length->Zig S w l i vs []
 |[],_,_,_,_=>rfl
 | .dat _::r,h,i,[],q=>by simp at q
 | .dat _::r,h,i,v::vs,q=>⟨v,vs,rfl,ZnK r h i vs (by simpa using q)⟩
 | .own _::_,h,_,_,_=>by simp[Zcy]at h
 | .io _::_,h,_,_,_=>by simp[Zcy]at h
 | .back _::_,h,_,_,_=>by simp[Zcy]at h
theorem ZqA {P:Program} {f:FuncId} {args:List Sh} {t:Ty} {tr:Shs args->(Shs [.dat t]->Ios args->Prop)->Prop} (l:Zmq P f) (H:Zcy args=true)
  (h:∀ (w:World) (S:Nat->Prop) (vs:List Value) (d:Shs args) (K:Shs [.dat t]->Ios args->Prop),Zfs S w args d vs []->tr d K->
   ∃ (r:t.den) (i:Ios args),K (r,()) i/\Calls P f vs.toArray w (λe w'=>(∃ v,e=.returned v/\ZGj S w' t r v)/\RowKit.Below w.heap.size w w')):Zc P f ⟨args,[.dat t],tr⟩:=by
 refine ⟨l,λw S vs d F K s N g m k=>?_⟩;have p:=Zn8 _ _ _ _ H N;subst p;obtain ⟨r,i,a,q⟩:=h w S vs d K N k;refine q.mono ?_;rintro e w' ⟨⟨v,rfl,n⟩,j⟩;exact ⟨v,[v],(r,()),i,S,[],[],rfl,rfl,a,⟨j.os,j.tape,j.output,j.size,λb c _=>j.block b c⟩,λb h=>h,λb h=>⟨UP (s b h) j.size,λ_=>.inl h⟩,
  ⟨v,[],[],[],rfl,rfl,⟨rfl,n⟩,⟨rfl,rfl⟩⟩,ZnK args H i vs (Zj5 args d vs _ N),by simp,by simp⟩
theorem ZDu (S:Nat->Prop) (w:World) (s:List UInt8):ZGj S w .str s (.string ⟨s.toArray⟩):=by
 refine⟨λh=>?_,λ_=>rfl,?_⟩
 ·cases h
 ·rfl
theorem ZDt (S:Nat->Prop) (w:World) (k:IntKind) (n:Int):ZGj S w (.int k) n (.int k n):=by
 refine⟨λh=>?_,λ_=>rfl,?_⟩
 ·cases h
 ·rfl
theorem bsize (s:List UInt8):(⟨s.toArray⟩:ByteArray).size=s.length:=by simp[ByteArray.size]
def ZlK:Ctr:=⟨[.dat .str,.dat .str],[.dat .str],λ(a:List UInt8×List UInt8×Unit) K=>Zr a λs a=>Zr a λcs _=>s.length<=1000000/\cs.length<=1000000/\cs.all (λb=>decide (b.toNat<128))=true/\K (Lib.trimS s cs,()) ()⟩
theorem Zq9:Zc Tryz.prog 227 ZlK:=by
 refine ZqA ⟨_,Tryz.func227,by kernel_rfl,by kernel_rfl⟩ rfl ?_;rintro w S vs ⟨(s:List UInt8),(cs:List UInt8),⟨⟩⟩ K ⟨v,vr,F,n,rfl,l,⟨_,d⟩,⟨u,U,A,B,rfl,c,⟨_,f⟩,g⟩⟩ ⟨G,o,t,k⟩;obtain⟨rfl,_⟩:=g;obtain⟨_,E,a⟩:=d;obtain⟨_,i,b⟩:=f;have H:v=.string ⟨s.toArray⟩:=by
  have:=E rfl;rw[this]at a;simpa[rep]using a
 have h:u=.string ⟨cs.toArray⟩:=by
  have:=i rfl;rw[this]at b;simpa[rep]using b
 subst H;subst h;refine⟨_,(),k,?_⟩;have q:=Go.Proofs.Any.strings_Trim_laid Tryz.lays160 (by kernel_rfl) ⟨s.toArray⟩ ⟨cs.toArray⟩ w (by rw[bsize];omega) (by rw[bsize];omega) (Go.Proofs.ascii_of_all (by simpa using t));refine(show Calls Tryz.prog 227 _ _ _ from q).mono ?_;rintro e w' ⟨m,j⟩;exact⟨⟨_,m,ZDu _ _ _⟩,j⟩
def Zh3:Ctr:=⟨[.dat .str,.dat (.int .u8)],[.dat tI],λ(a:List UInt8×Int×Unit) K=>Zr a λs a=>Zr a λc _=>K ((Lib.indexByte s c.toNat.toUInt8:Int),()) ()⟩
theorem Zl8:Zc Tryz.prog 228 Zh3:=by
 refine ZqA ⟨_,Tryz.func228,by kernel_rfl,by kernel_rfl⟩ rfl ?_;rintro w S vs ⟨(s:List UInt8),(c:Int),⟨⟩⟩ K ⟨v,vr,F,n,rfl,l,⟨_,h⟩,⟨u,U,A,B,rfl,d,⟨_,f⟩,g⟩⟩ k;obtain⟨rfl,_⟩:=g;obtain⟨_,E,a⟩:=h;obtain⟨_,i,b⟩:=f;have j:v=.string ⟨s.toArray⟩:=by
  have:=E rfl;rw[this]at a;simpa[rep]using a
 have H:u=.int .u8 c:=by
  have:=i rfl;rw[this]at b;simpa[rep]using b
 subst j;subst H;refine⟨_,(),k,?_⟩;have q:=Go.Proofs.Any.strings_IndexByte Tryz.lays137 ⟨s.toArray⟩ c w;refine(show Calls Tryz.prog 228 _ _ _ from q).mono ?_;rintro e w' ⟨m,rfl⟩;exact⟨⟨_,m,ZDt _ _ _ _⟩,RowKit.Below.refl _ _⟩
end Go.Proofs.YtoijdogpgpbddaaGreatDoor
