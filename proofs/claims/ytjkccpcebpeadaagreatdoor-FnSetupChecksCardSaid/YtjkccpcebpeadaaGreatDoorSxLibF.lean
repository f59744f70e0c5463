/-
  slices.SortFunc of sources by their nodes: its contract, by the kit's summary; its closure, walked.
-/
import Derived.Test.YtjkccpcebpeadaaGreatDoorSxS0
import Derived.Test.YtjkccpcebpeadaaGreatDoorSxSortF
import Derived.Test.YtjkccpcebpeadaaGreatDoorShF
import Derived.Shelf.SlicesG.Cmp
namespace Go.Proofs.YtjkccpcebpeadaaGreatDoor
set_option linter.unusedVariables false
set_option linter.unusedSimpArgs false
open Go Go.Sx Go.Shelf Go.RowKit Go.Lib Go.Sort
set_option maxHeartbeats 1000000 in
theorem Zs2 (x y:Xv.den) (W:World):Calls Tryz.prog 71 #[.agg (Znu Xv x).toArray,.agg (Znu Xv y).toArray] W λe w'=>e=.returned (.int .i64 (Lib.compareInt x.1 y.1))/\∃q o,w'=grow (W.drewN q) o:=by
 obtain⟨n1,⟨a1,b1,⟨⟩⟩,⟨c1,d,⟨⟩⟩,⟨⟩⟩:=x;obtain⟨n,⟨a,N,⟨⟩⟩,⟨c2,D,⟨⟩⟩,⟨⟩⟩:=y;show Calls Tryz.prog 71 #[.agg #[.int .i64 n1,.int .i64 a1,.int .i64 b1,.int .i64 c1,.int .i64 d],.agg #[.int .i64 n,.int .i64 a,.int .i64 N,.int .i64 c2,.int .i64 D]] W λe w'=>e=.returned (.int .i64 (Lib.compareInt n1 n))/\∃q o,w'=grow (W.drewN q) o;have h:=λW'=>AnyG.cmp_Compare_int Tryz.laysCmp n1 n W'
 change ∀W',Calls Tryz.prog 72 _ _ _ at h
 generalize Lib.compareInt n1 n=r at h ⊢
 go_enter Tryz.func71,Tryz.ntmps71
 go_wp2_with (go_at_call 72;refine(h _).mono ?_;rintro e w' ⟨rfl,rfl⟩)
 go_ret
 exact⟨rfl,0,_,by rw[alloc_eq_grow,alloc_eq_grow,grow_grow];rfl⟩
noncomputable def Zjx:Ctr:=ZvI 149 Xv (λx=>x.1) 71
theorem ZoQ:Za Tryz.prog 70 Zjx :=
 Zs3 Tryz.laysSortF 149 Xv rfl Tryz.isAgg149 Tryz.sizeOf149 (λx=>x.1) 71 ⟨_,Tryz.func70,by kernel_rfl,by kernel_rfl⟩
  (enters_of Tryz.func71 (by kernel_rfl) rfl) Zs2
end Go.Proofs.YtjkccpcebpeadaaGreatDoor
