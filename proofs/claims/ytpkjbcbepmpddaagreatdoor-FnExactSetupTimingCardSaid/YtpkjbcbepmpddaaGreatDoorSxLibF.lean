/-
  slices.SortFunc of sources by their nodes: its contract, by the kit's summary; its closure, walked.
-/
import Derived.Test.YtpkjbcbepmpddaaGreatDoorSxS0
import Derived.Test.YtpkjbcbepmpddaaGreatDoorSxSortF
import Derived.Test.YtpkjbcbepmpddaaGreatDoorShF
import Derived.Shelf.SlicesG.Cmp
namespace Go.Proofs.YtpkjbcbepmpddaaGreatDoor
set_option linter.unusedVariables false
set_option linter.unusedSimpArgs false
open Go Go.Sx Go.Shelf Go.RowKit Go.Lib Go.Sort
set_option maxHeartbeats 1000000 in
theorem Zw3 (x y:Qn.den) (W:World):Calls Tryz.prog 161 #[.agg (ZqS Qn x).toArray,.agg (ZqS Qn y).toArray] W λe w'=>e=.returned (.int .i64 (Lib.compareInt x.1 y.1))/\∃ q os',w'=grow (W.drewN q) os':=by
 obtain ⟨n1,⟨a1,b1,⟨⟩⟩,⟨c1,d1,⟨⟩⟩,⟨⟩⟩:=x;obtain ⟨n2,⟨a2,b2,⟨⟩⟩,⟨c2,d2,⟨⟩⟩,⟨⟩⟩:=y;show Calls Tryz.prog 161 #[.agg #[.int .i64 n1,.int .i64 a1,.int .i64 b1,.int .i64 c1,.int .i64 d1],.agg #[.int .i64 n2,.int .i64 a2,.int .i64 b2,.int .i64 c2,.int .i64 d2]] W λe w'=>e=.returned (.int .i64 (Lib.compareInt n1 n2))/\∃ q os',w'=grow (W.drewN q) os';have hcon:=λW'=>AnyG.cmp_Compare_int Tryz.laysCmp n1 n2 W'
 change ∀ W',Calls Tryz.prog 162 _ _ _ at hcon
 generalize Lib.compareInt n1 n2=r at hcon ⊢
 go_enter Tryz.func161,Tryz.ntmps161
 go_wp2_with (go_at_call 162;refine (hcon _).mono ?_;rintro e w' ⟨rfl,rfl⟩)
 go_ret
 exact ⟨rfl,0,_,by rw[alloc_eq_grow,alloc_eq_grow,grow_grow];rfl⟩
noncomputable def Zmg:Ctr:=ZzG 162 Qn (λx=>x.1) 161
theorem ZsC:Za Tryz.prog 160 Zmg :=
 Zw4 Tryz.laysSortF 162 Qn rfl Tryz.isAgg162 Tryz.sizeOf162 (λx=>x.1) 161 ⟨_,Tryz.func160,by kernel_rfl,by kernel_rfl⟩
  (enters_of Tryz.func161 (by kernel_rfl) rfl) Zw3
end Go.Proofs.YtpkjbcbepmpddaaGreatDoor
