/-
  slices.SortFunc of sources by their nodes: its contract, by the kit's summary; its closure, walked.
-/
import Derived.Test.YtpiemlnhjobopaaGreatDoorSxS0
import Derived.Test.YtpiemlnhjobopaaGreatDoorSxSortF
import Derived.Test.YtpiemlnhjobopaaGreatDoorShF
import Derived.Shelf.SlicesG.Cmp
namespace Go.Proofs.YtpiemlnhjobopaaGreatDoor
set_option linter.unusedVariables false
set_option linter.unusedSimpArgs false
open Go Go.Sx Go.Shelf Go.RowKit Go.Lib Go.Sort
set_option maxHeartbeats 1000000 in
theorem Zp7 (x y:Y5.den) (W:World):Calls Tryz.prog 126 #[.agg (ZlY Y5 x).toArray,.agg (ZlY Y5 y).toArray] W fun e w'=>e=.returned (.int .i64 (Lib.compareInt x.1 y.1))∧∃ q os',w'=grow (W.drewN q) os':=by
 obtain ⟨n1,⟨a1,b1,⟨⟩⟩,⟨c1,d1,⟨⟩⟩,⟨⟩⟩:=x
 obtain ⟨n2,⟨a2,b2,⟨⟩⟩,⟨c2,d2,⟨⟩⟩,⟨⟩⟩:=y
 show Calls Tryz.prog 126 #[.agg #[.int .i64 n1,.int .i64 a1,.int .i64 b1,.int .i64 c1,.int .i64 d1],.agg #[.int .i64 n2,.int .i64 a2,.int .i64 b2,.int .i64 c2,.int .i64 d2]] W fun e w'=>e=.returned (.int .i64 (Lib.compareInt n1 n2))∧∃ q os',w'=grow (W.drewN q) os'
 have hcon:=fun W'=>AnyG.cmp_Compare_int Tryz.laysCmp n1 n2 W'
 change ∀ W',Calls Tryz.prog 127 _ _ _ at hcon
 generalize Lib.compareInt n1 n2=r at hcon ⊢
 go_enter Tryz.func126,Tryz.ntmps126
 go_wp2_with (go_at_call 127;refine (hcon _).mono ?_;rintro e w' ⟨rfl,rfl⟩)
 go_ret
 exact ⟨rfl,0,_,by rw [alloc_eq_grow,alloc_eq_grow,grow_grow];rfl⟩
noncomputable def Zh7:Ctr:=ZrG 118 Y5 (fun x=>x.1) 126
theorem Zni:Za Tryz.prog 125 Zh7 :=
 Zp8 Tryz.laysSortF 118 Y5 rfl Tryz.isAgg118 Tryz.sizeOf118 (fun x=>x.1) 126 ⟨_,Tryz.func125,by kernel_rfl,by kernel_rfl⟩
  (enters_of Tryz.func126 (by kernel_rfl) rfl) Zp7
end Go.Proofs.YtpiemlnhjobopaaGreatDoor
