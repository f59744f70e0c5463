/-
  Ground of the functions' proofs: small helps.
-/
import Derived.Test.YtepbknolmhmipaaGreatDoorSxTab
import Derived.Test.YtepbknolmhmipaaGreatDoorE1
import Derived.IntWalk
namespace Go.Proofs.YtepbknolmhmipaaGreatDoor
set_option linter.unusedVariables false
set_option linter.unusedSimpArgs false
open Go Go.Sx

theorem mixed:Tryz.prog.follows .mixedOrders=true:=by kernel_rfl

theorem Zi {P:Program}:Gam.ok [] P:=by intro x hx;cases hx
theorem Zb {P:Program} {Γ:Gam} {f:Nat} {C:Ctr} (h:Za P f C) (hΓ:Γ.ok P):Gam.ok ((f,C.cal)::Γ) P:=by
 intro x hx;rcases List.mem_cons.1 hx with rfl | hx
 ·exact Ctr.ZuF h
 ·exact hΓ x hx
/-- a function that is walked where it is called -/
theorem ZKI {P:Program} {Γ:Gam} {f:Nat} {C:Cal} (h:ZtE P f C) (hΓ:Γ.ok P):Gam.ok ((f,C)::Γ) P:=by
 intro x hx;rcases List.mem_cons.1 hx with rfl | hx
 ·exact h
 ·exact hΓ x hx

abbrev tI:Ty:=.int .i64
theorem i64_in (n:Int) (h:-9223372036854775808<=n/\n<=9223372036854775807):IntKind.i64.wrap n=n:=IntWalk.i64_in n h

end Go.Proofs.YtepbknolmhmipaaGreatDoor
