/-
  Ground of the functions' proofs: small helps.
-/
import Derived.Test.YtgjjlgodlhhdoaaGreatDoorSxTab
import Derived.Test.YtgjjlgodlhhdoaaGreatDoorSxM
import Derived.IntWalk
namespace Go.Proofs.YtgjjlgodlhhdoaaGreatDoor
set_option linter.unusedVariables false
set_option linter.unusedSimpArgs false
open Go Go.Sx

theorem mixed:Tryz.prog.follows .mixedOrders=true:=by kernel_rfl

theorem Zk {P:Program}:Gam.ok [] P:=by intro x hx;cases hx
theorem Zb {P:Program} {Γ:Gam} {f:Nat} {C:Ctr} (h:Za P f C) (hΓ:Γ.ok P):Gam.ok ((f,C.cal)::Γ) P:=by
 intro x hx;rcases List.mem_cons.1 hx with rfl | hx
 ·exact Ctr.ZwG h
 ·exact hΓ x hx
/-- a function that is walked where it is called -/
theorem Zzg {P:Program} {Γ:Gam} {f:Nat} {C:Cal} (h:Zre P f C) (hΓ:Γ.ok P):Gam.ok ((f,C)::Γ) P:=by
 intro x hx;rcases List.mem_cons.1 hx with rfl | hx
 ·exact h
 ·exact hΓ x hx

theorem ZBP {α:Type} (y:α×Unit):(y.1,())=y:=rfl

theorem Zwp {α:Type} {o:Option α} {y:α} {G:α->Prop} (ha:o=some y) (k:G y):∀ x,o=some x->G x:=by
 intro x hx;rw[ha] at hx;injection hx with hx;subst hx;exact k

theorem ZBQ {A:Type} {K:A->Unit->Prop} {a b:A} (h:K a ()) (e:b=a):K b ():=e▸h
theorem ZBR {R:Type} {K:R×Unit->Unit->Prop} {a b:R} (h:K (a,()) ()) (e:b=a):K (b,()) ():=e▸h

theorem ZBT {K:Int×Unit->Unit->Prop} {a b:Int} (h:K (a,()) ()) (e:b=a):K (b,()) ():=e▸h
theorem ZBS {K:Bool×Unit->Unit->Prop} {a b:Bool} (h:K (a,()) ()) (e:b=a):K (b,()) ():=e▸h

abbrev tI:Ty:=.int .i64
theorem i64_in (n:Int) (h:-9223372036854775808<=n/\n<=9223372036854775807):IntKind.i64.wrap n=n:=IntWalk.i64_in n h

end Go.Proofs.YtgjjlgodlhhdoaaGreatDoor
