/-
  The functions keep their contracts, if what they call does. Printed by program.
-/
import Derived.Test.YtnnbgbgapogckaaGreatDoorM
import Derived.KernelRfl
namespace Go.Proofs.YtnnbgbgapogckaaGreatDoor
open Go Go.Sx
set_option maxRecDepth 100000
set_option maxHeartbeats 6400000
set_option linter.unusedVariables false
set_option linter.unusedSimpArgs false
theorem w26 (q2:Sq 125 c18) (q3:Sq 44 c2) (q0:Sq 96 c13) (q4:Sq 180 c19) (q1:Sq 181 c25):Sq 99 c26:=by
 refine Zm VX (Zg q2 (Zg q3 (Zg q0 (Zg q4 (Zg q1 Zu))))) mixed {loops:=[(0,[.reg 9 (.dat Iq),.cell 1000 0 (.sl (.int .u8)),.cell 1000 1 Iq,.cell 1000 2 Iq,.cello 1008 0 (.ol 102 (.flat (Xd)))]),(2,[.reg 11 (.own (.ol 173 (.flat (Vy)))),.reg 12 (.own (.ol 173 (.flat (Vy)))),.reg 13 (.dat Iq),.cell 1000 0 (.sl (.int .u8)),.cell 1000 1 Iq,.cell 1000 2 Iq]),(5,[.reg 17 (.own (.ol 175 (ZaK))),.reg 18 (.dat Iq),.cell 1000 0 (.sl (.int .u8)),.cell 1000 1 Iq,.cell 1000 2 Iq])],draws:=[(17,[0,0,2,7,0,16,63,127,255],.op 1 (.op 2 (.ld 4 (.alt 0 (.alt 3 (.alt 5 (.alt 6 (.op 7 (.alt 8 (.done) (.done))) (.done)) (.done)) (.alt 5 (.alt 3 (.alt 6 (.op 7 (.alt 8 (.done) (.done))) (.done)) (.done)) (.done))) (.alt 5 (.alt 0 (.alt 3 (.alt 6 (.op 7 (.alt 8 (.done) (.done))) (.done)) (.done)) (.done)) (.done)))))),(48,[0,0,1,7],.op 0 (.alt 1 (.alt 2 (.alt 3 (.done) (.done)) (.done)) (.alt 2 (.alt 1 (.alt 3 (.done) (.done)) (.done)) (.done))))]} (fn:=Tryz.f99) Tryz.func99 (by kernel_rfl) (by kernel_rfl) ?_
 rintro ⟨a0,⟨⟩⟩ K ⟨r,h,hK⟩
 change Vj a0=some r at h
 unfold Vj at h
 conv=>whnf
 refine Ze h (fun l07Draw0 hb0 h=>?_)
 conv=>whnf
 intro fp1
 conv=>whnf
 intro fp2
 conv=>whnf
 intro fp3
 conv=>whnf
 refine Ze h (fun l01Next0 hb4 h=>?_)
 conv=>whnf
 refine ZG h (fun h=>?_) (fun h=>?_)
 conv=>whnf
 refine Ze h (fun l07Draw1 hb5 h=>?_)
 conv=>whnf
 intro fp6
 conv=>whnf
 intro fp7
 conv=>whnf
 intro fp8
 conv=>whnf
 refine Ze h (fun l05Places0 hb9 h=>?_)
 conv=>whnf
 refine Ze h (fun l14Draw0 hb10 h=>?_)
 conv=>whnf
 refine ZcV h (fun h=>?_) (fun h=>?_)
 conv=>whnf
 refine Ze h (fun l01Next1 hb11 h=>?_)
 conv=>whnf
 refine YH h ?_
 rintro I12 μ12 ⟨v0,c0,c1,c2,c3,⟨⟩⟩ zs12 h hI12 hR12
 change ZX l07Draw1 l05Places0 l01Next1 v0 c0 c1 c2 c3=some zs12 at h
 unfold ZX at h
 conv=>whnf
 refine ZG h (fun h=>?_) (fun h=>?_)
 conv=>whnf
 refine vAt h (fun x0 he13a he13b he13x h=>?_)
 conv=>whnf
 refine ⟨by kernel_rfl,?_⟩
 conv=>whnf
 refine ⟨he13a,he13b,Zh he13x ?_⟩
 conv=>whnf
 refine ZG h (fun h=>?_) (fun h=>?_)
 focus
  conv=>whnf
  refine Ze h (fun l01Next2 hb14 h=>?_)
  conv=>whnf
  refine ⟨by kernel_rfl,?_⟩
  conv=>whnf
  refine ⟨by kernel_rfl,?_⟩
  conv=>whnf
  obtain ⟨hp15,h⟩:=guardE h
  obtain ⟨hp16,h⟩:=guardE h
  refine ⟨?_,?_⟩
  rotate_left
  focus
   conv=>whnf
   refine ⟨by kernel_rfl,?_⟩
   conv=>whnf
   refine ⟨hp15,?_⟩
   conv=>whnf
   refine ⟨by kernel_rfl,?_⟩
   conv=>whnf
   refine ⟨hp16,?_⟩
   conv=>whnf
   refine ⟨trivial,?_⟩
  rotate_right
  focus
   conv=>whnf
   refine ⟨?_,?_⟩
   rotate_left
   focus
    conv=>whnf
    refine ⟨by kernel_rfl,?_⟩
    conv=>whnf
    refine ⟨hp15,?_⟩
    conv=>whnf
    refine ⟨by kernel_rfl,?_⟩
    conv=>whnf
    refine ⟨hp16,?_⟩
    conv=>whnf
    refine ⟨trivial,?_⟩
   rotate_right
   focus
    conv=>whnf
    refine ⟨by kernel_rfl,?_⟩
    conv=>whnf
    refine ⟨hp15,?_⟩
    conv=>whnf
    refine ⟨by kernel_rfl,?_⟩
    conv=>whnf
    refine ⟨hp16,?_⟩
    conv=>whnf
    refine ⟨trivial,?_⟩
  all_goals
   conv=>whnf
   cases h
   exact ⟨⟨rfl,rfl⟩,hI12 _ rfl⟩
 focus
  conv=>whnf
  refine ⟨by kernel_rfl,?_⟩
  conv=>whnf
  refine ⟨by kernel_rfl,?_⟩
  conv=>whnf
  obtain ⟨hp17,h⟩:=guardE h
  obtain ⟨hp18,h⟩:=guardE h
  refine ⟨?_,?_⟩
  rotate_left
  focus
   conv=>whnf
   refine ⟨by kernel_rfl,?_⟩
   conv=>whnf
   refine ⟨hp17,?_⟩
   conv=>whnf
   refine ⟨by kernel_rfl,?_⟩
   conv=>whnf
   refine ⟨hp18,?_⟩
   conv=>whnf
   refine ⟨trivial,?_⟩
  rotate_right
  focus
   conv=>whnf
   refine ⟨?_,?_⟩
   rotate_left
   focus
    conv=>whnf
    refine ⟨by kernel_rfl,?_⟩
    conv=>whnf
    refine ⟨hp17,?_⟩
    conv=>whnf
    refine ⟨by kernel_rfl,?_⟩
    conv=>whnf
    refine ⟨hp18,?_⟩
    conv=>whnf
    refine ⟨trivial,?_⟩
   rotate_right
   focus
    conv=>whnf
    refine ⟨by kernel_rfl,?_⟩
    conv=>whnf
    refine ⟨hp17,?_⟩
    conv=>whnf
    refine ⟨by kernel_rfl,?_⟩
    conv=>whnf
    refine ⟨hp18,?_⟩
    conv=>whnf
    refine ⟨trivial,?_⟩
  all_goals
   conv=>whnf
   cases h
   exact ⟨⟨rfl,rfl⟩,hI12 _ rfl⟩
 conv=>whnf
 refine YH h ?_
 rintro I19 μ19 ⟨v1,v2,v3,c4,c5,c6,⟨⟩⟩ zs19 h hI19 hR19
 change Z9 l07Draw1 l05Places0 l01Next1 c3 v1 v2 v3 c4 c5 c6=some zs19 at h
 unfold Z9 at h
 conv=>whnf
 refine ZG h (fun h=>?_) (fun h=>?_)
 conv=>whnf
 refine Ze h (fun l01Next2 hb20 h=>?_)
 conv=>whnf
 refine Ze h (fun l01Next3 hb21 h=>?_)
 conv=>whnf
 refine Ze h (fun l01Next4 hb22 h=>?_)
 conv=>whnf
 refine vAt h (fun x0 he23a he23b he23x h=>?_)
 conv=>whnf
 refine ⟨by kernel_rfl,?_⟩
 conv=>whnf
 refine ⟨he23a,he23b,Zh he23x ?_⟩
 conv=>whnf
 refine Qn h (fun h=>?_) (fun h=>?_)
 conv=>whnf
 refine Yc ?_
 refine ZG h (fun h=>?_) (fun h=>?_)
 conv=>whnf
 refine ⟨he23a,he23b,Zh he23x ?_⟩
 conv=>whnf
 refine ⟨by kernel_rfl,?_⟩
 conv=>whnf
 refine ⟨he23a,he23b,Zh he23x ?_⟩
 conv=>whnf
 refine Yc ?_
 refine Qn h (fun h=>?_) (fun h=>?_)
 conv=>whnf
 cases h
 exact ⟨⟨rfl,rfl⟩,hI19 _ rfl⟩
 conv=>whnf
 refine Ze h (fun l01Next5 hb24 h=>?_)
 conv=>whnf
 refine ZG h (fun h=>?_) (fun h=>?_)
 conv=>whnf
 refine Yk h (fun hp25 h=>?_)
 conv=>whnf
 cases h
 exact ⟨⟨rfl,rfl⟩,hI19 _ rfl⟩
 conv=>whnf
 cases h
 exact ⟨⟨rfl,rfl⟩,hI19 _ rfl⟩
 conv=>whnf
 refine Ze h (fun l01Next5 hb26 h=>?_)
 conv=>whnf
 refine ZG h (fun h=>?_) (fun h=>?_)
 conv=>whnf
 refine Ze h (fun l01Next6 hb27 h=>?_)
 conv=>whnf
 refine Ze h (fun l01Next7 hb28 h=>?_)
 conv=>whnf
 refine Yk h (fun hp29 h=>?_)
 conv=>whnf
 cases h
 exact ⟨⟨rfl,rfl⟩,hI19 _ rfl⟩
 conv=>whnf
 refine ⟨he23a,he23b,Zh he23x ?_⟩
 conv=>whnf
 refine ⟨by kernel_rfl,?_⟩
 conv=>whnf
 refine ⟨he23a,he23b,Zh he23x ?_⟩
 conv=>whnf
 refine Yc ?_
 refine Qn h (fun h=>?_) (fun h=>?_)
 conv=>whnf
 cases h
 exact ⟨⟨rfl,rfl⟩,hI19 _ rfl⟩
 conv=>whnf
 refine Ze h (fun l01Next6 hb30 h=>?_)
 conv=>whnf
 refine ZG h (fun h=>?_) (fun h=>?_)
 conv=>whnf
 refine Yk h (fun hp31 h=>?_)
 conv=>whnf
 cases h
 exact ⟨⟨rfl,rfl⟩,hI19 _ rfl⟩
 conv=>whnf
 cases h
 exact ⟨⟨rfl,rfl⟩,hI19 _ rfl⟩
 conv=>whnf
 refine ⟨he23a,he23b,Zh he23x ?_⟩
 conv=>whnf
 refine ⟨by kernel_rfl,?_⟩
 conv=>whnf
 refine ⟨he23a,he23b,Zh he23x ?_⟩
 conv=>whnf
 refine Yc ?_
 refine Qn h (fun h=>?_) (fun h=>?_)
 conv=>whnf
 cases h
 exact ⟨⟨rfl,rfl⟩,hI19 _ rfl⟩
 conv=>whnf
 refine Ze h (fun l01Next5 hb32 h=>?_)
 conv=>whnf
 refine ZG h (fun h=>?_) (fun h=>?_)
 conv=>whnf
 refine Yk h (fun hp33 h=>?_)
 conv=>whnf
 cases h
 exact ⟨⟨rfl,rfl⟩,hI19 _ rfl⟩
 conv=>whnf
 cases h
 exact ⟨⟨rfl,rfl⟩,hI19 _ rfl⟩
 conv=>whnf
 intro fp34
 conv=>whnf
 refine Ze h (fun l01Next2 hb35 h=>?_)
 conv=>whnf
 refine YH h ?_
 rintro I36 μ36 ⟨v4,v5,c7,c8,c9,⟨⟩⟩ zs36 h hI36 hR36
 change Z8 l07Draw1 l05Places0 c3 v1 v2 v4 v5 c7 c8 c9=some zs36 at h
 unfold Z8 at h
 conv=>whnf
 intro fp37
 conv=>whnf
 refine ZG h (fun h=>?_) (fun h=>?_)
 conv=>whnf
 refine Ze h (fun l01Next3 hb38 h=>?_)
 conv=>whnf
 refine Yc ?_
 refine ZG h (fun h=>?_) (fun h=>?_)
 conv=>whnf
 refine Ze h (fun l01Next4 hb39 h=>?_)
 conv=>whnf
 refine ZG h (fun h=>?_) (fun h=>?_)
 conv=>whnf
 refine Ze h (fun l01Next5 hb40 h=>?_)
 conv=>whnf
 intro fp41
 conv=>whnf
 refine Yk h (fun hp42 h=>?_)
 conv=>whnf
 intro fp43
 conv=>whnf
 cases h
 exact ⟨⟨rfl,rfl⟩,hI36 _ rfl⟩
 conv=>whnf
 intro fp44
 conv=>whnf
 refine Yk h (fun hp45 h=>?_)
 conv=>whnf
 intro fp46
 conv=>whnf
 cases h
 exact ⟨⟨rfl,rfl⟩,hI36 _ rfl⟩
 conv=>whnf
 refine Ze h (fun l01Next4 hb47 h=>?_)
 conv=>whnf
 refine Ze h (fun l01Next5 hb48 h=>?_)
 conv=>whnf
 refine ZG h (fun h=>?_) (fun h=>?_)
 conv=>whnf
 refine Ze h (fun l01Next6 hb49 h=>?_)
 conv=>whnf
 intro fp50
 conv=>whnf
 refine Yk h (fun hp51 h=>?_)
 conv=>whnf
 intro fp52
 conv=>whnf
 cases h
 exact ⟨⟨rfl,rfl⟩,hI36 _ rfl⟩
 conv=>whnf
 intro fp53
 conv=>whnf
 refine Yk h (fun hp54 h=>?_)
 conv=>whnf
 intro fp55
 conv=>whnf
 cases h
 exact ⟨⟨rfl,rfl⟩,hI36 _ rfl⟩
 conv=>whnf
 refine Ze h (fun l01Next3 hb56 h=>?_)
 conv=>whnf
 refine ZG h (fun h=>?_) (fun h=>?_)
 focus
  conv=>whnf
  refine ⟨by decide,?_⟩
  conv=>whnf
  refine ⟨by kernel_rfl,?_⟩
  conv=>whnf
  refine ⟨?_,?_⟩
  rotate_left
  focus
   conv=>whnf
   refine ⟨trivial,?_⟩
  rotate_right
  focus
   conv=>whnf
   refine ⟨trivial,?_⟩
  all_goals
   conv=>whnf
   cases h
   obtain rfl:=hR36 _ rfl
   obtain rfl:=hR19 _ rfl
   obtain rfl:=hR12 _ rfl
   exact hK
 focus
  conv=>whnf
  refine ⟨by kernel_rfl,?_⟩
  conv=>whnf
  refine ⟨?_,?_⟩
  rotate_left
  focus
   conv=>whnf
   refine ⟨trivial,?_⟩
  rotate_right
  focus
   conv=>whnf
   refine ⟨trivial,?_⟩
  all_goals
   conv=>whnf
   cases h
   obtain rfl:=hR36 _ rfl
   obtain rfl:=hR19 _ rfl
   obtain rfl:=hR12 _ rfl
   exact hK
 conv=>whnf
 refine Ze h (fun IsClocks0 hb57 h=>?_)
 conv=>whnf
 refine Yc ?_
 refine Qn h (fun h=>?_) (fun h=>?_)
 conv=>whnf
 refine YH h ?_
 rintro I58 μ58 ⟨v0,c0,c1,c2,c3,⟨⟩⟩ zs58 h hI58 hR58
 change YQ l07Draw1 l05Places0 l14Draw0 v0 c0 c1 c2 c3=some zs58 at h
 unfold YQ at h
 conv=>whnf
 refine ZG h (fun h=>?_) (fun h=>?_)
 conv=>whnf
 refine vAt h (fun x0 he59a he59b he59x h=>?_)
 conv=>whnf
 refine ⟨by kernel_rfl,?_⟩
 conv=>whnf
 refine ⟨he59a,he59b,Zh he59x ?_⟩
 conv=>whnf
 refine ZG h (fun h=>?_) (fun h=>?_)
 focus
  conv=>whnf
  refine Ze h (fun l01Next1 hb60 h=>?_)
  conv=>whnf
  refine ⟨by kernel_rfl,?_⟩
  conv=>whnf
  refine ⟨by kernel_rfl,?_⟩
  conv=>whnf
  obtain ⟨hp61,h⟩:=guardE h
  obtain ⟨hp62,h⟩:=guardE h
  refine ⟨?_,?_⟩
  rotate_left
  focus
   conv=>whnf
   refine ⟨by kernel_rfl,?_⟩
   conv=>whnf
   refine ⟨hp61,?_⟩
   conv=>whnf
   refine ⟨by kernel_rfl,?_⟩
   conv=>whnf
   refine ⟨hp62,?_⟩
   conv=>whnf
   refine ⟨trivial,?_⟩
  rotate_right
  focus
   conv=>whnf
   refine ⟨?_,?_⟩
   rotate_left
   focus
    conv=>whnf
    refine ⟨by kernel_rfl,?_⟩
    conv=>whnf
    refine ⟨hp61,?_⟩
    conv=>whnf
    refine ⟨by kernel_rfl,?_⟩
    conv=>whnf
    refine ⟨hp62,?_⟩
    conv=>whnf
    refine ⟨trivial,?_⟩
   rotate_right
   focus
    conv=>whnf
    refine ⟨by kernel_rfl,?_⟩
    conv=>whnf
    refine ⟨hp61,?_⟩
    conv=>whnf
    refine ⟨by kernel_rfl,?_⟩
    conv=>whnf
    refine ⟨hp62,?_⟩
    conv=>whnf
    refine ⟨trivial,?_⟩
  all_goals
   conv=>whnf
   cases h
   exact ⟨⟨rfl,rfl⟩,hI58 _ rfl⟩
 focus
  conv=>whnf
  refine ⟨by kernel_rfl,?_⟩
  conv=>whnf
  refine ⟨by kernel_rfl,?_⟩
  conv=>whnf
  obtain ⟨hp63,h⟩:=guardE h
  obtain ⟨hp64,h⟩:=guardE h
  refine ⟨?_,?_⟩
  rotate_left
  focus
   conv=>whnf
   refine ⟨by kernel_rfl,?_⟩
   conv=>whnf
   refine ⟨hp63,?_⟩
   conv=>whnf
   refine ⟨by kernel_rfl,?_⟩
   conv=>whnf
   refine ⟨hp64,?_⟩
   conv=>whnf
   refine ⟨trivial,?_⟩
  rotate_right
  focus
   conv=>whnf
   refine ⟨?_,?_⟩
   rotate_left
   focus
    conv=>whnf
    refine ⟨by kernel_rfl,?_⟩
    conv=>whnf
    refine ⟨hp63,?_⟩
    conv=>whnf
    refine ⟨by kernel_rfl,?_⟩
    conv=>whnf
    refine ⟨hp64,?_⟩
    conv=>whnf
    refine ⟨trivial,?_⟩
   rotate_right
   focus
    conv=>whnf
    refine ⟨by kernel_rfl,?_⟩
    conv=>whnf
    refine ⟨hp63,?_⟩
    conv=>whnf
    refine ⟨by kernel_rfl,?_⟩
    conv=>whnf
    refine ⟨hp64,?_⟩
    conv=>whnf
    refine ⟨trivial,?_⟩
  all_goals
   conv=>whnf
   cases h
   exact ⟨⟨rfl,rfl⟩,hI58 _ rfl⟩
 conv=>whnf
 refine YH h ?_
 rintro I65 μ65 ⟨v1,v2,v3,c4,c5,c6,⟨⟩⟩ zs65 h hI65 hR65
 change YP l07Draw1 l05Places0 l14Draw0 c3 v1 v2 v3 c4 c5 c6=some zs65 at h
 unfold YP at h
 conv=>whnf
 refine ZG h (fun h=>?_) (fun h=>?_)
 conv=>whnf
 refine Ze h (fun l01Next1 hb66 h=>?_)
 conv=>whnf
 refine Ze h (fun l01Next2 hb67 h=>?_)
 conv=>whnf
 refine Ze h (fun l01Next3 hb68 h=>?_)
 conv=>whnf
 refine vAt h (fun x0 he69a he69b he69x h=>?_)
 conv=>whnf
 refine ⟨by kernel_rfl,?_⟩
 conv=>whnf
 refine ⟨he69a,he69b,Zh he69x ?_⟩
 conv=>whnf
 refine Qn h (fun h=>?_) (fun h=>?_)
 conv=>whnf
 refine Yc ?_
 refine ZG h (fun h=>?_) (fun h=>?_)
 conv=>whnf
 refine ⟨he69a,he69b,Zh he69x ?_⟩
 conv=>whnf
 refine ⟨by kernel_rfl,?_⟩
 conv=>whnf
 refine ⟨he69a,he69b,Zh he69x ?_⟩
 conv=>whnf
 refine Yc ?_
 refine Qn h (fun h=>?_) (fun h=>?_)
 conv=>whnf
 cases h
 exact ⟨⟨rfl,rfl⟩,hI65 _ rfl⟩
 conv=>whnf
 refine Ze h (fun l01Next4 hb70 h=>?_)
 conv=>whnf
 refine ZG h (fun h=>?_) (fun h=>?_)
 conv=>whnf
 refine Yk h (fun hp71 h=>?_)
 conv=>whnf
 cases h
 exact ⟨⟨rfl,rfl⟩,hI65 _ rfl⟩
 conv=>whnf
 cases h
 exact ⟨⟨rfl,rfl⟩,hI65 _ rfl⟩
 conv=>whnf
 refine Ze h (fun l01Next4 hb72 h=>?_)
 conv=>whnf
 refine ZG h (fun h=>?_) (fun h=>?_)
 conv=>whnf
 refine Ze h (fun l01Next5 hb73 h=>?_)
 conv=>whnf
 refine Ze h (fun l01Next6 hb74 h=>?_)
 conv=>whnf
 refine Yk h (fun hp75 h=>?_)
 conv=>whnf
 cases h
 exact ⟨⟨rfl,rfl⟩,hI65 _ rfl⟩
 conv=>whnf
 refine ⟨he69a,he69b,Zh he69x ?_⟩
 conv=>whnf
 refine ⟨by kernel_rfl,?_⟩
 conv=>whnf
 refine ⟨he69a,he69b,Zh he69x ?_⟩
 conv=>whnf
 refine Yc ?_
 refine Qn h (fun h=>?_) (fun h=>?_)
 conv=>whnf
 cases h
 exact ⟨⟨rfl,rfl⟩,hI65 _ rfl⟩
 conv=>whnf
 refine Ze h (fun l01Next5 hb76 h=>?_)
 conv=>whnf
 refine ZG h (fun h=>?_) (fun h=>?_)
 conv=>whnf
 refine Yk h (fun hp77 h=>?_)
 conv=>whnf
 cases h
 exact ⟨⟨rfl,rfl⟩,hI65 _ rfl⟩
 conv=>whnf
 cases h
 exact ⟨⟨rfl,rfl⟩,hI65 _ rfl⟩
 conv=>whnf
 refine ⟨he69a,he69b,Zh he69x ?_⟩
 conv=>whnf
 refine ⟨by kernel_rfl,?_⟩
 conv=>whnf
 refine ⟨he69a,he69b,Zh he69x ?_⟩
 conv=>whnf
 refine Yc ?_
 refine Qn h (fun h=>?_) (fun h=>?_)
 conv=>whnf
 cases h
 exact ⟨⟨rfl,rfl⟩,hI65 _ rfl⟩
 conv=>whnf
 refine Ze h (fun l01Next4 hb78 h=>?_)
 conv=>whnf
 refine ZG h (fun h=>?_) (fun h=>?_)
 conv=>whnf
 refine Yk h (fun hp79 h=>?_)
 conv=>whnf
 cases h
 exact ⟨⟨rfl,rfl⟩,hI65 _ rfl⟩
 conv=>whnf
 cases h
 exact ⟨⟨rfl,rfl⟩,hI65 _ rfl⟩
 conv=>whnf
 intro fp80
 conv=>whnf
 refine Ze h (fun l01Next1 hb81 h=>?_)
 conv=>whnf
 refine YH h ?_
 rintro I82 μ82 ⟨v4,v5,c7,c8,c9,⟨⟩⟩ zs82 h hI82 hR82
 change YO l07Draw1 l05Places0 c3 v1 v2 v4 v5 c7 c8 c9=some zs82 at h
 unfold YO at h
 conv=>whnf
 intro fp83
 conv=>whnf
 refine ZG h (fun h=>?_) (fun h=>?_)
 conv=>whnf
 refine Ze h (fun l01Next2 hb84 h=>?_)
 conv=>whnf
 refine Yc ?_
 refine ZG h (fun h=>?_) (fun h=>?_)
 conv=>whnf
 refine Ze h (fun l01Next3 hb85 h=>?_)
 conv=>whnf
 refine ZG h (fun h=>?_) (fun h=>?_)
 conv=>whnf
 refine Ze h (fun l01Next4 hb86 h=>?_)
 conv=>whnf
 intro fp87
 conv=>whnf
 refine Yk h (fun hp88 h=>?_)
 conv=>whnf
 intro fp89
 conv=>whnf
 cases h
 exact ⟨⟨rfl,rfl⟩,hI82 _ rfl⟩
 conv=>whnf
 intro fp90
 conv=>whnf
 refine Yk h (fun hp91 h=>?_)
 conv=>whnf
 intro fp92
 conv=>whnf
 cases h
 exact ⟨⟨rfl,rfl⟩,hI82 _ rfl⟩
 conv=>whnf
 refine Ze h (fun l01Next3 hb93 h=>?_)
 conv=>whnf
 refine Ze h (fun l01Next4 hb94 h=>?_)
 conv=>whnf
 refine ZG h (fun h=>?_) (fun h=>?_)
 conv=>whnf
 refine Ze h (fun l01Next5 hb95 h=>?_)
 conv=>whnf
 intro fp96
 conv=>whnf
 refine Yk h (fun hp97 h=>?_)
 conv=>whnf
 intro fp98
 conv=>whnf
 cases h
 exact ⟨⟨rfl,rfl⟩,hI82 _ rfl⟩
 conv=>whnf
 intro fp99
 conv=>whnf
 refine Yk h (fun hp100 h=>?_)
 conv=>whnf
 intro fp101
 conv=>whnf
 cases h
 exact ⟨⟨rfl,rfl⟩,hI82 _ rfl⟩
 conv=>whnf
 refine Ze h (fun l01Next2 hb102 h=>?_)
 conv=>whnf
 refine ZG h (fun h=>?_) (fun h=>?_)
 focus
  conv=>whnf
  refine ⟨by decide,?_⟩
  conv=>whnf
  refine ⟨by kernel_rfl,?_⟩
  conv=>whnf
  refine ⟨?_,?_⟩
  rotate_left
  focus
   conv=>whnf
   refine ⟨trivial,?_⟩
  rotate_right
  focus
   conv=>whnf
   refine ⟨trivial,?_⟩
  all_goals
   conv=>whnf
   cases h
   obtain rfl:=hR82 _ rfl
   obtain rfl:=hR65 _ rfl
   obtain rfl:=hR58 _ rfl
   exact hK
 focus
  conv=>whnf
  refine ⟨by kernel_rfl,?_⟩
  conv=>whnf
  refine ⟨?_,?_⟩
  rotate_left
  focus
   conv=>whnf
   refine ⟨trivial,?_⟩
  rotate_right
  focus
   conv=>whnf
   refine ⟨trivial,?_⟩
  all_goals
   conv=>whnf
   cases h
   obtain rfl:=hR82 _ rfl
   obtain rfl:=hR65 _ rfl
   obtain rfl:=hR58 _ rfl
   exact hK
 conv=>whnf
 refine Ze h (fun l01Next1 hb103 h=>?_)
 conv=>whnf
 refine YH h ?_
 rintro I104 μ104 ⟨v0,c0,c1,c2,c3,⟨⟩⟩ zs104 h hI104 hR104
 change ZX l07Draw1 l05Places0 l01Next1 v0 c0 c1 c2 c3=some zs104 at h
 unfold ZX at h
 conv=>whnf
 refine ZG h (fun h=>?_) (fun h=>?_)
 conv=>whnf
 refine vAt h (fun x0 he105a he105b he105x h=>?_)
 conv=>whnf
 refine ⟨by kernel_rfl,?_⟩
 conv=>whnf
 refine ⟨he105a,he105b,Zh he105x ?_⟩
 conv=>whnf
 refine ZG h (fun h=>?_) (fun h=>?_)
 focus
  conv=>whnf
  refine Ze h (fun l01Next2 hb106 h=>?_)
  conv=>whnf
  refine ⟨by kernel_rfl,?_⟩
  conv=>whnf
  refine ⟨by kernel_rfl,?_⟩
  conv=>whnf
  obtain ⟨hp107,h⟩:=guardE h
  obtain ⟨hp108,h⟩:=guardE h
  refine ⟨?_,?_⟩
  rotate_left
  focus
   conv=>whnf
   refine ⟨by kernel_rfl,?_⟩
   conv=>whnf
   refine ⟨hp107,?_⟩
   conv=>whnf
   refine ⟨by kernel_rfl,?_⟩
   conv=>whnf
   refine ⟨hp108,?_⟩
   conv=>whnf
   refine ⟨trivial,?_⟩
  rotate_right
  focus
   conv=>whnf
   refine ⟨?_,?_⟩
   rotate_left
   focus
    conv=>whnf
    refine ⟨by kernel_rfl,?_⟩
    conv=>whnf
    refine ⟨hp107,?_⟩
    conv=>whnf
    refine ⟨by kernel_rfl,?_⟩
    conv=>whnf
    refine ⟨hp108,?_⟩
    conv=>whnf
    refine ⟨trivial,?_⟩
   rotate_right
   focus
    conv=>whnf
    refine ⟨by kernel_rfl,?_⟩
    conv=>whnf
    refine ⟨hp107,?_⟩
    conv=>whnf
    refine ⟨by kernel_rfl,?_⟩
    conv=>whnf
    refine ⟨hp108,?_⟩
    conv=>whnf
    refine ⟨trivial,?_⟩
  all_goals
   conv=>whnf
   cases h
   exact ⟨⟨rfl,rfl⟩,hI104 _ rfl⟩
 focus
  conv=>whnf
  refine ⟨by kernel_rfl,?_⟩
  conv=>whnf
  refine ⟨by kernel_rfl,?_⟩
  conv=>whnf
  obtain ⟨hp109,h⟩:=guardE h
  obtain ⟨hp110,h⟩:=guardE h
  refine ⟨?_,?_⟩
  rotate_left
  focus
   conv=>whnf
   refine ⟨by kernel_rfl,?_⟩
   conv=>whnf
   refine ⟨hp109,?_⟩
   conv=>whnf
   refine ⟨by kernel_rfl,?_⟩
   conv=>whnf
   refine ⟨hp110,?_⟩
   conv=>whnf
   refine ⟨trivial,?_⟩
  rotate_right
  focus
   conv=>whnf
   refine ⟨?_,?_⟩
   rotate_left
   focus
    conv=>whnf
    refine ⟨by kernel_rfl,?_⟩
    conv=>whnf
    refine ⟨hp109,?_⟩
    conv=>whnf
    refine ⟨by kernel_rfl,?_⟩
    conv=>whnf
    refine ⟨hp110,?_⟩
    conv=>whnf
    refine ⟨trivial,?_⟩
   rotate_right
   focus
    conv=>whnf
    refine ⟨by kernel_rfl,?_⟩
    conv=>whnf
    refine ⟨hp109,?_⟩
    conv=>whnf
    refine ⟨by kernel_rfl,?_⟩
    conv=>whnf
    refine ⟨hp110,?_⟩
    conv=>whnf
    refine ⟨trivial,?_⟩
  all_goals
   conv=>whnf
   cases h
   exact ⟨⟨rfl,rfl⟩,hI104 _ rfl⟩
 conv=>whnf
 refine YH h ?_
 rintro I111 μ111 ⟨v1,v2,v3,c4,c5,c6,⟨⟩⟩ zs111 h hI111 hR111
 change Z9 l07Draw1 l05Places0 l01Next1 c3 v1 v2 v3 c4 c5 c6=some zs111 at h
 unfold Z9 at h
 conv=>whnf
 refine ZG h (fun h=>?_) (fun h=>?_)
 conv=>whnf
 refine Ze h (fun l01Next2 hb112 h=>?_)
 conv=>whnf
 refine Ze h (fun l01Next3 hb113 h=>?_)
 conv=>whnf
 refine Ze h (fun l01Next4 hb114 h=>?_)
 conv=>whnf
 refine vAt h (fun x0 he115a he115b he115x h=>?_)
 conv=>whnf
 refine ⟨by kernel_rfl,?_⟩
 conv=>whnf
 refine ⟨he115a,he115b,Zh he115x ?_⟩
 conv=>whnf
 refine Qn h (fun h=>?_) (fun h=>?_)
 conv=>whnf
 refine Yc ?_
 refine ZG h (fun h=>?_) (fun h=>?_)
 conv=>whnf
 refine ⟨he115a,he115b,Zh he115x ?_⟩
 conv=>whnf
 refine ⟨by kernel_rfl,?_⟩
 conv=>whnf
 refine ⟨he115a,he115b,Zh he115x ?_⟩
 conv=>whnf
 refine Yc ?_
 refine Qn h (fun h=>?_) (fun h=>?_)
 conv=>whnf
 cases h
 exact ⟨⟨rfl,rfl⟩,hI111 _ rfl⟩
 conv=>whnf
 refine Ze h (fun l01Next5 hb116 h=>?_)
 conv=>whnf
 refine ZG h (fun h=>?_) (fun h=>?_)
 conv=>whnf
 refine Yk h (fun hp117 h=>?_)
 conv=>whnf
 cases h
 exact ⟨⟨rfl,rfl⟩,hI111 _ rfl⟩
 conv=>whnf
 cases h
 exact ⟨⟨rfl,rfl⟩,hI111 _ rfl⟩
 conv=>whnf
 refine Ze h (fun l01Next5 hb118 h=>?_)
 conv=>whnf
 refine ZG h (fun h=>?_) (fun h=>?_)
 conv=>whnf
 refine Ze h (fun l01Next6 hb119 h=>?_)
 conv=>whnf
 refine Ze h (fun l01Next7 hb120 h=>?_)
 conv=>whnf
 refine Yk h (fun hp121 h=>?_)
 conv=>whnf
 cases h
 exact ⟨⟨rfl,rfl⟩,hI111 _ rfl⟩
 conv=>whnf
 refine ⟨he115a,he115b,Zh he115x ?_⟩
 conv=>whnf
 refine ⟨by kernel_rfl,?_⟩
 conv=>whnf
 refine ⟨he115a,he115b,Zh he115x ?_⟩
 conv=>whnf
 refine Yc ?_
 refine Qn h (fun h=>?_) (fun h=>?_)
 conv=>whnf
 cases h
 exact ⟨⟨rfl,rfl⟩,hI111 _ rfl⟩
 conv=>whnf
 refine Ze h (fun l01Next6 hb122 h=>?_)
 conv=>whnf
 refine ZG h (fun h=>?_) (fun h=>?_)
 conv=>whnf
 refine Yk h (fun hp123 h=>?_)
 conv=>whnf
 cases h
 exact ⟨⟨rfl,rfl⟩,hI111 _ rfl⟩
 conv=>whnf
 cases h
 exact ⟨⟨rfl,rfl⟩,hI111 _ rfl⟩
 conv=>whnf
 refine ⟨he115a,he115b,Zh he115x ?_⟩
 conv=>whnf
 refine ⟨by kernel_rfl,?_⟩
 conv=>whnf
 refine ⟨he115a,he115b,Zh he115x ?_⟩
 conv=>whnf
 refine Yc ?_
 refine Qn h (fun h=>?_) (fun h=>?_)
 conv=>whnf
 cases h
 exact ⟨⟨rfl,rfl⟩,hI111 _ rfl⟩
 conv=>whnf
 refine Ze h (fun l01Next5 hb124 h=>?_)
 conv=>whnf
 refine ZG h (fun h=>?_) (fun h=>?_)
 conv=>whnf
 refine Yk h (fun hp125 h=>?_)
 conv=>whnf
 cases h
 exact ⟨⟨rfl,rfl⟩,hI111 _ rfl⟩
 conv=>whnf
 cases h
 exact ⟨⟨rfl,rfl⟩,hI111 _ rfl⟩
 conv=>whnf
 intro fp126
 conv=>whnf
 refine Ze h (fun l01Next2 hb127 h=>?_)
 conv=>whnf
 refine YH h ?_
 rintro I128 μ128 ⟨v4,v5,c7,c8,c9,⟨⟩⟩ zs128 h hI128 hR128
 change Z8 l07Draw1 l05Places0 c3 v1 v2 v4 v5 c7 c8 c9=some zs128 at h
 unfold Z8 at h
 conv=>whnf
 intro fp129
 conv=>whnf
 refine ZG h (fun h=>?_) (fun h=>?_)
 conv=>whnf
 refine Ze h (fun l01Next3 hb130 h=>?_)
 conv=>whnf
 refine Yc ?_
 refine ZG h (fun h=>?_) (fun h=>?_)
 conv=>whnf
 refine Ze h (fun l01Next4 hb131 h=>?_)
 conv=>whnf
 refine ZG h (fun h=>?_) (fun h=>?_)
 conv=>whnf
 refine Ze h (fun l01Next5 hb132 h=>?_)
 conv=>whnf
 intro fp133
 conv=>whnf
 refine Yk h (fun hp134 h=>?_)
 conv=>whnf
 intro fp135
 conv=>whnf
 cases h
 exact ⟨⟨rfl,rfl⟩,hI128 _ rfl⟩
 conv=>whnf
 intro fp136
 conv=>whnf
 refine Yk h (fun hp137 h=>?_)
 conv=>whnf
 intro fp138
 conv=>whnf
 cases h
 exact ⟨⟨rfl,rfl⟩,hI128 _ rfl⟩
 conv=>whnf
 refine Ze h (fun l01Next4 hb139 h=>?_)
 conv=>whnf
 refine Ze h (fun l01Next5 hb140 h=>?_)
 conv=>whnf
 refine ZG h (fun h=>?_) (fun h=>?_)
 conv=>whnf
 refine Ze h (fun l01Next6 hb141 h=>?_)
 conv=>whnf
 intro fp142
 conv=>whnf
 refine Yk h (fun hp143 h=>?_)
 conv=>whnf
 intro fp144
 conv=>whnf
 cases h
 exact ⟨⟨rfl,rfl⟩,hI128 _ rfl⟩
 conv=>whnf
 intro fp145
 conv=>whnf
 refine Yk h (fun hp146 h=>?_)
 conv=>whnf
 intro fp147
 conv=>whnf
 cases h
 exact ⟨⟨rfl,rfl⟩,hI128 _ rfl⟩
 conv=>whnf
 refine Ze h (fun l01Next3 hb148 h=>?_)
 conv=>whnf
 refine ZG h (fun h=>?_) (fun h=>?_)
 focus
  conv=>whnf
  refine ⟨by decide,?_⟩
  conv=>whnf
  refine ⟨by kernel_rfl,?_⟩
  conv=>whnf
  refine ⟨?_,?_⟩
  rotate_left
  focus
   conv=>whnf
   refine ⟨trivial,?_⟩
  rotate_right
  focus
   conv=>whnf
   refine ⟨trivial,?_⟩
  all_goals
   conv=>whnf
   cases h
   obtain rfl:=hR128 _ rfl
   obtain rfl:=hR111 _ rfl
   obtain rfl:=hR104 _ rfl
   exact hK
 focus
  conv=>whnf
  refine ⟨by kernel_rfl,?_⟩
  conv=>whnf
  refine ⟨?_,?_⟩
  rotate_left
  focus
   conv=>whnf
   refine ⟨trivial,?_⟩
  rotate_right
  focus
   conv=>whnf
   refine ⟨trivial,?_⟩
  all_goals
   conv=>whnf
   cases h
   obtain rfl:=hR128 _ rfl
   obtain rfl:=hR111 _ rfl
   obtain rfl:=hR104 _ rfl
   exact hK
 conv=>whnf
 refine Ze h (fun l05Places0 hb149 h=>?_)
 conv=>whnf
 refine Ze h (fun l14Draw0 hb150 h=>?_)
 conv=>whnf
 refine ZcV h (fun h=>?_) (fun h=>?_)
 conv=>whnf
 refine Ze h (fun l01Next1 hb151 h=>?_)
 conv=>whnf
 refine YH h ?_
 rintro I152 μ152 ⟨v0,c0,c1,c2,c3,⟨⟩⟩ zs152 h hI152 hR152
 change ZY l07Draw0 l05Places0 l01Next1 v0 c0 c1 c2 c3=some zs152 at h
 unfold ZY at h
 conv=>whnf
 refine ZG h (fun h=>?_) (fun h=>?_)
 conv=>whnf
 refine vAt h (fun x0 he153a he153b he153x h=>?_)
 conv=>whnf
 refine ⟨by kernel_rfl,?_⟩
 conv=>whnf
 refine ⟨he153a,he153b,Zh he153x ?_⟩
 conv=>whnf
 refine ZG h (fun h=>?_) (fun h=>?_)
 focus
  conv=>whnf
  refine Ze h (fun l01Next2 hb154 h=>?_)
  conv=>whnf
  refine ⟨by kernel_rfl,?_⟩
  conv=>whnf
  refine ⟨by kernel_rfl,?_⟩
  conv=>whnf
  obtain ⟨hp155,h⟩:=guardE h
  obtain ⟨hp156,h⟩:=guardE h
  refine ⟨?_,?_⟩
  rotate_left
  focus
   conv=>whnf
   refine ⟨by kernel_rfl,?_⟩
   conv=>whnf
   refine ⟨hp155,?_⟩
   conv=>whnf
   refine ⟨by kernel_rfl,?_⟩
   conv=>whnf
   refine ⟨hp156,?_⟩
   conv=>whnf
   refine ⟨trivial,?_⟩
  rotate_right
  focus
   conv=>whnf
   refine ⟨?_,?_⟩
   rotate_left
   focus
    conv=>whnf
    refine ⟨by kernel_rfl,?_⟩
    conv=>whnf
    refine ⟨hp155,?_⟩
    conv=>whnf
    refine ⟨by kernel_rfl,?_⟩
    conv=>whnf
    refine ⟨hp156,?_⟩
    conv=>whnf
    refine ⟨trivial,?_⟩
   rotate_right
   focus
    conv=>whnf
    refine ⟨by kernel_rfl,?_⟩
    conv=>whnf
    refine ⟨hp155,?_⟩
    conv=>whnf
    refine ⟨by kernel_rfl,?_⟩
    conv=>whnf
    refine ⟨hp156,?_⟩
    conv=>whnf
    refine ⟨trivial,?_⟩
  all_goals
   conv=>whnf
   cases h
   exact ⟨⟨rfl,rfl⟩,hI152 _ rfl⟩
 focus
  conv=>whnf
  refine ⟨by kernel_rfl,?_⟩
  conv=>whnf
  refine ⟨by kernel_rfl,?_⟩
  conv=>whnf
  obtain ⟨hp157,h⟩:=guardE h
  obtain ⟨hp158,h⟩:=guardE h
  refine ⟨?_,?_⟩
  rotate_left
  focus
   conv=>whnf
   refine ⟨by kernel_rfl,?_⟩
   conv=>whnf
   refine ⟨hp157,?_⟩
   conv=>whnf
   refine ⟨by kernel_rfl,?_⟩
   conv=>whnf
   refine ⟨hp158,?_⟩
   conv=>whnf
   refine ⟨trivial,?_⟩
  rotate_right
  focus
   conv=>whnf
   refine ⟨?_,?_⟩
   rotate_left
   focus
    conv=>whnf
    refine ⟨by kernel_rfl,?_⟩
    conv=>whnf
    refine ⟨hp157,?_⟩
    conv=>whnf
    refine ⟨by kernel_rfl,?_⟩
    conv=>whnf
    refine ⟨hp158,?_⟩
    conv=>whnf
    refine ⟨trivial,?_⟩
   rotate_right
   focus
    conv=>whnf
    refine ⟨by kernel_rfl,?_⟩
    conv=>whnf
    refine ⟨hp157,?_⟩
    conv=>whnf
    refine ⟨by kernel_rfl,?_⟩
    conv=>whnf
    refine ⟨hp158,?_⟩
    conv=>whnf
    refine ⟨trivial,?_⟩
  all_goals
   conv=>whnf
   cases h
   exact ⟨⟨rfl,rfl⟩,hI152 _ rfl⟩
 conv=>whnf
 refine YH h ?_
 rintro I159 μ159 ⟨v1,v2,v3,c4,c5,c6,⟨⟩⟩ zs159 h hI159 hR159
 change Yb l07Draw0 l05Places0 l01Next1 c3 v1 v2 v3 c4 c5 c6=some zs159 at h
 unfold Yb at h
 conv=>whnf
 refine ZG h (fun h=>?_) (fun h=>?_)
 conv=>whnf
 refine Ze h (fun l01Next2 hb160 h=>?_)
 conv=>whnf
 refine Ze h (fun l01Next3 hb161 h=>?_)
 conv=>whnf
 refine Ze h (fun l01Next4 hb162 h=>?_)
 conv=>whnf
 refine vAt h (fun x0 he163a he163b he163x h=>?_)
 conv=>whnf
 refine ⟨by kernel_rfl,?_⟩
 conv=>whnf
 refine ⟨he163a,he163b,Zh he163x ?_⟩
 conv=>whnf
 refine Qn h (fun h=>?_) (fun h=>?_)
 conv=>whnf
 refine Yc ?_
 refine ZG h (fun h=>?_) (fun h=>?_)
 conv=>whnf
 refine ⟨he163a,he163b,Zh he163x ?_⟩
 conv=>whnf
 refine ⟨by kernel_rfl,?_⟩
 conv=>whnf
 refine ⟨he163a,he163b,Zh he163x ?_⟩
 conv=>whnf
 refine Yc ?_
 refine Qn h (fun h=>?_) (fun h=>?_)
 conv=>whnf
 cases h
 exact ⟨⟨rfl,rfl⟩,hI159 _ rfl⟩
 conv=>whnf
 refine Ze h (fun l01Next5 hb164 h=>?_)
 conv=>whnf
 refine ZG h (fun h=>?_) (fun h=>?_)
 conv=>whnf
 refine Yk h (fun hp165 h=>?_)
 conv=>whnf
 cases h
 exact ⟨⟨rfl,rfl⟩,hI159 _ rfl⟩
 conv=>whnf
 cases h
 exact ⟨⟨rfl,rfl⟩,hI159 _ rfl⟩
 conv=>whnf
 refine Ze h (fun l01Next5 hb166 h=>?_)
 conv=>whnf
 refine ZG h (fun h=>?_) (fun h=>?_)
 conv=>whnf
 refine Ze h (fun l01Next6 hb167 h=>?_)
 conv=>whnf
 refine Ze h (fun l01Next7 hb168 h=>?_)
 conv=>whnf
 refine Yk h (fun hp169 h=>?_)
 conv=>whnf
 cases h
 exact ⟨⟨rfl,rfl⟩,hI159 _ rfl⟩
 conv=>whnf
 refine ⟨he163a,he163b,Zh he163x ?_⟩
 conv=>whnf
 refine ⟨by kernel_rfl,?_⟩
 conv=>whnf
 refine ⟨he163a,he163b,Zh he163x ?_⟩
 conv=>whnf
 refine Yc ?_
 refine Qn h (fun h=>?_) (fun h=>?_)
 conv=>whnf
 cases h
 exact ⟨⟨rfl,rfl⟩,hI159 _ rfl⟩
 conv=>whnf
 refine Ze h (fun l01Next6 hb170 h=>?_)
 conv=>whnf
 refine ZG h (fun h=>?_) (fun h=>?_)
 conv=>whnf
 refine Yk h (fun hp171 h=>?_)
 conv=>whnf
 cases h
 exact ⟨⟨rfl,rfl⟩,hI159 _ rfl⟩
 conv=>whnf
 cases h
 exact ⟨⟨rfl,rfl⟩,hI159 _ rfl⟩
 conv=>whnf
 refine ⟨he163a,he163b,Zh he163x ?_⟩
 conv=>whnf
 refine ⟨by kernel_rfl,?_⟩
 conv=>whnf
 refine ⟨he163a,he163b,Zh he163x ?_⟩
 conv=>whnf
 refine Yc ?_
 refine Qn h (fun h=>?_) (fun h=>?_)
 conv=>whnf
 cases h
 exact ⟨⟨rfl,rfl⟩,hI159 _ rfl⟩
 conv=>whnf
 refine Ze h (fun l01Next5 hb172 h=>?_)
 conv=>whnf
 refine ZG h (fun h=>?_) (fun h=>?_)
 conv=>whnf
 refine Yk h (fun hp173 h=>?_)
 conv=>whnf
 cases h
 exact ⟨⟨rfl,rfl⟩,hI159 _ rfl⟩
 conv=>whnf
 cases h
 exact ⟨⟨rfl,rfl⟩,hI159 _ rfl⟩
 conv=>whnf
 intro fp174
 conv=>whnf
 refine Ze h (fun l01Next2 hb175 h=>?_)
 conv=>whnf
 refine YH h ?_
 rintro I176 μ176 ⟨v4,v5,c7,c8,c9,⟨⟩⟩ zs176 h hI176 hR176
 change Ya l07Draw0 l05Places0 c3 v1 v2 v4 v5 c7 c8 c9=some zs176 at h
 unfold Ya at h
 conv=>whnf
 intro fp177
 conv=>whnf
 refine ZG h (fun h=>?_) (fun h=>?_)
 conv=>whnf
 refine Ze h (fun l01Next3 hb178 h=>?_)
 conv=>whnf
 refine Yc ?_
 refine ZG h (fun h=>?_) (fun h=>?_)
 conv=>whnf
 refine Ze h (fun l01Next4 hb179 h=>?_)
 conv=>whnf
 refine ZG h (fun h=>?_) (fun h=>?_)
 conv=>whnf
 refine Ze h (fun l01Next5 hb180 h=>?_)
 conv=>whnf
 intro fp181
 conv=>whnf
 refine Yk h (fun hp182 h=>?_)
 conv=>whnf
 intro fp183
 conv=>whnf
 cases h
 exact ⟨⟨rfl,rfl⟩,hI176 _ rfl⟩
 conv=>whnf
 intro fp184
 conv=>whnf
 refine Yk h (fun hp185 h=>?_)
 conv=>whnf
 intro fp186
 conv=>whnf
 cases h
 exact ⟨⟨rfl,rfl⟩,hI176 _ rfl⟩
 conv=>whnf
 refine Ze h (fun l01Next4 hb187 h=>?_)
 conv=>whnf
 refine Ze h (fun l01Next5 hb188 h=>?_)
 conv=>whnf
 refine ZG h (fun h=>?_) (fun h=>?_)
 conv=>whnf
 refine Ze h (fun l01Next6 hb189 h=>?_)
 conv=>whnf
 intro fp190
 conv=>whnf
 refine Yk h (fun hp191 h=>?_)
 conv=>whnf
 intro fp192
 conv=>whnf
 cases h
 exact ⟨⟨rfl,rfl⟩,hI176 _ rfl⟩
 conv=>whnf
 intro fp193
 conv=>whnf
 refine Yk h (fun hp194 h=>?_)
 conv=>whnf
 intro fp195
 conv=>whnf
 cases h
 exact ⟨⟨rfl,rfl⟩,hI176 _ rfl⟩
 conv=>whnf
 refine Ze h (fun l01Next3 hb196 h=>?_)
 conv=>whnf
 refine ZG h (fun h=>?_) (fun h=>?_)
 focus
  conv=>whnf
  refine ⟨by decide,?_⟩
  conv=>whnf
  refine ⟨by kernel_rfl,?_⟩
  conv=>whnf
  refine ⟨?_,?_⟩
  rotate_left
  focus
   conv=>whnf
   refine ⟨trivial,?_⟩
  rotate_right
  focus
   conv=>whnf
   refine ⟨trivial,?_⟩
  all_goals
   conv=>whnf
   cases h
   obtain rfl:=hR176 _ rfl
   obtain rfl:=hR159 _ rfl
   obtain rfl:=hR152 _ rfl
   exact hK
 focus
  conv=>whnf
  refine ⟨by kernel_rfl,?_⟩
  conv=>whnf
  refine ⟨?_,?_⟩
  rotate_left
  focus
   conv=>whnf
   refine ⟨trivial,?_⟩
  rotate_right
  focus
   conv=>whnf
   refine ⟨trivial,?_⟩
  all_goals
   conv=>whnf
   cases h
   obtain rfl:=hR176 _ rfl
   obtain rfl:=hR159 _ rfl
   obtain rfl:=hR152 _ rfl
   exact hK
 conv=>whnf
 refine Ze h (fun IsClocks0 hb197 h=>?_)
 conv=>whnf
 refine Yc ?_
 refine Qn h (fun h=>?_) (fun h=>?_)
 conv=>whnf
 refine YH h ?_
 rintro I198 μ198 ⟨v0,c0,c1,c2,c3,⟨⟩⟩ zs198 h hI198 hR198
 change YG l07Draw0 l05Places0 l14Draw0 v0 c0 c1 c2 c3=some zs198 at h
 unfold YG at h
 conv=>whnf
 refine ZG h (fun h=>?_) (fun h=>?_)
 conv=>whnf
 refine vAt h (fun x0 he199a he199b he199x h=>?_)
 conv=>whnf
 refine ⟨by kernel_rfl,?_⟩
 conv=>whnf
 refine ⟨he199a,he199b,Zh he199x ?_⟩
 conv=>whnf
 refine ZG h (fun h=>?_) (fun h=>?_)
 focus
  conv=>whnf
  refine Ze h (fun l01Next1 hb200 h=>?_)
  conv=>whnf
  refine ⟨by kernel_rfl,?_⟩
  conv=>whnf
  refine ⟨by kernel_rfl,?_⟩
  conv=>whnf
  obtain ⟨hp201,h⟩:=guardE h
  obtain ⟨hp202,h⟩:=guardE h
  refine ⟨?_,?_⟩
  rotate_left
  focus
   conv=>whnf
   refine ⟨by kernel_rfl,?_⟩
   conv=>whnf
   refine ⟨hp201,?_⟩
   conv=>whnf
   refine ⟨by kernel_rfl,?_⟩
   conv=>whnf
   refine ⟨hp202,?_⟩
   conv=>whnf
   refine ⟨trivial,?_⟩
  rotate_right
  focus
   conv=>whnf
   refine ⟨?_,?_⟩
   rotate_left
   focus
    conv=>whnf
    refine ⟨by kernel_rfl,?_⟩
    conv=>whnf
    refine ⟨hp201,?_⟩
    conv=>whnf
    refine ⟨by kernel_rfl,?_⟩
    conv=>whnf
    refine ⟨hp202,?_⟩
    conv=>whnf
    refine ⟨trivial,?_⟩
   rotate_right
   focus
    conv=>whnf
    refine ⟨by kernel_rfl,?_⟩
    conv=>whnf
    refine ⟨hp201,?_⟩
    conv=>whnf
    refine ⟨by kernel_rfl,?_⟩
    conv=>whnf
    refine ⟨hp202,?_⟩
    conv=>whnf
    refine ⟨trivial,?_⟩
  all_goals
   conv=>whnf
   cases h
   exact ⟨⟨rfl,rfl⟩,hI198 _ rfl⟩
 focus
  conv=>whnf
  refine ⟨by kernel_rfl,?_⟩
  conv=>whnf
  refine ⟨by kernel_rfl,?_⟩
  conv=>whnf
  obtain ⟨hp203,h⟩:=guardE h
  obtain ⟨hp204,h⟩:=guardE h
  refine ⟨?_,?_⟩
  rotate_left
  focus
   conv=>whnf
   refine ⟨by kernel_rfl,?_⟩
   conv=>whnf
   refine ⟨hp203,?_⟩
   conv=>whnf
   refine ⟨by kernel_rfl,?_⟩
   conv=>whnf
   refine ⟨hp204,?_⟩
   conv=>whnf
   refine ⟨trivial,?_⟩
  rotate_right
  focus
   conv=>whnf
   refine ⟨?_,?_⟩
   rotate_left
   focus
    conv=>whnf
    refine ⟨by kernel_rfl,?_⟩
    conv=>whnf
    refine ⟨hp203,?_⟩
    conv=>whnf
    refine ⟨by kernel_rfl,?_⟩
    conv=>whnf
    refine ⟨hp204,?_⟩
    conv=>whnf
    refine ⟨trivial,?_⟩
   rotate_right
   focus
    conv=>whnf
    refine ⟨by kernel_rfl,?_⟩
    conv=>whnf
    refine ⟨hp203,?_⟩
    conv=>whnf
    refine ⟨by kernel_rfl,?_⟩
    conv=>whnf
    refine ⟨hp204,?_⟩
    conv=>whnf
    refine ⟨trivial,?_⟩
  all_goals
   conv=>whnf
   cases h
   exact ⟨⟨rfl,rfl⟩,hI198 _ rfl⟩
 conv=>whnf
 refine YH h ?_
 rintro I205 μ205 ⟨v1,v2,v3,c4,c5,c6,⟨⟩⟩ zs205 h hI205 hR205
 change YF l07Draw0 l05Places0 l14Draw0 c3 v1 v2 v3 c4 c5 c6=some zs205 at h
 unfold YF at h
 conv=>whnf
 refine ZG h (fun h=>?_) (fun h=>?_)
 conv=>whnf
 refine Ze h (fun l01Next1 hb206 h=>?_)
 conv=>whnf
 refine Ze h (fun l01Next2 hb207 h=>?_)
 conv=>whnf
 refine Ze h (fun l01Next3 hb208 h=>?_)
 conv=>whnf
 refine vAt h (fun x0 he209a he209b he209x h=>?_)
 conv=>whnf
 refine ⟨by kernel_rfl,?_⟩
 conv=>whnf
 refine ⟨he209a,he209b,Zh he209x ?_⟩
 conv=>whnf
 refine Qn h (fun h=>?_) (fun h=>?_)
 conv=>whnf
 refine Yc ?_
 refine ZG h (fun h=>?_) (fun h=>?_)
 conv=>whnf
 refine ⟨he209a,he209b,Zh he209x ?_⟩
 conv=>whnf
 refine ⟨by kernel_rfl,?_⟩
 conv=>whnf
 refine ⟨he209a,he209b,Zh he209x ?_⟩
 conv=>whnf
 refine Yc ?_
 refine Qn h (fun h=>?_) (fun h=>?_)
 conv=>whnf
 cases h
 exact ⟨⟨rfl,rfl⟩,hI205 _ rfl⟩
 conv=>whnf
 refine Ze h (fun l01Next4 hb210 h=>?_)
 conv=>whnf
 refine ZG h (fun h=>?_) (fun h=>?_)
 conv=>whnf
 refine Yk h (fun hp211 h=>?_)
 conv=>whnf
 cases h
 exact ⟨⟨rfl,rfl⟩,hI205 _ rfl⟩
 conv=>whnf
 cases h
 exact ⟨⟨rfl,rfl⟩,hI205 _ rfl⟩
 conv=>whnf
 refine Ze h (fun l01Next4 hb212 h=>?_)
 conv=>whnf
 refine ZG h (fun h=>?_) (fun h=>?_)
 conv=>whnf
 refine Ze h (fun l01Next5 hb213 h=>?_)
 conv=>whnf
 refine Ze h (fun l01Next6 hb214 h=>?_)
 conv=>whnf
 refine Yk h (fun hp215 h=>?_)
 conv=>whnf
 cases h
 exact ⟨⟨rfl,rfl⟩,hI205 _ rfl⟩
 conv=>whnf
 refine ⟨he209a,he209b,Zh he209x ?_⟩
 conv=>whnf
 refine ⟨by kernel_rfl,?_⟩
 conv=>whnf
 refine ⟨he209a,he209b,Zh he209x ?_⟩
 conv=>whnf
 refine Yc ?_
 refine Qn h (fun h=>?_) (fun h=>?_)
 conv=>whnf
 cases h
 exact ⟨⟨rfl,rfl⟩,hI205 _ rfl⟩
 conv=>whnf
 refine Ze h (fun l01Next5 hb216 h=>?_)
 conv=>whnf
 refine ZG h (fun h=>?_) (fun h=>?_)
 conv=>whnf
 refine Yk h (fun hp217 h=>?_)
 conv=>whnf
 cases h
 exact ⟨⟨rfl,rfl⟩,hI205 _ rfl⟩
 conv=>whnf
 cases h
 exact ⟨⟨rfl,rfl⟩,hI205 _ rfl⟩
 conv=>whnf
 refine ⟨he209a,he209b,Zh he209x ?_⟩
 conv=>whnf
 refine ⟨by kernel_rfl,?_⟩
 conv=>whnf
 refine ⟨he209a,he209b,Zh he209x ?_⟩
 conv=>whnf
 refine Yc ?_
 refine Qn h (fun h=>?_) (fun h=>?_)
 conv=>whnf
 cases h
 exact ⟨⟨rfl,rfl⟩,hI205 _ rfl⟩
 conv=>whnf
 refine Ze h (fun l01Next4 hb218 h=>?_)
 conv=>whnf
 refine ZG h (fun h=>?_) (fun h=>?_)
 conv=>whnf
 refine Yk h (fun hp219 h=>?_)
 conv=>whnf
 cases h
 exact ⟨⟨rfl,rfl⟩,hI205 _ rfl⟩
 conv=>whnf
 cases h
 exact ⟨⟨rfl,rfl⟩,hI205 _ rfl⟩
 conv=>whnf
 intro fp220
 conv=>whnf
 refine Ze h (fun l01Next1 hb221 h=>?_)
 conv=>whnf
 refine YH h ?_
 rintro I222 μ222 ⟨v4,v5,c7,c8,c9,⟨⟩⟩ zs222 h hI222 hR222
 change YR l07Draw0 l05Places0 c3 v1 v2 v4 v5 c7 c8 c9=some zs222 at h
 unfold YR at h
 conv=>whnf
 intro fp223
 conv=>whnf
 refine ZG h (fun h=>?_) (fun h=>?_)
 conv=>whnf
 refine Ze h (fun l01Next2 hb224 h=>?_)
 conv=>whnf
 refine Yc ?_
 refine ZG h (fun h=>?_) (fun h=>?_)
 conv=>whnf
 refine Ze h (fun l01Next3 hb225 h=>?_)
 conv=>whnf
 refine ZG h (fun h=>?_) (fun h=>?_)
 conv=>whnf
 refine Ze h (fun l01Next4 hb226 h=>?_)
 conv=>whnf
 intro fp227
 conv=>whnf
 refine Yk h (fun hp228 h=>?_)
 conv=>whnf
 intro fp229
 conv=>whnf
 cases h
 exact ⟨⟨rfl,rfl⟩,hI222 _ rfl⟩
 conv=>whnf
 intro fp230
 conv=>whnf
 refine Yk h (fun hp231 h=>?_)
 conv=>whnf
 intro fp232
 conv=>whnf
 cases h
 exact ⟨⟨rfl,rfl⟩,hI222 _ rfl⟩
 conv=>whnf
 refine Ze h (fun l01Next3 hb233 h=>?_)
 conv=>whnf
 refine Ze h (fun l01Next4 hb234 h=>?_)
 conv=>whnf
 refine ZG h (fun h=>?_) (fun h=>?_)
 conv=>whnf
 refine Ze h (fun l01Next5 hb235 h=>?_)
 conv=>whnf
 intro fp236
 conv=>whnf
 refine Yk h (fun hp237 h=>?_)
 conv=>whnf
 intro fp238
 conv=>whnf
 cases h
 exact ⟨⟨rfl,rfl⟩,hI222 _ rfl⟩
 conv=>whnf
 intro fp239
 conv=>whnf
 refine Yk h (fun hp240 h=>?_)
 conv=>whnf
 intro fp241
 conv=>whnf
 cases h
 exact ⟨⟨rfl,rfl⟩,hI222 _ rfl⟩
 conv=>whnf
 refine Ze h (fun l01Next2 hb242 h=>?_)
 conv=>whnf
 refine ZG h (fun h=>?_) (fun h=>?_)
 focus
  conv=>whnf
  refine ⟨by decide,?_⟩
  conv=>whnf
  refine ⟨by kernel_rfl,?_⟩
  conv=>whnf
  refine ⟨?_,?_⟩
  rotate_left
  focus
   conv=>whnf
   refine ⟨trivial,?_⟩
  rotate_right
  focus
   conv=>whnf
   refine ⟨trivial,?_⟩
  all_goals
   conv=>whnf
   cases h
   obtain rfl:=hR222 _ rfl
   obtain rfl:=hR205 _ rfl
   obtain rfl:=hR198 _ rfl
   exact hK
 focus
  conv=>whnf
  refine ⟨by kernel_rfl,?_⟩
  conv=>whnf
  refine ⟨?_,?_⟩
  rotate_left
  focus
   conv=>whnf
   refine ⟨trivial,?_⟩
  rotate_right
  focus
   conv=>whnf
   refine ⟨trivial,?_⟩
  all_goals
   conv=>whnf
   cases h
   obtain rfl:=hR222 _ rfl
   obtain rfl:=hR205 _ rfl
   obtain rfl:=hR198 _ rfl
   exact hK
 conv=>whnf
 refine Ze h (fun l01Next1 hb243 h=>?_)
 conv=>whnf
 refine YH h ?_
 rintro I244 μ244 ⟨v0,c0,c1,c2,c3,⟨⟩⟩ zs244 h hI244 hR244
 change ZY l07Draw0 l05Places0 l01Next1 v0 c0 c1 c2 c3=some zs244 at h
 unfold ZY at h
 conv=>whnf
 refine ZG h (fun h=>?_) (fun h=>?_)
 conv=>whnf
 refine vAt h (fun x0 he245a he245b he245x h=>?_)
 conv=>whnf
 refine ⟨by kernel_rfl,?_⟩
 conv=>whnf
 refine ⟨he245a,he245b,Zh he245x ?_⟩
 conv=>whnf
 refine ZG h (fun h=>?_) (fun h=>?_)
 focus
  conv=>whnf
  refine Ze h (fun l01Next2 hb246 h=>?_)
  conv=>whnf
  refine ⟨by kernel_rfl,?_⟩
  conv=>whnf
  refine ⟨by kernel_rfl,?_⟩
  conv=>whnf
  obtain ⟨hp247,h⟩:=guardE h
  obtain ⟨hp248,h⟩:=guardE h
  refine ⟨?_,?_⟩
  rotate_left
  focus
   conv=>whnf
   refine ⟨by kernel_rfl,?_⟩
   conv=>whnf
   refine ⟨hp247,?_⟩
   conv=>whnf
   refine ⟨by kernel_rfl,?_⟩
   conv=>whnf
   refine ⟨hp248,?_⟩
   conv=>whnf
   refine ⟨trivial,?_⟩
  rotate_right
  focus
   conv=>whnf
   refine ⟨?_,?_⟩
   rotate_left
   focus
    conv=>whnf
    refine ⟨by kernel_rfl,?_⟩
    conv=>whnf
    refine ⟨hp247,?_⟩
    conv=>whnf
    refine ⟨by kernel_rfl,?_⟩
    conv=>whnf
    refine ⟨hp248,?_⟩
    conv=>whnf
    refine ⟨trivial,?_⟩
   rotate_right
   focus
    conv=>whnf
    refine ⟨by kernel_rfl,?_⟩
    conv=>whnf
    refine ⟨hp247,?_⟩
    conv=>whnf
    refine ⟨by kernel_rfl,?_⟩
    conv=>whnf
    refine ⟨hp248,?_⟩
    conv=>whnf
    refine ⟨trivial,?_⟩
  all_goals
   conv=>whnf
   cases h
   exact ⟨⟨rfl,rfl⟩,hI244 _ rfl⟩
 focus
  conv=>whnf
  refine ⟨by kernel_rfl,?_⟩
  conv=>whnf
  refine ⟨by kernel_rfl,?_⟩
  conv=>whnf
  obtain ⟨hp249,h⟩:=guardE h
  obtain ⟨hp250,h⟩:=guardE h
  refine ⟨?_,?_⟩
  rotate_left
  focus
   conv=>whnf
   refine ⟨by kernel_rfl,?_⟩
   conv=>whnf
   refine ⟨hp249,?_⟩
   conv=>whnf
   refine ⟨by kernel_rfl,?_⟩
   conv=>whnf
   refine ⟨hp250,?_⟩
   conv=>whnf
   refine ⟨trivial,?_⟩
  rotate_right
  focus
   conv=>whnf
   refine ⟨?_,?_⟩
   rotate_left
   focus
    conv=>whnf
    refine ⟨by kernel_rfl,?_⟩
    conv=>whnf
    refine ⟨hp249,?_⟩
    conv=>whnf
    refine ⟨by kernel_rfl,?_⟩
    conv=>whnf
    refine ⟨hp250,?_⟩
    conv=>whnf
    refine ⟨trivial,?_⟩
   rotate_right
   focus
    conv=>whnf
    refine ⟨by kernel_rfl,?_⟩
    conv=>whnf
    refine ⟨hp249,?_⟩
    conv=>whnf
    refine ⟨by kernel_rfl,?_⟩
    conv=>whnf
    refine ⟨hp250,?_⟩
    conv=>whnf
    refine ⟨trivial,?_⟩
  all_goals
   conv=>whnf
   cases h
   exact ⟨⟨rfl,rfl⟩,hI244 _ rfl⟩
 conv=>whnf
 refine YH h ?_
 rintro I251 μ251 ⟨v1,v2,v3,c4,c5,c6,⟨⟩⟩ zs251 h hI251 hR251
 change Yb l07Draw0 l05Places0 l01Next1 c3 v1 v2 v3 c4 c5 c6=some zs251 at h
 unfold Yb at h
 conv=>whnf
 refine ZG h (fun h=>?_) (fun h=>?_)
 conv=>whnf
 refine Ze h (fun l01Next2 hb252 h=>?_)
 conv=>whnf
 refine Ze h (fun l01Next3 hb253 h=>?_)
 conv=>whnf
 refine Ze h (fun l01Next4 hb254 h=>?_)
 conv=>whnf
 refine vAt h (fun x0 he255a he255b he255x h=>?_)
 conv=>whnf
 refine ⟨by kernel_rfl,?_⟩
 conv=>whnf
 refine ⟨he255a,he255b,Zh he255x ?_⟩
 conv=>whnf
 refine Qn h (fun h=>?_) (fun h=>?_)
 conv=>whnf
 refine Yc ?_
 refine ZG h (fun h=>?_) (fun h=>?_)
 conv=>whnf
 refine ⟨he255a,he255b,Zh he255x ?_⟩
 conv=>whnf
 refine ⟨by kernel_rfl,?_⟩
 conv=>whnf
 refine ⟨he255a,he255b,Zh he255x ?_⟩
 conv=>whnf
 refine Yc ?_
 refine Qn h (fun h=>?_) (fun h=>?_)
 conv=>whnf
 cases h
 exact ⟨⟨rfl,rfl⟩,hI251 _ rfl⟩
 conv=>whnf
 refine Ze h (fun l01Next5 hb256 h=>?_)
 conv=>whnf
 refine ZG h (fun h=>?_) (fun h=>?_)
 conv=>whnf
 refine Yk h (fun hp257 h=>?_)
 conv=>whnf
 cases h
 exact ⟨⟨rfl,rfl⟩,hI251 _ rfl⟩
 conv=>whnf
 cases h
 exact ⟨⟨rfl,rfl⟩,hI251 _ rfl⟩
 conv=>whnf
 refine Ze h (fun l01Next5 hb258 h=>?_)
 conv=>whnf
 refine ZG h (fun h=>?_) (fun h=>?_)
 conv=>whnf
 refine Ze h (fun l01Next6 hb259 h=>?_)
 conv=>whnf
 refine Ze h (fun l01Next7 hb260 h=>?_)
 conv=>whnf
 refine Yk h (fun hp261 h=>?_)
 conv=>whnf
 cases h
 exact ⟨⟨rfl,rfl⟩,hI251 _ rfl⟩
 conv=>whnf
 refine ⟨he255a,he255b,Zh he255x ?_⟩
 conv=>whnf
 refine ⟨by kernel_rfl,?_⟩
 conv=>whnf
 refine ⟨he255a,he255b,Zh he255x ?_⟩
 conv=>whnf
 refine Yc ?_
 refine Qn h (fun h=>?_) (fun h=>?_)
 conv=>whnf
 cases h
 exact ⟨⟨rfl,rfl⟩,hI251 _ rfl⟩
 conv=>whnf
 refine Ze h (fun l01Next6 hb262 h=>?_)
 conv=>whnf
 refine ZG h (fun h=>?_) (fun h=>?_)
 conv=>whnf
 refine Yk h (fun hp263 h=>?_)
 conv=>whnf
 cases h
 exact ⟨⟨rfl,rfl⟩,hI251 _ rfl⟩
 conv=>whnf
 cases h
 exact ⟨⟨rfl,rfl⟩,hI251 _ rfl⟩
 conv=>whnf
 refine ⟨he255a,he255b,Zh he255x ?_⟩
 conv=>whnf
 refine ⟨by kernel_rfl,?_⟩
 conv=>whnf
 refine ⟨he255a,he255b,Zh he255x ?_⟩
 conv=>whnf
 refine Yc ?_
 refine Qn h (fun h=>?_) (fun h=>?_)
 conv=>whnf
 cases h
 exact ⟨⟨rfl,rfl⟩,hI251 _ rfl⟩
 conv=>whnf
 refine Ze h (fun l01Next5 hb264 h=>?_)
 conv=>whnf
 refine ZG h (fun h=>?_) (fun h=>?_)
 conv=>whnf
 refine Yk h (fun hp265 h=>?_)
 conv=>whnf
 cases h
 exact ⟨⟨rfl,rfl⟩,hI251 _ rfl⟩
 conv=>whnf
 cases h
 exact ⟨⟨rfl,rfl⟩,hI251 _ rfl⟩
 conv=>whnf
 intro fp266
 conv=>whnf
 refine Ze h (fun l01Next2 hb267 h=>?_)
 conv=>whnf
 refine YH h ?_
 rintro I268 μ268 ⟨v4,v5,c7,c8,c9,⟨⟩⟩ zs268 h hI268 hR268
 change Ya l07Draw0 l05Places0 c3 v1 v2 v4 v5 c7 c8 c9=some zs268 at h
 unfold Ya at h
 conv=>whnf
 intro fp269
 conv=>whnf
 refine ZG h (fun h=>?_) (fun h=>?_)
 conv=>whnf
 refine Ze h (fun l01Next3 hb270 h=>?_)
 conv=>whnf
 refine Yc ?_
 refine ZG h (fun h=>?_) (fun h=>?_)
 conv=>whnf
 refine Ze h (fun l01Next4 hb271 h=>?_)
 conv=>whnf
 refine ZG h (fun h=>?_) (fun h=>?_)
 conv=>whnf
 refine Ze h (fun l01Next5 hb272 h=>?_)
 conv=>whnf
 intro fp273
 conv=>whnf
 refine Yk h (fun hp274 h=>?_)
 conv=>whnf
 intro fp275
 conv=>whnf
 cases h
 exact ⟨⟨rfl,rfl⟩,hI268 _ rfl⟩
 conv=>whnf
 intro fp276
 conv=>whnf
 refine Yk h (fun hp277 h=>?_)
 conv=>whnf
 intro fp278
 conv=>whnf
 cases h
 exact ⟨⟨rfl,rfl⟩,hI268 _ rfl⟩
 conv=>whnf
 refine Ze h (fun l01Next4 hb279 h=>?_)
 conv=>whnf
 refine Ze h (fun l01Next5 hb280 h=>?_)
 conv=>whnf
 refine ZG h (fun h=>?_) (fun h=>?_)
 conv=>whnf
 refine Ze h (fun l01Next6 hb281 h=>?_)
 conv=>whnf
 intro fp282
 conv=>whnf
 refine Yk h (fun hp283 h=>?_)
 conv=>whnf
 intro fp284
 conv=>whnf
 cases h
 exact ⟨⟨rfl,rfl⟩,hI268 _ rfl⟩
 conv=>whnf
 intro fp285
 conv=>whnf
 refine Yk h (fun hp286 h=>?_)
 conv=>whnf
 intro fp287
 conv=>whnf
 cases h
 exact ⟨⟨rfl,rfl⟩,hI268 _ rfl⟩
 conv=>whnf
 refine Ze h (fun l01Next3 hb288 h=>?_)
 conv=>whnf
 refine ZG h (fun h=>?_) (fun h=>?_)
 focus
  conv=>whnf
  refine ⟨by decide,?_⟩
  conv=>whnf
  refine ⟨by kernel_rfl,?_⟩
  conv=>whnf
  refine ⟨?_,?_⟩
  rotate_left
  focus
   conv=>whnf
   refine ⟨trivial,?_⟩
  rotate_right
  focus
   conv=>whnf
   refine ⟨trivial,?_⟩
  all_goals
   conv=>whnf
   cases h
   obtain rfl:=hR268 _ rfl
   obtain rfl:=hR251 _ rfl
   obtain rfl:=hR244 _ rfl
   exact hK
 focus
  conv=>whnf
  refine ⟨by kernel_rfl,?_⟩
  conv=>whnf
  refine ⟨?_,?_⟩
  rotate_left
  focus
   conv=>whnf
   refine ⟨trivial,?_⟩
  rotate_right
  focus
   conv=>whnf
   refine ⟨trivial,?_⟩
  all_goals
   conv=>whnf
   cases h
   obtain rfl:=hR268 _ rfl
   obtain rfl:=hR251 _ rfl
   obtain rfl:=hR244 _ rfl
   exact hK
end Go.Proofs.YtnnbgbgapogckaaGreatDoor
