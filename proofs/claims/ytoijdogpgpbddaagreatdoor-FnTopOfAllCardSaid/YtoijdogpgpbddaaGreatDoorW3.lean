/-
  The functions keep their contracts, if what they call does. Printed by program.
-/
import Derived.Test.YtoijdogpgpbddaaGreatDoorM
import Derived.KernelRfl
namespace Go.Proofs.YtoijdogpgpbddaaGreatDoor
open Go Go.Sx
set_option maxRecDepth 100000
set_option maxHeartbeats 100000000
set_option linter.unusedVariables false
set_option linter.unusedSimpArgs false
theorem ZN9 (q6:Sq 19 c116) (q7:Sq 20 ZIj) (q8:Sq 22 c119) (d4:Sq 21 ZIk) (q1:Sq 23 c236) (q2:Sq 24 ZHt) (q9:Sq 25 ZJw) (q0:Sq 26 ZJM) (q4:Sq 27 c64) (q5:Sq 28 ZJR) (q3:Sq 29 ZHI) (d5:Sq 30 ZJT) (d6:Sq 31 ZJW):Sq 9 ZJX:=by
 refine Hd Zx (Ze q6 (Ze q7 (Ze q8 (Ze d4 (Ze q1 (Ze q2 (Ze q9 (Ze q0 (Ze q4 (Ze q5 (Ze q3 (Ze d5 (Ze d6 Zn))))))))))))) {loops:=[(0,[.reg 7 (.own (.ol 74 (.flat (Qo)))),.reg 8 (.dat Iq)]),(2,[.reg 15 (.own (.ol 34 (.flat (Ya)))),.reg 17 (.dat (.sl (Qo))),.reg 18 (.own (.ol 42 (.flat (XI)))),.reg 19 (.dat Iq),.cell 1016 0 (.sl (.bool)),.cell 1016 1 (.sl (Zaa)),.cell 1016 2 (.sl (Zaa))]),(4,[.reg 17 (.dat (.sl (Qo))),.reg 34 (.dat Iq),.cell 1016 0 (.sl (.bool)),.cell 1016 1 (.sl (Zaa)),.cell 1016 2 (.sl (Zaa))])],draws:=[(6,[],.u 0 12 (.op 14 (.a [12,13] (.o [15,16] .done)))),(22,[],.can (.u 0 5 (.alt 5 (.o [6,7,8] (.a [9,10] (.op 11 .done))) (.a [9,5] (.o [6,7,8] (.alt 10 (.op 11 .done) .done)))))),(23,[],.can (.u 0 8 (.alt 8 (.u 9 4 (.a [13,14] (.o [15,16] .done))) (.a [13,8] (.u 9 4 (.alt 14 (.o [15,16] .done) .done)))))),(24,[],.can (.u 0 5 (.alt 5 (.o [6,7,8] (.a [9,10] (.op 11 .done))) (.a [9,5] (.o [6,7,8] (.alt 10 (.op 11 .done) .done)))))),(28,[],.can (.u 0 5 (.alt 5 (.o [6,7,8] (.a [9,10] (.op 11 .done))) (.a [9,5] (.o [6,7,8] (.alt 10 (.op 11 .done) .done)))))),(29,[],.u 0 6 (.alt 6 (.u 7 5 .done) .done)),(36,[],.can (.u 0 8 (.alt 8 (.o [9,10,11] (.a [12,13] (.op 14 .done))) (.a [12,8] (.o [9,10,11] (.alt 13 (.op 14 .done) .done)))))),(42,[],.can (.u 0 12 (.alt 12 (.u 13 4 (.a [17,18] (.o [19,20] .done))) (.a [17,12] (.u 13 4 (.alt 18 (.o [19,20] .done) .done)))))),(43,[],.u 0 10 (.alt 10 (.u 11 5 .done) .done)),(44,[],.can (.u 0 9 (.alt 9 (.o [10,11,12] (.a [13,14] (.op 15 .done))) (.a [13,9] (.o [10,11,12] (.alt 14 (.op 15 .done) .done)))))),(45,[],.u 0 16 (.alt 16 (.o [17,18] .done) .done))]} Tryz.func9 ?_;rintro⟨a0,a1,a2,⟨⟩⟩ K ⟨r,h,k⟩
 change ZeV a0 a1 a2=some r at h
 unfold ZeV at h
 conv=>whnf
 refine ZqP h ?_;rintro I0 μ0 ⟨v0,v1,⟨⟩⟩ d7 h a4 H
 change Jl a0 a1 a2 v0 v1=some d7 at h
 unfold Jl at h
 conv=>whnf
 refine Xt h (λ_ _ h=>?_)
 conv=>whnf
 refine Zdu h (λh=>?_) (λh=>?_)
 conv=>whnf
 refine Xt h (λ_ _ h=>?_)
 conv=>whnf
 refine⟨by kernel_rfl,?_⟩
 conv=>whnf
 refine Zdu h (λh=>?_) (λh=>?_)
 conv=>whnf
 refine Xt h (λ_ _ h=>?_)
 conv=>whnf
 refine Xt h (λ_ _ h=>?_)
 conv=>whnf
 refine⟨trivial,?_⟩
 conv=>whnf
 refine Zdu h (λh=>?_) (λh=>?_)
 conv=>whnf
 refine Zro h (λe1 h=>?_)
 conv=>whnf
 cases h;exact⟨⟨rfl,rfl⟩,a4 _ rfl⟩
 conv=>whnf
 cases h;exact⟨⟨rfl,rfl⟩,a4 _ rfl⟩
 conv=>whnf
 refine⟨trivial,?_⟩
 conv=>whnf
 cases h;exact⟨⟨rfl,rfl⟩,a4 _ rfl⟩
 conv=>whnf
 refine Xt h (λPropagateTiming0 _ h=>?_)
 conv=>whnf
 refine Xt h (λ_ _ h=>?_)
 conv=>whnf
 refine ZqQ ?_;refine Zdu h (λh=>?_) (λh=>?_)
 conv=>whnf
 refine ZqQ ?_;refine Zdu h (λh=>?_) (λh=>?_)
 conv=>whnf
 refine ZqP h ?_;rintro I8 μ8 ⟨v2,v3,v4,v5,c0,c1,c2,⟨⟩⟩ d8 h d3 b
 change QB a0 a1 a2 PropagateTiming0 v2 v3 v4 v5 c0 c1 c2=some d8 at h
 unfold QB at h
 conv=>whnf
 refine Zdu h (λh=>?_) (λh=>?_)
 conv=>whnf
 refine vAt h (λx0 J L M h=>?_)
 conv=>whnf
 refine⟨by kernel_rfl,?_⟩
 conv=>whnf
 refine⟨J,L,ZO M ?_⟩
 conv=>whnf
 refine⟨by kernel_rfl,?_⟩
 conv=>whnf
 refine vAt h (λx1 C D E h=>?_)
 conv=>whnf
 obtain⟨ApplyEdit0,N,h⟩:=Uv.1 h;apply Zjq
 focus
  intro t
  conv=>whnf
  refine⟨_,N,?_⟩
  conv=>whnf
  refine⟨trivial,?_⟩
  conv=>whnf
  exact t
 focus
  intro t
  conv=>whnf
  refine⟨_,N,?_⟩
  conv=>whnf
  refine⟨trivial,?_⟩
  conv=>whnf
  exact t
 conv=>whnf
 refine⟨by kernel_rfl,?_⟩
 conv=>whnf
 refine⟨C,D,ZO E ?_⟩
 conv=>whnf
 obtain⟨IncrementalTiming0,O,h⟩:=Uv.1 h;apply Zjq
 focus
  intro t
  conv=>whnf
  refine⟨_,O,?_⟩
  conv=>whnf
  refine⟨trivial,?_⟩
  conv=>whnf
  exact t
 focus
  intro t
  conv=>whnf
  refine⟨_,O,?_⟩
  conv=>whnf
  refine⟨trivial,?_⟩
  conv=>whnf
  exact t
 conv=>whnf
 refine⟨by kernel_rfl,?_⟩
 conv=>whnf
 refine⟨C,D,ZO E ?_⟩
 conv=>whnf
 obtain⟨ApplyEdit1,P,h⟩:=Uv.1 h;apply Zjq
 focus
  intro t
  conv=>whnf
  refine⟨_,P,?_⟩
  conv=>whnf
  refine⟨trivial,?_⟩
  conv=>whnf
  exact t
 focus
  intro t
  conv=>whnf
  refine⟨_,P,?_⟩
  conv=>whnf
  refine⟨trivial,?_⟩
  conv=>whnf
  exact t
 conv=>whnf
 refine ZqQ ?_;refine Zdu h (λh=>?_) (λh=>?_)
 conv=>whnf
 refine ZqX ?_;refine Zdu h (λh=>?_) (λh=>?_)
 conv=>whnf
 refine ZqQ ?_;refine Zdu h (λh=>?_) (λh=>?_)
 conv=>whnf
 refine⟨by kernel_rfl,?_⟩
 conv=>whnf
 refine⟨C,D,ZO E ?_⟩
 conv=>whnf
 obtain⟨InverseEdit0,Q,h⟩:=Uv.1 h;apply Zjq
 focus
  intro t
  conv=>whnf
  refine⟨_,Q,?_⟩
  conv=>whnf
  refine⟨trivial,?_⟩
  conv=>whnf
  exact t
 focus
  intro t
  conv=>whnf
  refine⟨_,Q,?_⟩
  conv=>whnf
  refine⟨trivial,?_⟩
  conv=>whnf
  exact t
 conv=>whnf
 refine⟨by kernel_rfl,?_⟩
 conv=>whnf
 refine⟨C,D,ZO E ?_⟩
 conv=>whnf
 refine Xt h (λSourcesAfter0 _ h=>?_)
 conv=>whnf
 refine⟨trivial,?_⟩
 conv=>whnf
 refine ZqX ?_;refine Zdu h (λh=>?_) (λh=>?_)
 conv=>whnf
 refine ZqQ ?_;refine Zdu h (λh=>?_) (λh=>?_)
 conv=>whnf
 refine Zro h (λd9 h=>?_)
 conv=>whnf
 refine Zro h (λe0 h=>?_)
 conv=>whnf
 cases h;exact⟨⟨rfl,rfl⟩,d3 _ rfl⟩
 conv=>whnf
 cases h;obtain rfl:=b _ rfl;obtain rfl:=H _ rfl;exact k
 conv=>whnf
 cases h;obtain rfl:=b _ rfl;obtain rfl:=H _ rfl;exact k
 conv=>whnf
 refine⟨by kernel_rfl,?_⟩
 conv=>whnf
 refine⟨J,L,ZO M ?_⟩
 conv=>whnf
 refine⟨by kernel_rfl,?_⟩
 conv=>whnf
 refine⟨J,L,ZO M ?_⟩
 conv=>whnf
 obtain⟨PropagateTiming2,R,h⟩:=Uv.1 h;apply Zjq
 focus
  intro t
  conv=>whnf
  refine⟨_,R,?_⟩
  conv=>whnf
  refine⟨trivial,?_⟩
  conv=>whnf
  exact t
 focus
  intro t
  conv=>whnf
  refine⟨_,R,?_⟩
  conv=>whnf
  refine⟨trivial,?_⟩
  conv=>whnf
  exact t
 conv=>whnf
 refine ZqX ?_;refine Zdu h (λh=>?_) (λh=>?_)
 conv=>whnf
 refine Xt h (λW _ h=>?_)
 conv=>whnf
 refine ZqX ?_;refine Zu3 h (λh=>?_) (λh=>?_)
 conv=>whnf
 refine Zdu h (λh=>?_) (λh=>?_)
 conv=>whnf
 refine Zdu h (λh=>?_) (λh=>?_)
 conv=>whnf
 cases h;obtain rfl:=b _ rfl;obtain rfl:=H _ rfl;exact k
 conv=>whnf
 cases h;obtain rfl:=b _ rfl;obtain rfl:=H _ rfl;exact k
 conv=>whnf
 refine ZqP h ?_;rintro I20 e2 ⟨v6,v7,c3,c4,c5,⟨⟩⟩ d0 h b7 F
 change Vo a2 PropagateTiming0 v2 v4 v6 v7 c3 c4 c5=some d0 at h
 unfold Vo at h
 conv=>whnf
 refine Zdu h (λh=>?_) (λh=>?_)
 conv=>whnf
 refine⟨by kernel_rfl,?_⟩
 conv=>whnf
 refine vAt h (λx2 c d x h=>?_)
 conv=>whnf
 refine⟨by kernel_rfl,?_⟩
 conv=>whnf
 refine⟨c,d,ZO x ?_⟩
 conv=>whnf
 refine vAt h (λx3 e f g h=>?_)
 conv=>whnf
 refine⟨by kernel_rfl,?_⟩
 conv=>whnf
 refine⟨e,f,ZO g ?_⟩
 conv=>whnf
 obtain⟨IncrementalTiming1,S,h⟩:=Uv.1 h;apply Zjq
 focus
  intro t
  conv=>whnf
  refine⟨_,S,?_⟩
  conv=>whnf
  refine⟨trivial,?_⟩
  conv=>whnf
  exact t
 focus
  intro t
  conv=>whnf
  refine⟨_,S,?_⟩
  conv=>whnf
  refine⟨trivial,?_⟩
  conv=>whnf
  exact t
 conv=>whnf
 refine⟨by kernel_rfl,?_⟩
 conv=>whnf
 refine⟨c,d,ZO x ?_⟩
 conv=>whnf
 refine⟨by kernel_rfl,?_⟩
 conv=>whnf
 refine⟨c,d,ZO x ?_⟩
 conv=>whnf
 refine⟨e,f,ZO g ?_⟩
 conv=>whnf
 refine⟨by kernel_rfl,?_⟩
 conv=>whnf
 refine⟨e,f,ZO g ?_⟩
 conv=>whnf
 refine Xt h (λSourcesAfter0 _ h=>?_)
 conv=>whnf
 refine⟨trivial,?_⟩
 conv=>whnf
 refine⟨by kernel_rfl,?_⟩
 conv=>whnf
 refine⟨c,d,ZO x ?_⟩
 conv=>whnf
 refine⟨by kernel_rfl,?_⟩
 conv=>whnf
 refine⟨c,d,ZO x ?_⟩
 conv=>whnf
 refine⟨e,f,ZO g ?_⟩
 conv=>whnf
 refine⟨by kernel_rfl,?_⟩
 conv=>whnf
 refine⟨e,f,ZO g ?_⟩
 conv=>whnf
 obtain⟨ApplyEdit2,T,h⟩:=Uv.1 h;apply Zjq
 focus
  intro t
  conv=>whnf
  refine⟨_,T,?_⟩
  conv=>whnf
  refine⟨trivial,?_⟩
  conv=>whnf
  exact t
 focus
  intro t
  conv=>whnf
  refine⟨_,T,?_⟩
  conv=>whnf
  refine⟨trivial,?_⟩
  conv=>whnf
  exact t
 conv=>whnf
 refine⟨by kernel_rfl,?_⟩
 conv=>whnf
 refine ZqX ?_;refine Zdu h (λh=>?_) (λh=>?_)
 conv=>whnf
 refine ZqX ?_;refine Zdu h (λh=>?_) (λh=>?_)
 conv=>whnf
 refine ZqX ?_;refine Zdu h (λh=>?_) (λh=>?_)
 conv=>whnf
 refine vAt h (λx4 a5 a6 a7 h=>?_)
 conv=>whnf
 refine⟨by kernel_rfl,?_⟩
 conv=>whnf
 refine⟨a5,a6,ZO a7 ?_⟩
 conv=>whnf
 refine Xt h (λB _ h=>?_)
 conv=>whnf
 refine⟨trivial,?_⟩
 conv=>whnf
 refine ZqQ ?_;refine Zu3 h (λh=>?_) (λh=>?_)
 conv=>whnf
 cases h;exact⟨⟨rfl,rfl⟩,b7 _ rfl⟩
 conv=>whnf
 cases h;obtain rfl:=F _ rfl;obtain rfl:=b _ rfl;obtain rfl:=H _ rfl;exact k
 conv=>whnf
 refine⟨trivial,?_⟩
 conv=>whnf
 cases h;obtain rfl:=F _ rfl;obtain rfl:=b _ rfl;obtain rfl:=H _ rfl;exact k
 conv=>whnf
 refine⟨trivial,?_⟩
 conv=>whnf
 cases h;obtain rfl:=F _ rfl;obtain rfl:=b _ rfl;obtain rfl:=H _ rfl;exact k
 conv=>whnf
 refine⟨trivial,?_⟩
 conv=>whnf
 cases h;obtain rfl:=F _ rfl;obtain rfl:=b _ rfl;obtain rfl:=H _ rfl;exact k
 conv=>whnf
 refine Xt h (λA _ h=>?_)
 conv=>whnf
 cases h;obtain rfl:=F _ rfl;obtain rfl:=b _ rfl;obtain rfl:=H _ rfl;exact k
 conv=>whnf
 refine Zdu h (λh=>?_) (λh=>?_)
 conv=>whnf
 cases h;obtain rfl:=b _ rfl;obtain rfl:=H _ rfl;exact k
 conv=>whnf
 cases h;obtain rfl:=b _ rfl;obtain rfl:=H _ rfl;exact k
 conv=>whnf
 refine Zdu h (λh=>?_) (λh=>?_)
 conv=>whnf
 cases h;obtain rfl:=b _ rfl;obtain rfl:=H _ rfl;exact k
 conv=>whnf
 cases h;obtain rfl:=b _ rfl;obtain rfl:=H _ rfl;exact k
 conv=>whnf
 refine⟨by kernel_rfl,?_⟩
 conv=>whnf
 refine⟨J,L,ZO M ?_⟩
 conv=>whnf
 refine⟨by kernel_rfl,?_⟩
 conv=>whnf
 refine⟨J,L,ZO M ?_⟩
 conv=>whnf
 obtain⟨PropagateTiming2,U,h⟩:=Uv.1 h;apply Zjq
 focus
  intro t
  conv=>whnf
  refine⟨_,U,?_⟩
  conv=>whnf
  refine⟨trivial,?_⟩
  conv=>whnf
  exact t
 focus
  intro t
  conv=>whnf
  refine⟨_,U,?_⟩
  conv=>whnf
  refine⟨trivial,?_⟩
  conv=>whnf
  exact t
 conv=>whnf
 refine ZqX ?_;refine Zdu h (λh=>?_) (λh=>?_)
 conv=>whnf
 refine Xt h (λW _ h=>?_)
 conv=>whnf
 refine ZqX ?_;refine Zu3 h (λh=>?_) (λh=>?_)
 conv=>whnf
 refine Zdu h (λh=>?_) (λh=>?_)
 conv=>whnf
 refine Zdu h (λh=>?_) (λh=>?_)
 conv=>whnf
 cases h;obtain rfl:=b _ rfl;obtain rfl:=H _ rfl;exact k
 conv=>whnf
 cases h;obtain rfl:=b _ rfl;obtain rfl:=H _ rfl;exact k
 conv=>whnf
 refine ZqP h ?_;rintro I31 e3 ⟨v6,v7,c3,c4,c5,⟨⟩⟩ d1 h b8 G
 change Vo a2 PropagateTiming0 v2 v4 v6 v7 c3 c4 c5=some d1 at h
 unfold Vo at h
 conv=>whnf
 refine Zdu h (λh=>?_) (λh=>?_)
 conv=>whnf
 refine⟨by kernel_rfl,?_⟩
 conv=>whnf
 refine vAt h (λx2 i j l h=>?_)
 conv=>whnf
 refine⟨by kernel_rfl,?_⟩
 conv=>whnf
 refine⟨i,j,ZO l ?_⟩
 conv=>whnf
 refine vAt h (λx3 m n p h=>?_)
 conv=>whnf
 refine⟨by kernel_rfl,?_⟩
 conv=>whnf
 refine⟨m,n,ZO p ?_⟩
 conv=>whnf
 obtain⟨IncrementalTiming1,V,h⟩:=Uv.1 h;apply Zjq
 focus
  intro t
  conv=>whnf
  refine⟨_,V,?_⟩
  conv=>whnf
  refine⟨trivial,?_⟩
  conv=>whnf
  exact t
 focus
  intro t
  conv=>whnf
  refine⟨_,V,?_⟩
  conv=>whnf
  refine⟨trivial,?_⟩
  conv=>whnf
  exact t
 conv=>whnf
 refine⟨by kernel_rfl,?_⟩
 conv=>whnf
 refine⟨i,j,ZO l ?_⟩
 conv=>whnf
 refine⟨by kernel_rfl,?_⟩
 conv=>whnf
 refine⟨i,j,ZO l ?_⟩
 conv=>whnf
 refine⟨m,n,ZO p ?_⟩
 conv=>whnf
 refine⟨by kernel_rfl,?_⟩
 conv=>whnf
 refine⟨m,n,ZO p ?_⟩
 conv=>whnf
 refine Xt h (λSourcesAfter0 _ h=>?_)
 conv=>whnf
 refine⟨trivial,?_⟩
 conv=>whnf
 refine⟨by kernel_rfl,?_⟩
 conv=>whnf
 refine⟨i,j,ZO l ?_⟩
 conv=>whnf
 refine⟨by kernel_rfl,?_⟩
 conv=>whnf
 refine⟨i,j,ZO l ?_⟩
 conv=>whnf
 refine⟨m,n,ZO p ?_⟩
 conv=>whnf
 refine⟨by kernel_rfl,?_⟩
 conv=>whnf
 refine⟨m,n,ZO p ?_⟩
 conv=>whnf
 obtain⟨ApplyEdit2,X,h⟩:=Uv.1 h;apply Zjq
 focus
  intro t
  conv=>whnf
  refine⟨_,X,?_⟩
  conv=>whnf
  refine⟨trivial,?_⟩
  conv=>whnf
  exact t
 focus
  intro t
  conv=>whnf
  refine⟨_,X,?_⟩
  conv=>whnf
  refine⟨trivial,?_⟩
  conv=>whnf
  exact t
 conv=>whnf
 refine⟨by kernel_rfl,?_⟩
 conv=>whnf
 refine ZqX ?_;refine Zdu h (λh=>?_) (λh=>?_)
 conv=>whnf
 refine ZqX ?_;refine Zdu h (λh=>?_) (λh=>?_)
 conv=>whnf
 refine ZqX ?_;refine Zdu h (λh=>?_) (λh=>?_)
 conv=>whnf
 refine vAt h (λx4 a8 a9 b0 h=>?_)
 conv=>whnf
 refine⟨by kernel_rfl,?_⟩
 conv=>whnf
 refine⟨a8,a9,ZO b0 ?_⟩
 conv=>whnf
 refine Xt h (λB _ h=>?_)
 conv=>whnf
 refine⟨trivial,?_⟩
 conv=>whnf
 refine ZqQ ?_;refine Zu3 h (λh=>?_) (λh=>?_)
 conv=>whnf
 cases h;exact⟨⟨rfl,rfl⟩,b8 _ rfl⟩
 conv=>whnf
 cases h;obtain rfl:=G _ rfl;obtain rfl:=b _ rfl;obtain rfl:=H _ rfl;exact k
 conv=>whnf
 refine⟨trivial,?_⟩
 conv=>whnf
 cases h;obtain rfl:=G _ rfl;obtain rfl:=b _ rfl;obtain rfl:=H _ rfl;exact k
 conv=>whnf
 refine⟨trivial,?_⟩
 conv=>whnf
 cases h;obtain rfl:=G _ rfl;obtain rfl:=b _ rfl;obtain rfl:=H _ rfl;exact k
 conv=>whnf
 refine⟨trivial,?_⟩
 conv=>whnf
 cases h;obtain rfl:=G _ rfl;obtain rfl:=b _ rfl;obtain rfl:=H _ rfl;exact k
 conv=>whnf
 refine Xt h (λA _ h=>?_)
 conv=>whnf
 cases h;obtain rfl:=G _ rfl;obtain rfl:=b _ rfl;obtain rfl:=H _ rfl;exact k
 conv=>whnf
 refine Zdu h (λh=>?_) (λh=>?_)
 conv=>whnf
 cases h;obtain rfl:=b _ rfl;obtain rfl:=H _ rfl;exact k
 conv=>whnf
 cases h;obtain rfl:=b _ rfl;obtain rfl:=H _ rfl;exact k
 conv=>whnf
 refine Zdu h (λh=>?_) (λh=>?_)
 conv=>whnf
 cases h;obtain rfl:=b _ rfl;obtain rfl:=H _ rfl;exact k
 conv=>whnf
 cases h;obtain rfl:=b _ rfl;obtain rfl:=H _ rfl;exact k
 conv=>whnf
 cases h;obtain rfl:=b _ rfl;obtain rfl:=H _ rfl;exact k
 conv=>whnf
 refine⟨by kernel_rfl,?_⟩
 conv=>whnf
 refine vAt h (λx0 b1 b2 b3 h=>?_)
 conv=>whnf
 refine⟨by kernel_rfl,?_⟩
 conv=>whnf
 refine⟨b1,b2,ZO b3 ?_⟩
 conv=>whnf
 obtain⟨PropagateTiming2,Y,h⟩:=Uv.1 h;apply Zjq
 focus
  intro t
  conv=>whnf
  refine⟨_,Y,?_⟩
  conv=>whnf
  refine⟨trivial,?_⟩
  conv=>whnf
  exact t
 focus
  intro t
  conv=>whnf
  refine⟨_,Y,?_⟩
  conv=>whnf
  refine⟨trivial,?_⟩
  conv=>whnf
  exact t
 conv=>whnf
 refine ZqX ?_;refine Zdu h (λh=>?_) (λh=>?_)
 conv=>whnf
 refine Xt h (λW _ h=>?_)
 conv=>whnf
 refine ZqX ?_;refine Zu3 h (λh=>?_) (λh=>?_)
 conv=>whnf
 refine Zdu h (λh=>?_) (λh=>?_)
 conv=>whnf
 refine Zdu h (λh=>?_) (λh=>?_)
 conv=>whnf
 cases h;obtain rfl:=b _ rfl;obtain rfl:=H _ rfl;exact k
 conv=>whnf
 cases h;obtain rfl:=b _ rfl;obtain rfl:=H _ rfl;exact k
 conv=>whnf
 refine ZqP h ?_;rintro I43 e4 ⟨v6,v7,c3,c4,c5,⟨⟩⟩ d2 h b9 I
 change XW a2 PropagateTiming0 v2 v4 v6 v7 c3 c4 c5=some d2 at h
 unfold XW at h
 conv=>whnf
 refine Zdu h (λh=>?_) (λh=>?_)
 conv=>whnf
 refine⟨by kernel_rfl,?_⟩
 conv=>whnf
 refine vAt h (λx1 q s v h=>?_)
 conv=>whnf
 refine⟨by kernel_rfl,?_⟩
 conv=>whnf
 refine⟨q,s,ZO v ?_⟩
 conv=>whnf
 refine vAt h (λx2 w y z h=>?_)
 conv=>whnf
 refine⟨by kernel_rfl,?_⟩
 conv=>whnf
 refine⟨w,y,ZO z ?_⟩
 conv=>whnf
 obtain⟨IncrementalTiming0,Z,h⟩:=Uv.1 h;apply Zjq
 focus
  intro t
  conv=>whnf
  refine⟨_,Z,?_⟩
  conv=>whnf
  refine⟨trivial,?_⟩
  conv=>whnf
  exact t
 focus
  intro t
  conv=>whnf
  refine⟨_,Z,?_⟩
  conv=>whnf
  refine⟨trivial,?_⟩
  conv=>whnf
  exact t
 conv=>whnf
 refine⟨by kernel_rfl,?_⟩
 conv=>whnf
 refine⟨q,s,ZO v ?_⟩
 conv=>whnf
 refine⟨by kernel_rfl,?_⟩
 conv=>whnf
 refine⟨q,s,ZO v ?_⟩
 conv=>whnf
 refine⟨w,y,ZO z ?_⟩
 conv=>whnf
 refine⟨by kernel_rfl,?_⟩
 conv=>whnf
 refine⟨w,y,ZO z ?_⟩
 conv=>whnf
 refine Xt h (λSourcesAfter0 _ h=>?_)
 conv=>whnf
 refine⟨trivial,?_⟩
 conv=>whnf
 refine⟨by kernel_rfl,?_⟩
 conv=>whnf
 refine⟨q,s,ZO v ?_⟩
 conv=>whnf
 refine⟨by kernel_rfl,?_⟩
 conv=>whnf
 refine⟨q,s,ZO v ?_⟩
 conv=>whnf
 refine⟨w,y,ZO z ?_⟩
 conv=>whnf
 refine⟨by kernel_rfl,?_⟩
 conv=>whnf
 refine⟨w,y,ZO z ?_⟩
 conv=>whnf
 obtain⟨ApplyEdit0,a3,h⟩:=Uv.1 h;apply Zjq
 focus
  intro t
  conv=>whnf
  refine⟨_,a3,?_⟩
  conv=>whnf
  refine⟨trivial,?_⟩
  conv=>whnf
  exact t
 focus
  intro t
  conv=>whnf
  refine⟨_,a3,?_⟩
  conv=>whnf
  refine⟨trivial,?_⟩
  conv=>whnf
  exact t
 conv=>whnf
 refine⟨by kernel_rfl,?_⟩
 conv=>whnf
 refine ZqX ?_;refine Zdu h (λh=>?_) (λh=>?_)
 conv=>whnf
 refine ZqX ?_;refine Zdu h (λh=>?_) (λh=>?_)
 conv=>whnf
 refine ZqX ?_;refine Zdu h (λh=>?_) (λh=>?_)
 conv=>whnf
 refine vAt h (λx3 b4 b5 b6 h=>?_)
 conv=>whnf
 refine⟨by kernel_rfl,?_⟩
 conv=>whnf
 refine⟨b4,b5,ZO b6 ?_⟩
 conv=>whnf
 refine Xt h (λB _ h=>?_)
 conv=>whnf
 refine⟨trivial,?_⟩
 conv=>whnf
 refine ZqQ ?_;refine Zu3 h (λh=>?_) (λh=>?_)
 conv=>whnf
 cases h;exact⟨⟨rfl,rfl⟩,b9 _ rfl⟩
 conv=>whnf
 cases h;obtain rfl:=I _ rfl;obtain rfl:=b _ rfl;obtain rfl:=H _ rfl;exact k
 conv=>whnf
 refine⟨trivial,?_⟩
 conv=>whnf
 cases h;obtain rfl:=I _ rfl;obtain rfl:=b _ rfl;obtain rfl:=H _ rfl;exact k
 conv=>whnf
 refine⟨trivial,?_⟩
 conv=>whnf
 cases h;obtain rfl:=I _ rfl;obtain rfl:=b _ rfl;obtain rfl:=H _ rfl;exact k
 conv=>whnf
 refine⟨trivial,?_⟩
 conv=>whnf
 cases h;obtain rfl:=I _ rfl;obtain rfl:=b _ rfl;obtain rfl:=H _ rfl;exact k
 conv=>whnf
 refine Xt h (λA _ h=>?_)
 conv=>whnf
 cases h;obtain rfl:=I _ rfl;obtain rfl:=b _ rfl;obtain rfl:=H _ rfl;exact k
 conv=>whnf
 refine Zdu h (λh=>?_) (λh=>?_)
 conv=>whnf
 cases h;obtain rfl:=b _ rfl;obtain rfl:=H _ rfl;exact k
 conv=>whnf
 cases h;obtain rfl:=b _ rfl;obtain rfl:=H _ rfl;exact k
 conv=>whnf
 refine Zdu h (λh=>?_) (λh=>?_)
 conv=>whnf
 cases h;obtain rfl:=b _ rfl;obtain rfl:=H _ rfl;exact k
 conv=>whnf
 cases h;obtain rfl:=b _ rfl;obtain rfl:=H _ rfl;exact k
 conv=>whnf
 cases h;obtain rfl:=H _ rfl;exact k
 conv=>whnf
 cases h;obtain rfl:=H _ rfl;exact k
end Go.Proofs.YtoijdogpgpbddaaGreatDoor
