/-
  The functions keep their contracts, if what they call does. Printed by program.
-/
import Derived.Test.YtfndhpjedmopdaaGreatDoorM
import Derived.KernelRfl
namespace Go.Proofs.YtfndhpjedmopdaaGreatDoor
open Go Go.Sx
set_option maxRecDepth 100000
set_option maxHeartbeats 3200000
set_option linter.unusedVariables false
set_option linter.unusedSimpArgs false
structure Ws1:Prop where
 w179:Zc Tryz.prog 187 ZzM→Zc Tryz.prog 123 ZzE
 w226:Zc Tryz.prog 169 ZBf→Zc Tryz.prog 98 c226
 w14:Zc Tryz.prog 140 c13→Zc Tryz.prog 79 c14
 w50:Zc Tryz.prog 144 c48→Zc Tryz.prog 322 c50
 w67:Zc Tryz.prog 175 c67
set_option maxHeartbeats 100000000 in
theorem ws1:Ws1:=by
 refine ⟨(fun q0=>Zf Zq (Ze q0 Zj) mixed {loops:=[(0,[.reg 6 (.own (.ol 2 (.flat (.int .i64)))),.reg 19 (.dat (.int .i64))])]} (fn:=Tryz.f123) Tryz.func123 (by kernel_rfl) (by kernel_rfl) ?_),
 (fun q0=>Zf Zq (Ze q0 Zj) mixed {loops:=[(0,[.reg 5 (.dat (.int .i64))])],draws:=[(6,[0,0,3,7,0,0,48,112,255,511],.op 0 (.op 1 (.op 2 (.op 3 (.op 4 (.op 5 (.op 6 (.op 7 (.alt 8 (.op 9 (.done)) (.done))))))))))]} (fn:=Tryz.f98) Tryz.func98 (by kernel_rfl) (by kernel_rfl) ?_),
 (fun q0=>Zf Zq (Ze q0 Zj) mixed {loops:=[(0,[.reg 1 (.dat (.int .i64)),.reg 5 (.dat (.int .i64))])]} (fn:=Tryz.f79) Tryz.func79 (by kernel_rfl) (by kernel_rfl) ?_),
 (fun q0=>Zf Zq (Ze q0 Zj) mixed {loops:=[(0,[.reg 3 (.dat (.int .i64))])],draws:=[(4,[0,0,3,7,15,31,63,127,255,511,1023,1023,3071,8191,16383,1023,1023,99327,230399,524287,1048575,2097151],.op 0 (.op 1 (.op 2 (.op 3 (.alt 4 (.op 5 (.op 6 (.op 7 (.op 8 (.op 9 (.op 10 (.op 11 (.op 12 (.op 13 (.op 14 (.op 15 (.op 16 (.op 17 (.op 18 (.op 19 (.op 20 (.op 21 (.done)))))))))))))))))) (.done))))))]} (fn:=Tryz.f322) Tryz.func322 (by kernel_rfl) (by kernel_rfl) ?_),
 (Zf Zq Zj mixed {loops:=[(0,[.reg 5 (.dat (.int .i64))])],draws:=[(6,[0,1,0,7,15,31,0,64,0,448,960,1984,4095],.op 0 (.op 1 (.op 2 (.op 3 (.op 4 (.op 5 (.op 6 (.op 7 (.op 8 (.op 9 (.op 10 (.op 11 (.op 12 (.done))))))))))))))]} (fn:=Tryz.f175) Tryz.func175 (by kernel_rfl) (by kernel_rfl) ?_)⟩
 all_goals
  intro a
  repeat rcases a with ⟨_,a⟩
  rintro K ⟨r,h,hK⟩
  repeat'
    conv=>whnf
    first
    | with_reducible refine Ztb ?_
    | with_reducible refine Zk8 (by assumption) (by assumption) (by assumption) ?_
    | with_reducible refine Zv (by assumption) ?_
    | with_reducible refine Zk5 (by assumption) ?_
    | (with_reducible refine shD ?_);first | refine ZC h (fun h=>?_) (fun h=>?_) | refine ZiY h (fun h=>?_) (fun h=>?_)
    | (with_reducible refine ZsW ?_);first | refine Zel ?_ | refine Ya ?_
    | (with_reducible refine ZxR ?_);first | refine YN h (fun h=>?_) (fun h=>?_) | refine Ztq h (fun h=>?_) (fun h=>?_)
    | (with_reducible refine ZxY ?_);first | refine Zl h (fun x hb h=>?_) | (obtain ⟨x,hb,h⟩:=ZfA h) | (obtain ⟨hp,h⟩:=guardE h)
    | (with_reducible refine ZxV ?_);first | refine vAt h (fun x ha hb hx h=>?_) | (obtain ⟨x,ha,hb,hx,h⟩:=atE h) | (obtain ⟨x,hb,h⟩:=ZfA h) | (obtain ⟨hp,h⟩:=guardE h)
    | (with_reducible refine Zs0 ?_);first | refine Zs7 h (fun x hb h=>?_) | (obtain ⟨x,ha,hb,hx,h⟩:=atE h) | (obtain ⟨x,hb,h⟩:=ZfA h) | (obtain ⟨hp,h⟩:=guardE h)
    | with_reducible refine ZxZ ?_
    | (with_reducible refine ZoS ?_);refine ZoR h hK ?_;clear h hK;intro I μ v r h hK;(repeat rcases v with ⟨_,v⟩);(try dsimp only at h)
    | with_reducible refine ⟨by assumption,?_⟩
    | with_reducible refine orL ?_
    | with_reducible refine .inr ?_
    | (with_reducible refine Ztp ?_);first | refine ⟨?_,True.intro⟩ | refine ⟨?_,?_⟩
    | refine ⟨by kernel_rfl,?_⟩
    | refine ⟨by decide,?_⟩
    | refine YU h (fun hp h=>?_)
    | intro fp
    | exact trivial
    | with_reducible exact Ztf h
    | obtain rfl:=Option.some.inj h;repeat (first | exact hK | exact ⟨⟨rfl,rfl⟩,hK.1 _ rfl⟩ | (obtain ⟨_,e,hK⟩:=hK;obtain rfl:=e _ rfl))
    | (obtain ⟨x,ha,hb,hx,h⟩:=atE h)
    | (obtain ⟨x,hb,h⟩:=ZfA h)
    | (obtain ⟨hp,h⟩:=guardE h)
theorem ZFX (q0:Zc Tryz.prog 183 ZA4):Zc Tryz.prog 120 c173:=by
 refine Zf Zq (Ze q0 Zj) mixed {loops:=[(0,[.reg 7 (.own (.ol 176 (.flat (Znf)))),.reg 21 (.dat (.int .i64))]),(2,[.reg 7 (.own (.ol 176 (.flat (Znf)))),.reg 29 (.dat (.int .i64))])]} (fn:=Tryz.f120) Tryz.func120 (by kernel_rfl) (by kernel_rfl) ?_
 rintro ⟨b0,x0,first0,⟨⟩⟩ K ⟨r,h,hK⟩
 change QV b0 x0 first0=some r at h
 unfold QV at h
 conv=>whnf
 refine vAt h (fun x1 he0a he0b he0x h=>?_)
 conv=>whnf
 refine Yu h ?_
 rintro I1 μ1 ⟨list0,v0,⟨⟩⟩ zs1 h hI1 hR1
 change XH first0 x1 list0 v0=some zs1 at h
 unfold XH at h
 conv=>whnf
 refine ZC h (fun h=>?_) (fun h=>?_)
 conv=>whnf
 refine vAt h (fun x2 he2a he2b he2x h=>?_)
 conv=>whnf
 refine Zl h (fun transitions0 hb3 h=>?_)
 conv=>whnf
 refine Yu h ?_
 rintro I4 μ4 ⟨list1,v1,⟨⟩⟩ zs4 h hI4 hR4
 change Xa first0 v0 x2 transitions0 list1 v1=some zs4 at h
 unfold Xa at h
 conv=>whnf
 refine ZC h (fun h=>?_) (fun h=>?_)
 conv=>whnf
 refine vAt h (fun x3 he5a he5b he5x h=>?_)
 conv=>whnf
 refine ⟨by kernel_rfl,?_⟩
 conv=>whnf
 refine ⟨he5a,he5b,Zv he5x ?_⟩
 conv=>whnf
 refine YU h (fun hp6 h=>?_)
 conv=>whnf
 cases h
 exact ⟨⟨rfl,rfl⟩,hI4 _ rfl⟩
 conv=>whnf
 cases h
 obtain rfl:=hR4 _ rfl
 exact ⟨⟨rfl,rfl⟩,hI1 _ rfl⟩
 conv=>whnf
 cases h
 obtain rfl:=hR1 _ rfl
 exact hK
theorem ZFS (q0:Zc Tryz.prog 184 Zxu) (q1:Zc Tryz.prog 119 ZsN) (q2:Zc Tryz.prog 185 c175) (q3:Zc Tryz.prog 186 ZBp):Zc Tryz.prog 122 Zzx:=by
 refine Zf Zq (Ze q0 (Ze q1 (Ze q2 (Ze q3 Zj)))) mixed {loops:=[(0,[.reg 27 (.dat (.int .i64)),.ent 2 (nat_lit 2) (.flat (Ty.int IntKind.i64))]),(2,[.reg 10 (.dat (.int .i64)),.ent 2 (nat_lit 2) (.flat (Ty.int IntKind.i64))])],draws:=[(7,[0,0,2,0,14,30,63,127,0,256,0,1024,0,0,12288,28672,65280,131071,262143,524287],.op 0 (.op 1 (.op 2 (.op 3 (.op 4 (.op 5 (.op 6 (.op 7 (.op 8 (.op 9 (.op 10 (.op 11 (.op 12 (.op 13 (.op 14 (.op 15 (.alt 16 (.op 17 (.op 18 (.alt 19 (.done) (.done)))) (.done)))))))))))))))))),(12,[0,0,2,0,14,30,63,127,0,0,768,1792,4095,8191,16383],.op 0 (.op 1 (.op 2 (.op 3 (.op 4 (.op 5 (.op 6 (.op 7 (.op 8 (.op 9 (.op 10 (.op 11 (.op 12 (.op 13 (.alt 14 (.done) (.done))))))))))))))))]} (fn:=Tryz.f122) Tryz.func122 (by kernel_rfl) (by kernel_rfl) ?_
 rintro ⟨a0,a1,⟨⟩⟩ K ⟨r,h,hK⟩
 change XO a0 a1=some r at h
 unfold XO at h
 conv=>whnf
 refine vAt h (fun x0 he0a he0b he0x h=>?_)
 conv=>whnf
 refine Zl h (fun int64_0 hb1 h=>?_)
 conv=>whnf
 refine Zl h (fun places0 hb2 h=>?_)
 conv=>whnf
 refine Zl h (fun sinks0 hb3 h=>?_)
 conv=>whnf
 refine Yu h ?_
 rintro I4 μ4 ⟨v0,l0,⟨⟩⟩ zs4 h hI4 hR4
 change XG a0 x0 places0 sinks0 v0 l0=some zs4 at h
 unfold XG at h
 conv=>whnf
 refine ZC h (fun h=>?_) (fun h=>?_)
 conv=>whnf
 refine vAt h (fun x1 he5a he5b he5x h=>?_)
 conv=>whnf
 refine ⟨by kernel_rfl,?_⟩
 conv=>whnf
 refine ⟨he5a,he5b,Zv he5x ?_⟩
 conv=>whnf
 refine ⟨by kernel_rfl,?_⟩
 conv=>whnf
 refine vAt h (fun x2 he6a he6b he6x h=>?_)
 conv=>whnf
 refine vAt h (fun x3 he7a he7b he7x h=>?_)
 conv=>whnf
 refine ⟨by kernel_rfl,?_⟩
 conv=>whnf
 refine ⟨he7a,he7b,Zv he7x ?_⟩
 conv=>whnf
 refine vAt h (fun x4 he8a he8b he8x h=>?_)
 conv=>whnf
 refine ⟨by kernel_rfl,?_⟩
 conv=>whnf
 refine ⟨he8a,he8b,Zv he8x ?_⟩
 conv=>whnf
 refine Zl h (fun capOf0 hb9 h=>?_)
 conv=>whnf
 refine ⟨he7a,he7b,Zv he7x ?_⟩
 conv=>whnf
 refine ⟨by kernel_rfl,?_⟩
 conv=>whnf
 refine ⟨by decide,?_⟩
 conv=>whnf
 refine ⟨he7a,he7b,Zv he7x ?_⟩
 conv=>whnf
 refine ⟨trivial,?_⟩
 conv=>whnf
 cases h
 exact ⟨⟨rfl,rfl⟩,hI4 _ rfl⟩
 conv=>whnf
 refine Yu h ?_
 rintro I10 μ10 ⟨v1,l1,⟨⟩⟩ zs10 h hI10 hR10
 change XJ x0 v1 l1=some zs10 at h
 unfold XJ at h
 conv=>whnf
 refine ZC h (fun h=>?_) (fun h=>?_)
 conv=>whnf
 refine ⟨by kernel_rfl,?_⟩
 conv=>whnf
 refine vAt h (fun x1 he11a he11b he11x h=>?_)
 conv=>whnf
 refine vAt h (fun x2 he12a he12b he12x h=>?_)
 conv=>whnf
 refine ⟨by kernel_rfl,?_⟩
 conv=>whnf
 refine ⟨he12a,he12b,Zv he12x ?_⟩
 conv=>whnf
 refine vAt h (fun x3 he13a he13b he13x h=>?_)
 conv=>whnf
 refine ⟨by kernel_rfl,?_⟩
 conv=>whnf
 refine ⟨he13a,he13b,Zv he13x ?_⟩
 conv=>whnf
 refine ⟨he12a,he12b,Zv he12x ?_⟩
 conv=>whnf
 refine ⟨by kernel_rfl,?_⟩
 conv=>whnf
 refine ⟨by decide,?_⟩
 conv=>whnf
 refine ⟨he12a,he12b,Zv he12x ?_⟩
 conv=>whnf
 refine ⟨trivial,?_⟩
 conv=>whnf
 cases h
 exact ⟨⟨rfl,rfl⟩,hI10 _ rfl⟩
 conv=>whnf
 cases h
 obtain rfl:=hR10 _ rfl
 obtain rfl:=hR4 _ rfl
 exact hK
theorem ZEN (q0:Zc Tryz.prog 164 Zyz) (q1:Zc Tryz.prog 119 ZsN) (q2:Zc Tryz.prog 192 ZxX) (q4:Zc Tryz.prog 185 c175) (q5:Zc Tryz.prog 166 c201) (q3:Zc Tryz.prog 167 ZyL):Zc Tryz.prog 162 ZBt:=by
 refine Zf Zt6 (Ze q0 (Ze q1 (Ze q2 (Ze q4 (Ze q5 (Ze q3 Zj)))))) mixed {draws:=[(4,[0,0,2,6,14,0,32,96,224,480,992,2016,4094,8190,16382,32767,65535,0,262143],.op 0 (.op 1 (.op 2 (.op 3 (.op 4 (.op 5 (.op 6 (.op 7 (.op 8 (.op 9 (.alt 10 (.op 11 (.alt 12 (.op 13 (.op 14 (.op 15 (.op 16 (.alt 17 (.alt 18 (.done) (.done)) (.done)))))) (.alt 17 (.alt 12 (.op 13 (.op 14 (.op 15 (.op 16 (.alt 18 (.done) (.done)))))) (.done)) (.done)))) (.alt 17 (.alt 10 (.op 11 (.alt 12 (.op 13 (.op 14 (.op 15 (.op 16 (.alt 18 (.done) (.done)))))) (.done))) (.done)) (.done))))))))))))),(6,[0,0,0,0,8,28,63],.op 0 (.op 2 (.op 3 (.op 4 (.alt 1 (.alt 5 (.alt 6 (.done) (.done)) (.done)) (.alt 5 (.alt 1 (.alt 6 (.done) (.done)) (.done)) (.done))))))),(7,[0,0,0,4,12,28,60,0,252,508,1020,2044,4092,8191],.op 0 (.op 1 (.op 2 (.op 3 (.op 4 (.op 5 (.op 6 (.op 7 (.op 8 (.op 9 (.op 10 (.op 11 (.op 12 (.alt 13 (.done) (.done))))))))))))))),(9,[0,0,2,6,14,30,0,64,192,448,960,1984,4032,8190,16383,32767,65535,131071],.op 0 (.op 1 (.op 2 (.op 3 (.op 4 (.op 5 (.op 6 (.op 7 (.op 8 (.op 9 (.op 10 (.op 11 (.op 12 (.alt 13 (.op 14 (.op 15 (.op 16 (.alt 17 (.done) (.done))))) (.done))))))))))))))),(10,[0,0,2,6,14,0,32,96,224,480,992,2046,4095,8191,16383],.op 0 (.op 1 (.op 2 (.op 3 (.op 4 (.op 5 (.op 6 (.op 7 (.op 8 (.op 9 (.op 10 (.alt 11 (.op 12 (.op 13 (.alt 14 (.done) (.done)))) (.done)))))))))))))]} (fn:=Tryz.f162) Tryz.func162 (by kernel_rfl) (by kernel_rfl) ?_
 rintro ⟨a0,⟨⟩⟩ K ⟨r,h,hK⟩
 change Vd a0=some r at h
 unfold Vd at h
 focus
  conv=>whnf
  intro fp0
  conv=>whnf
  intro fp1
  conv=>whnf
  intro fp2
  conv=>whnf
  refine Zl h (fun nodesOf0 hb3 h=>?_)
  conv=>whnf
  refine Zl h (fun places0 hb4 h=>?_)
  conv=>whnf
  refine ⟨by kernel_rfl,?_⟩
  conv=>whnf
  obtain ⟨string0,hb5,h⟩:=Option.bind_eq_some_iff.1 h
  obtain ⟨sinks0,hb6,h⟩:=Option.bind_eq_some_iff.1 h
  obtain ⟨x0,he7a,he7b,he7x,h⟩:=atE h
  obtain ⟨x1,he8a,he8b,he8x,h⟩:=atE h
  refine ⟨?_,?_⟩
  rotate_left
  focus
   conv=>whnf
   refine ⟨_,hb5,?_⟩
   conv=>whnf
   refine ⟨_,hb6,?_⟩
   conv=>whnf
   refine ⟨he7a,he7b,Zv he7x ?_⟩
   conv=>whnf
   refine ⟨by kernel_rfl,?_⟩
   conv=>whnf
   refine ⟨he7a,he7b,Zv he7x ?_⟩
   conv=>whnf
   refine ⟨he8a,he8b,Zv he8x ?_⟩
   conv=>whnf
   refine ⟨by kernel_rfl,?_⟩
   conv=>whnf
   refine ⟨he8a,he8b,Zv he8x ?_⟩
   conv=>whnf
   refine ⟨trivial,?_⟩
  rotate_right
  focus
   conv=>whnf
   refine ⟨_,hb5,?_⟩
   conv=>whnf
   refine ⟨?_,?_⟩
   rotate_left
   focus
    conv=>whnf
    refine ⟨_,hb6,?_⟩
    conv=>whnf
    refine ⟨he7a,he7b,Zv he7x ?_⟩
    conv=>whnf
    refine ⟨by kernel_rfl,?_⟩
    conv=>whnf
    refine ⟨he7a,he7b,Zv he7x ?_⟩
    conv=>whnf
    refine ⟨he8a,he8b,Zv he8x ?_⟩
    conv=>whnf
    refine ⟨by kernel_rfl,?_⟩
    conv=>whnf
    refine ⟨he8a,he8b,Zv he8x ?_⟩
    conv=>whnf
    refine ⟨trivial,?_⟩
   rotate_right
   focus
    conv=>whnf
    refine ⟨_,hb6,?_⟩
    conv=>whnf
    refine ⟨he7a,he7b,Zv he7x ?_⟩
    conv=>whnf
    refine ⟨by kernel_rfl,?_⟩
    conv=>whnf
    refine ⟨he7a,he7b,Zv he7x ?_⟩
    conv=>whnf
    refine ⟨he8a,he8b,Zv he8x ?_⟩
    conv=>whnf
    refine ⟨by kernel_rfl,?_⟩
    conv=>whnf
    refine ⟨he8a,he8b,Zv he8x ?_⟩
    conv=>whnf
    refine ⟨trivial,?_⟩
  all_goals
   focus
    conv=>whnf
    refine ⟨by kernel_rfl,?_⟩
    conv=>whnf
    refine ⟨?_,?_⟩
    rotate_left
    focus
     conv=>whnf
     refine ⟨trivial,?_⟩
    rotate_right
    focus
     conv=>whnf
     refine ⟨trivial,?_⟩
    all_goals
     conv=>whnf
     refine ⟨by kernel_rfl,?_⟩
     conv=>whnf
     refine vAt h (fun x2 he9a he9b he9x h=>?_)
     conv=>whnf
     refine ⟨he9a,he9b,Zv he9x ?_⟩
     conv=>whnf
     intro fp10
     conv=>whnf
     refine vAt h (fun x3 he11a he11b he11x h=>?_)
     conv=>whnf
     refine ⟨by kernel_rfl,?_⟩
     conv=>whnf
     refine ⟨he11a,he11b,Zv he11x ?_⟩
     conv=>whnf
     refine Zl h (fun setNet0 hb12 h=>?_)
     conv=>whnf
     intro fp13
     conv=>whnf
     intro fp14
     conv=>whnf
     intro fp15
     conv=>whnf
     refine ⟨trivial,?_⟩
     conv=>whnf
     refine ⟨by decide,?_⟩
     conv=>whnf
     refine YU h (fun hp16 h=>?_)
     conv=>whnf
     refine YU h (fun hp17 h=>?_)
     conv=>whnf
     intro fp18
     conv=>whnf
     refine ⟨by kernel_rfl,?_⟩
     conv=>whnf
     refine ⟨by decide,?_⟩
     conv=>whnf
     refine YU h (fun hp19 h=>?_)
     conv=>whnf
     refine YU h (fun hp20 h=>?_)
     conv=>whnf
     refine ⟨trivial,?_⟩
     conv=>whnf
     refine ⟨by kernel_rfl,?_⟩
     conv=>whnf
     refine ⟨by decide,?_⟩
     conv=>whnf
     refine YU h (fun hp21 h=>?_)
     conv=>whnf
     refine YU h (fun hp22 h=>?_)
     conv=>whnf
     intro fp23
     conv=>whnf
     refine ⟨trivial,?_⟩
     conv=>whnf
     refine Zl h (fun connect0 hb24 h=>?_)
     conv=>whnf
     intro fp25
     conv=>whnf
     intro fp26
     conv=>whnf
     intro fp27
     conv=>whnf
     cases h
     exact hK
theorem ZDO:Zc Tryz.prog 318 c131:=by
 refine Zf Zq Zj mixed {} (fn:=Tryz.f318) Tryz.func318 (by kernel_rfl) (by kernel_rfl) ?_
 rintro ⟨a0,a1,⟨⟩⟩ K ⟨r,h,hK⟩
 change Zaa a0 a1=some r at h
 unfold Zaa at h
 conv=>whnf
 cases h
 exact hK
theorem ZDA (q0:Zc Tryz.prog 192 ZxX) (q1:Zc Tryz.prog 209 Zrh):Zc Tryz.prog 206 c141:=by
 refine Zf Zq (Ze q0 (Ze q1 Zj)) mixed {} (fn:=Tryz.f206) Tryz.func206 (by kernel_rfl) (by kernel_rfl) ?_
 rintro ⟨d0,net0,⟨⟩⟩ K ⟨r,h,hK⟩
 change YC d0 net0=some r at h
 unfold YC at h
 conv=>whnf
 refine Zl h (fun string0 hb0 h=>?_)
 conv=>whnf
 refine Zl h (fun within0 hb1 h=>?_)
 conv=>whnf
 cases h
 exact hK
theorem ZEj:Zc Tryz.prog 119 ZsN:=by
 refine Zf Zq Zj mixed {loops:=[(0,[.reg 3 (.own (.ol 173 (.flat (Zjd)))),.reg 13 (.dat (.int .i64))]),(2,[.reg 3 (.own (.ol 173 (.flat (Zjd)))),.reg 21 (.dat (.int .i64))]),(4,[.reg 3 (.own (.ol 173 (.flat (Zjd)))),.reg 44 (.dat (.int .i64))])]} (fn:=Tryz.f119) Tryz.func119 (by kernel_rfl) (by kernel_rfl) ?_
 rintro ⟨d0,⟨⟩⟩ K ⟨r,h,hK⟩
 change Z9 d0=some r at h
 unfold Z9 at h
 conv=>whnf
 refine Yu h ?_
 rintro I0 μ0 ⟨list0,v0,⟨⟩⟩ zs0 h hI0 hR0
 change Qk d0 list0 v0=some zs0 at h
 unfold Qk at h
 conv=>whnf
 refine ZC h (fun h=>?_) (fun h=>?_)
 conv=>whnf
 refine vAt h (fun x0 he1a he1b he1x h=>?_)
 conv=>whnf
 refine Yu h ?_
 rintro I2 μ2 ⟨list1,v1,⟨⟩⟩ zs2 h hI2 hR2
 change Ql v0 x0 list1 v1=some zs2 at h
 unfold Ql at h
 conv=>whnf
 refine ZC h (fun h=>?_) (fun h=>?_)
 conv=>whnf
 refine vAt h (fun x1 he3a he3b he3x h=>?_)
 conv=>whnf
 refine YU h (fun hp4 h=>?_)
 conv=>whnf
 cases h
 exact ⟨⟨rfl,rfl⟩,hI2 _ rfl⟩
 conv=>whnf
 cases h
 obtain rfl:=hR2 _ rfl
 exact ⟨⟨rfl,rfl⟩,hI0 _ rfl⟩
 conv=>whnf
 refine Yu h ?_
 rintro I5 μ5 ⟨list1,v1,⟨⟩⟩ zs5 h hI5 hR5
 change Qm d0 list1 v1=some zs5 at h
 unfold Qm at h
 conv=>whnf
 refine ZC h (fun h=>?_) (fun h=>?_)
 conv=>whnf
 refine vAt h (fun x0 he6a he6b he6x h=>?_)
 conv=>whnf
 refine YU h (fun hp7 h=>?_)
 conv=>whnf
 cases h
 exact ⟨⟨rfl,rfl⟩,hI5 _ rfl⟩
 conv=>whnf
 cases h
 obtain rfl:=hR5 _ rfl
 obtain rfl:=hR0 _ rfl
 exact hK
theorem ZCI (q2:Zc Tryz.prog 209 Zrh) (q0:Zc Tryz.prog 299 ZyW) (q1:Zc Tryz.prog 246 c105):Zc Tryz.prog 275 ZzS:=by
 refine Zf Zq (Ze q2 (Ze q0 (Ze q1 Zj))) mixed {loops:=[(0,[.reg 3 (.own (.ol 9 (.flat (.str)))),.reg 8 (.dat (.int .i64))])]} (fn:=Tryz.f275) Tryz.func275 (by kernel_rfl) (by kernel_rfl) ?_
 rintro ⟨list0,⟨⟩⟩ K ⟨r,h,hK⟩
 change ZdL list0=some r at h
 unfold ZdL at h
 conv=>whnf
 refine Yu h ?_
 rintro I0 μ0 ⟨names0,v0,⟨⟩⟩ zs0 h hI0 hR0
 change QC list0 names0 v0=some zs0 at h
 unfold QC at h
 conv=>whnf
 refine ZC h (fun h=>?_) (fun h=>?_)
 conv=>whnf
 refine vAt h (fun x0 he1a he1b he1x h=>?_)
 conv=>whnf
 refine YU h (fun hp2 h=>?_)
 conv=>whnf
 refine ZC h (fun h=>?_) (fun h=>?_)
 conv=>whnf
 refine Zel ?_
 refine ZC h (fun h=>?_) (fun h=>?_)
 conv=>whnf
 refine Zel ?_
 refine ZC h (fun h=>?_) (fun h=>?_)
 conv=>whnf
 refine YN h (fun h=>?_) (fun h=>?_)
 conv=>whnf
 cases h
 obtain rfl:=hR0 _ rfl
 exact hK
 conv=>whnf
 cases h
 exact ⟨⟨rfl,rfl⟩,hI0 _ rfl⟩
 conv=>whnf
 cases h
 obtain rfl:=hR0 _ rfl
 exact hK
 conv=>whnf
 cases h
 obtain rfl:=hR0 _ rfl
 exact hK
 conv=>whnf
 refine Zel ?_
 refine ZC h (fun h=>?_) (fun h=>?_)
 conv=>whnf
 refine Zl h (fun within0 hb3 h=>?_)
 conv=>whnf
 refine Ya ?_
 refine YN h (fun h=>?_) (fun h=>?_)
 conv=>whnf
 cases h
 exact ⟨⟨rfl,rfl⟩,hI0 _ rfl⟩
 conv=>whnf
 cases h
 obtain rfl:=hR0 _ rfl
 exact hK
 conv=>whnf
 cases h
 obtain rfl:=hR0 _ rfl
 exact hK
 conv=>whnf
 refine Zl h (fun Pin0 hb4 h=>?_)
 conv=>whnf
 refine Zl h (fun within0 hb5 h=>?_)
 conv=>whnf
 refine YN h (fun h=>?_) (fun h=>?_)
 conv=>whnf
 refine Zl h (fun areNames0 hb6 h=>?_)
 conv=>whnf
 cases h
 obtain rfl:=hR0 _ rfl
 exact hK
 conv=>whnf
 cases h
 obtain rfl:=hR0 _ rfl
 exact hK
theorem ZFH (q0:Zc Tryz.prog 212 Zz7) (q2:Zc Tryz.prog 184 Zxu) (q1:Zc Tryz.prog 213 ZA2) (q3:Zc Tryz.prog 214 ZzG):Zc Tryz.prog 157 ZA0:=by
 refine Zf YO (Ze q0 (Ze q2 (Ze q1 (Ze q3 Zj)))) mixed {loops:=[(0,[.reg 11 (.dat (.int .i64)),.cello 1003 0 (.ol 207 (Zms))]),(2,[.reg 30 (.dat (.int .i64)),.splt 7 235 ZtF])],draws:=[(5,[0,1,3,0,8,31,31,127,255,511],.op 0 (.op 1 (.op 3 (.op 4 (.alt 2 (.op 6 (.alt 5 (.alt 7 (.op 8 (.alt 9 (.done) (.done))) (.done)) (.done))) (.done)))))),(10,[0,1,0,0,8,0,0,64,192,0,512,1984,4039,8135,16327,32767,65535,131071],.op 0 (.op 1 (.op 2 (.op 3 (.op 5 (.op 6 (.op 7 (.op 9 (.op 10 (.alt 4 (.alt 8 (.alt 11 (.op 12 (.op 13 (.alt 14 (.op 15 (.op 16 (.alt 17 (.done) (.done)))) (.done)))) (.done)) (.done)) (.alt 8 (.alt 4 (.alt 11 (.op 12 (.op 13 (.alt 14 (.op 15 (.op 16 (.alt 17 (.done) (.done)))) (.done)))) (.done)) (.alt 11 (.op 12 (.op 13 (.alt 4 (.alt 14 (.op 15 (.op 16 (.alt 17 (.done) (.done)))) (.done)) (.alt 14 (.alt 4 (.op 15 (.op 16 (.alt 17 (.done) (.done)))) (.done)) (.done))))) (.done))) (.done))))))))))))]} (fn:=Tryz.f157) Tryz.func157 (by kernel_rfl) (by kernel_rfl) ?_
 rintro ⟨l0,⟨⟩⟩ K ⟨r,h,hK⟩
 change Jl l0=some r at h
 unfold Jl at h
 conv=>whnf
 refine Yu h ?_
 rintro I0 μ0 ⟨v0,c0,⟨⟩⟩ zs0 h hI0 hR0
 change XC l0 v0 c0=some zs0 at h
 unfold XC at h
 conv=>whnf
 intro fp1
 conv=>whnf
 refine ZC h (fun h=>?_) (fun h=>?_)
 conv=>whnf
 refine vAt h (fun x0 he2a he2b he2x h=>?_)
 conv=>whnf
 refine ⟨by kernel_rfl,?_⟩
 conv=>whnf
 refine Zl h (fun Pin0 hb3 h=>?_)
 conv=>whnf
 refine Zl h (fun int64_0 hb4 h=>?_)
 conv=>whnf
 refine ⟨trivial,?_⟩
 conv=>whnf
 refine Zl h (fun Arc0 hb5 h=>?_)
 conv=>whnf
 refine Yu h ?_
 rintro I6 μ6 ⟨v1,l1,⟨⟩⟩ zs6 h hI6 hR6
 change QH v0 c0 x0 Pin0 int64_0 Arc0 v1 l1=some zs6 at h
 unfold QH at h
 conv=>whnf
 intro fp7
 conv=>whnf
 refine ZC h (fun h=>?_) (fun h=>?_)
 focus
  conv=>whnf
  refine vAt h (fun x1 he8a he8b he8x h=>?_)
  conv=>whnf
  refine YU h (fun hp9 h=>?_)
  conv=>whnf
  refine ⟨he8a,he8b,Zv he8x ?_⟩
  conv=>whnf
  refine ⟨by kernel_rfl,?_⟩
  conv=>whnf
  obtain ⟨cloneTables0,hb10,h⟩:=Option.bind_eq_some_iff.1 h
  obtain ⟨cloneTables1,hb12,h⟩:=Option.bind_eq_some_iff.1 h
  obtain ⟨hp14,h⟩:=guardE h
  obtain ⟨x2,he15a,he15b,he15x,h⟩:=atE h
  refine ⟨?_,?_⟩
  rotate_left
  focus
   conv=>whnf
   refine ⟨_,hb10,?_⟩
   conv=>whnf
   intro fp16
   conv=>whnf
   refine ⟨?_,?_⟩
   rotate_left
   focus
    conv=>whnf
    refine ⟨_,hb12,?_⟩
    conv=>whnf
    intro fp17
    conv=>whnf
    refine ⟨he8a,he8b,Zv he8x ?_⟩
    conv=>whnf
    refine ⟨?_,?_⟩
    rotate_left
    focus
     conv=>whnf
     refine ⟨hp14,?_⟩
     conv=>whnf
     refine ⟨he15a,he15b,Zv he15x ?_⟩
     conv=>whnf
     refine ⟨he8a,he8b,Zv he8x ?_⟩
     conv=>whnf
     refine ⟨hp14,?_⟩
     conv=>whnf
     refine ⟨trivial,?_⟩
    rotate_right
    focus
     conv=>whnf
     refine ⟨hp14,?_⟩
     conv=>whnf
     refine ⟨he15a,he15b,Zv he15x ?_⟩
     conv=>whnf
     refine ⟨he8a,he8b,Zv he8x ?_⟩
     conv=>whnf
     refine ⟨hp14,?_⟩
     conv=>whnf
     refine ⟨trivial,?_⟩
   rotate_right
   focus
    conv=>whnf
    refine ⟨_,hb12,?_⟩
    conv=>whnf
    intro fp17
    conv=>whnf
    refine ⟨he8a,he8b,Zv he8x ?_⟩
    conv=>whnf
    refine ⟨hp14,?_⟩
    conv=>whnf
    refine ⟨he15a,he15b,Zv he15x ?_⟩
    conv=>whnf
    refine ⟨he8a,he8b,Zv he8x ?_⟩
    conv=>whnf
    refine ⟨hp14,?_⟩
    conv=>whnf
    refine ⟨trivial,?_⟩
  rotate_right
  focus
   conv=>whnf
   refine ⟨_,hb10,?_⟩
   conv=>whnf
   intro fp16
   conv=>whnf
   refine ⟨_,hb12,?_⟩
   conv=>whnf
   intro fp17
   conv=>whnf
   refine ⟨he8a,he8b,Zv he8x ?_⟩
   conv=>whnf
   refine ⟨hp14,?_⟩
   conv=>whnf
   refine ⟨he15a,he15b,Zv he15x ?_⟩
   conv=>whnf
   refine ⟨he8a,he8b,Zv he8x ?_⟩
   conv=>whnf
   refine ⟨hp14,?_⟩
   conv=>whnf
   refine ⟨trivial,?_⟩
  all_goals
   conv=>whnf
   cases h
   exact ⟨⟨rfl,rfl⟩,hI6 _ rfl⟩
 conv=>whnf
 refine YU h (fun hp18 h=>?_)
 conv=>whnf
 intro fp19
 conv=>whnf
 refine YU h (fun hp20 h=>?_)
 conv=>whnf
 intro fp21
 conv=>whnf
 cases h
 obtain rfl:=hR6 _ rfl
 exact ⟨⟨rfl,rfl⟩,hI0 _ rfl⟩
 conv=>whnf
 cases h
 obtain rfl:=hR0 _ rfl
 exact hK
theorem ZE8:Zc Tryz.prog 334 ZAr:=by
 refine Zf Zq Zj mixed {loops:=[(0,[.reg 3 (.dat (.int .i64))])],draws:=[(4,[0,0,2,7,15,0,0,96,224,511],.op 0 (.op 1 (.op 2 (.op 3 (.op 4 (.op 5 (.op 6 (.op 7 (.op 8 (.op 9 (.done)))))))))))]} (fn:=Tryz.f334) Tryz.func334 (by kernel_rfl) (by kernel_rfl) ?_
 rintro ⟨list0,⟨⟩⟩ K ⟨r,h,hK⟩
 change Jf list0=some r at h
 unfold Jf at h
 conv=>whnf
 refine Yu h ?_
 rintro I0 μ0 ⟨i0,⟨⟩⟩ zs0 h hI0 hR0
 change Xb list0 i0=some zs0 at h
 unfold Xb at h
 conv=>whnf
 refine ZC h (fun h=>?_) (fun h=>?_)
 conv=>whnf
 refine ⟨by kernel_rfl,?_⟩
 conv=>whnf
 refine vAt h (fun x0 he1a he1b he1x h=>?_)
 conv=>whnf
 refine vAt h (fun x1 he2a he2b he2x h=>?_)
 conv=>whnf
 refine ⟨trivial,?_⟩
 conv=>whnf
 refine ZC h (fun h=>?_) (fun h=>?_)
 conv=>whnf
 cases h
 obtain rfl:=hR0 _ rfl
 exact hK
 conv=>whnf
 cases h
 exact ⟨⟨rfl,rfl⟩,hI0 _ rfl⟩
 conv=>whnf
 cases h
 obtain rfl:=hR0 _ rfl
 exact hK
theorem ZCk (q0:Zc Tryz.prog 209 Zrh):Zc Tryz.prog 190 ZA9:=by
 refine Zf Zq (Ze q0 Zj) mixed {} (fn:=Tryz.f190) Tryz.func190 (by kernel_rfl) (by kernel_rfl) ?_
 rintro ⟨n0,⟨⟩⟩ K ⟨r,h,hK⟩
 change ZeF n0=some r at h
 unfold ZeF at h
 conv=>whnf
 refine Zl h (fun within0 hb0 h=>?_)
 conv=>whnf
 cases h
 exact hK
theorem ZDe:Zc Tryz.prog 220 c139:=by
 refine Zf Zq Zj mixed {} (fn:=Tryz.f220) Tryz.func220 (by kernel_rfl) (by kernel_rfl) ?_
 rintro ⟨list0,⟨⟩⟩ K ⟨r,h,hK⟩
 change Y8 list0=some r at h
 unfold Y8 at h
 conv=>whnf
 cases h
 exact hK
theorem ZDN:Zc Tryz.prog 191 Zzu:=by
 refine Zf Zq Zj mixed {} (fn:=Tryz.f191) Tryz.func191 (by kernel_rfl) (by kernel_rfl) ?_
 rintro ⟨list0,⟨⟩⟩ K ⟨r,h,hK⟩
 change YS list0=some r at h
 unfold YS at h
 conv=>whnf
 cases h
 exact hK
theorem w_laws_FnExactTimingAfter (q9:Zc Tryz.prog 6 c18) (q12:Zc Tryz.prog 17 c19) (q5:Zc Tryz.prog 18 c22) (q10:Zc Tryz.prog 9 c41) (q13:Zc Tryz.prog 20 c42) (q6:Zc Tryz.prog 21 c46) (q0:Zc Tryz.prog 19 c99) (q1:Zc Tryz.prog 22 c210) (q7:Zc Tryz.prog 23 ZzX) (q11:Zc Tryz.prog 12 c233) (q14:Zc Tryz.prog 24 c234) (q4:Zc Tryz.prog 14 Zz2) (q8:Zc Tryz.prog 25 ZAi) (q2:Zc Tryz.prog 26 ZAt) (q3:Zc Tryz.prog 27 Zz0):Zc Tryz.prog 4 Zc4:=by
 refine Zf Zq (Ze q9 (Ze q12 (Ze q5 (Ze q10 (Ze q13 (Ze q6 (Ze q0 (Ze q1 (Ze q7 (Ze q11 (Ze q14 (Ze q4 (Ze q8 (Ze q2 (Ze q3 Zj))))))))))))))) mixed {draws:=[(11,[0,1,0,7,0,31,63,127,255,255,0,1535,4095],.op 0 (.op 2 (.op 4 (.alt 1 (.alt 3 (.alt 5 (.alt 6 (.op 7 (.op 8 (.op 9 (.alt 10 (.alt 11 (.op 12 (.done)) (.done)) (.done))))) (.alt 10 (.alt 6 (.op 7 (.op 8 (.op 9 (.alt 11 (.op 12 (.done)) (.done))))) (.done)) (.done))) (.alt 10 (.alt 5 (.alt 6 (.op 7 (.op 8 (.op 9 (.alt 11 (.op 12 (.done)) (.done))))) (.done)) (.done)) (.done))) (.alt 10 (.alt 3 (.alt 5 (.alt 6 (.op 7 (.op 8 (.op 9 (.alt 11 (.op 12 (.done)) (.done))))) (.done)) (.done)) (.done)) (.done))) (.alt 10 (.alt 1 (.alt 3 (.alt 5 (.alt 6 (.op 7 (.op 8 (.op 9 (.alt 11 (.op 12 (.done)) (.done))))) (.done)) (.done)) (.done)) (.done)) (.done)))))),(18,[0,0,2,7,15],.op 0 (.op 1 (.alt 2 (.alt 3 (.op 4 (.done)) (.done)) (.done)))),(20,[0,0,2,7,15],.op 0 (.op 1 (.alt 2 (.alt 3 (.op 4 (.done)) (.done)) (.done)))),(22,[0,0,2,7,15],.op 0 (.op 1 (.alt 2 (.alt 3 (.op 4 (.done)) (.done)) (.done)))),(38,[0,1,0,7,0,31,63,127,255,255,0,1535,4095],.op 0 (.op 2 (.op 4 (.alt 1 (.alt 3 (.alt 5 (.alt 6 (.op 7 (.op 8 (.op 9 (.alt 10 (.alt 11 (.op 12 (.done)) (.done)) (.done))))) (.alt 10 (.alt 6 (.op 7 (.op 8 (.op 9 (.alt 11 (.op 12 (.done)) (.done))))) (.done)) (.done))) (.alt 10 (.alt 5 (.alt 6 (.op 7 (.op 8 (.op 9 (.alt 11 (.op 12 (.done)) (.done))))) (.done)) (.done)) (.done))) (.alt 10 (.alt 3 (.alt 5 (.alt 6 (.op 7 (.op 8 (.op 9 (.alt 11 (.op 12 (.done)) (.done))))) (.done)) (.done)) (.done)) (.done))) (.alt 10 (.alt 1 (.alt 3 (.alt 5 (.alt 6 (.op 7 (.op 8 (.op 9 (.alt 11 (.op 12 (.done)) (.done))))) (.done)) (.done)) (.done)) (.done)) (.done))))))]} (fn:=Tryz.f4) Tryz.func4 (by kernel_rfl) (by kernel_rfl) ?_
 rintro ⟨a0,a1,a2,⟨⟩⟩ K ⟨r,h,hK⟩
 change QD a0 a1 a2=some r at h
 unfold QD at h
 conv=>whnf
 refine Zl h (fun szBlock0 hb0 h=>?_)
 conv=>whnf
 refine ZC h (fun h=>?_) (fun h=>?_)
 conv=>whnf
 cases h
 exact hK
 conv=>whnf
 refine Zl h (fun szEdit0 hb1 h=>?_)
 conv=>whnf
 refine ZC h (fun h=>?_) (fun h=>?_)
 conv=>whnf
 cases h
 exact hK
 conv=>whnf
 refine Zl h (fun szTiming0 hb2 h=>?_)
 conv=>whnf
 refine ZC h (fun h=>?_) (fun h=>?_)
 conv=>whnf
 cases h
 exact hK
 focus
  conv=>whnf
  refine ⟨by kernel_rfl,?_⟩
  conv=>whnf
  obtain ⟨toBlock0,hb3,h⟩:=Option.bind_eq_some_iff.1 h
  obtain ⟨toEdit0,hb7,h⟩:=Option.bind_eq_some_iff.1 h
  obtain ⟨toTiming0,hb8,h⟩:=Option.bind_eq_some_iff.1 h
  obtain ⟨TimingAfter0,hb9,h⟩:=Option.bind_eq_some_iff.1 h
  refine ⟨?_,?_⟩
  rotate_left
  focus
   conv=>whnf
   refine ⟨_,hb3,?_⟩
   conv=>whnf
   intro fp32
   conv=>whnf
   intro fp33
   conv=>whnf
   intro fp34
   conv=>whnf
   refine ⟨_,hb7,?_⟩
   conv=>whnf
   refine ⟨_,hb8,?_⟩
   conv=>whnf
   refine ⟨_,hb9,?_⟩
   conv=>whnf
   refine ⟨trivial,?_⟩
  rotate_right
  focus
   conv=>whnf
   refine ⟨_,hb3,?_⟩
   conv=>whnf
   intro fp32
   conv=>whnf
   intro fp33
   conv=>whnf
   intro fp34
   conv=>whnf
   refine ⟨?_,?_⟩
   rotate_left
   focus
    conv=>whnf
    refine ⟨_,hb7,?_⟩
    conv=>whnf
    refine ⟨_,hb8,?_⟩
    conv=>whnf
    refine ⟨_,hb9,?_⟩
    conv=>whnf
    refine ⟨trivial,?_⟩
   rotate_right
   focus
    conv=>whnf
    refine ⟨_,hb7,?_⟩
    conv=>whnf
    refine ⟨?_,?_⟩
    rotate_left
    focus
     conv=>whnf
     refine ⟨_,hb8,?_⟩
     conv=>whnf
     refine ⟨_,hb9,?_⟩
     conv=>whnf
     refine ⟨trivial,?_⟩
    rotate_right
    focus
     conv=>whnf
     refine ⟨_,hb8,?_⟩
     conv=>whnf
     refine ⟨?_,?_⟩
     rotate_left
     focus
      conv=>whnf
      refine ⟨_,hb9,?_⟩
      conv=>whnf
      refine ⟨trivial,?_⟩
     rotate_right
     focus
      conv=>whnf
      refine ⟨_,hb9,?_⟩
      conv=>whnf
      refine ⟨trivial,?_⟩
  all_goals
   conv=>whnf
   refine ⟨_,hb3,?_⟩
   conv=>whnf
   intro fp10
   conv=>whnf
   intro fp11
   conv=>whnf
   intro fp12
   conv=>whnf
   refine ⟨_,hb7,?_⟩
   conv=>whnf
   refine ⟨_,hb8,?_⟩
   conv=>whnf
   refine Zl h (fun TimingAfter1 hb13 h=>?_)
   conv=>whnf
   refine Zl h (fun eqTiming0 hb14 h=>?_)
   conv=>whnf
   refine Zel ?_
   refine YN h (fun h=>?_) (fun h=>?_)
   conv=>whnf
   refine Ya ?_
   refine ZC h (fun h=>?_) (fun h=>?_)
   conv=>whnf
   refine ⟨by kernel_rfl,?_⟩
   conv=>whnf
   refine ⟨_,hb3,?_⟩
   conv=>whnf
   intro fp15
   conv=>whnf
   intro fp16
   conv=>whnf
   intro fp17
   conv=>whnf
   refine Zl h (fun eqBlock0 hb18 h=>?_)
   conv=>whnf
   refine ⟨trivial,?_⟩
   conv=>whnf
   refine Ya ?_
   refine YN h (fun h=>?_) (fun h=>?_)
   conv=>whnf
   refine ⟨by kernel_rfl,?_⟩
   conv=>whnf
   refine ⟨_,hb7,?_⟩
   conv=>whnf
   refine Zl h (fun eqEdit0 hb19 h=>?_)
   conv=>whnf
   refine ⟨trivial,?_⟩
   conv=>whnf
   refine Ya ?_
   refine YN h (fun h=>?_) (fun h=>?_)
   conv=>whnf
   refine ⟨by kernel_rfl,?_⟩
   conv=>whnf
   refine ⟨_,hb8,?_⟩
   conv=>whnf
   refine Zl h (fun eqTiming1 hb20 h=>?_)
   conv=>whnf
   refine ⟨trivial,?_⟩
   conv=>whnf
   refine Ya ?_
   refine YN h (fun h=>?_) (fun h=>?_)
   conv=>whnf
   refine Zl h (fun markBlock0 hb21 h=>?_)
   conv=>whnf
   intro fp22
   conv=>whnf
   intro fp23
   conv=>whnf
   intro fp24
   conv=>whnf
   refine Zl h (fun markEdit0 hb25 h=>?_)
   conv=>whnf
   refine Zl h (fun markTiming0 hb26 h=>?_)
   conv=>whnf
   refine ZiY h (fun h=>?_) (fun h=>?_)
   conv=>whnf
   cases h
   exact hK
   conv=>whnf
   refine ⟨_,hb14,?_⟩
   conv=>whnf
   refine Zel ?_
   refine YN h (fun h=>?_) (fun h=>?_)
   conv=>whnf
   refine Ya ?_
   refine ZC h (fun h=>?_) (fun h=>?_)
   conv=>whnf
   refine Zl h (fun markTiming1 hb27 h=>?_)
   conv=>whnf
   refine Zl h (fun heldTiming0 hb28 h=>?_)
   conv=>whnf
   refine ZC h (fun h=>?_) (fun h=>?_)
   conv=>whnf
   cases h
   exact hK
   conv=>whnf
   refine Ya ?_
   refine ZC h (fun h=>?_) (fun h=>?_)
   focus
    conv=>whnf
    refine ⟨by kernel_rfl,?_⟩
    conv=>whnf
    refine ⟨?_,?_⟩
    rotate_left
    focus
     conv=>whnf
     refine ⟨_,hb3,?_⟩
     conv=>whnf
     intro fp29
     conv=>whnf
     intro fp30
     conv=>whnf
     intro fp31
     conv=>whnf
     refine ⟨_,hb7,?_⟩
     conv=>whnf
     refine ⟨_,hb8,?_⟩
     conv=>whnf
     refine ⟨_,hb13,?_⟩
     conv=>whnf
     refine ⟨trivial,?_⟩
    rotate_right
    focus
     conv=>whnf
     refine ⟨_,hb3,?_⟩
     conv=>whnf
     intro fp29
     conv=>whnf
     intro fp30
     conv=>whnf
     intro fp31
     conv=>whnf
     refine ⟨?_,?_⟩
     rotate_left
     focus
      conv=>whnf
      refine ⟨_,hb7,?_⟩
      conv=>whnf
      refine ⟨_,hb8,?_⟩
      conv=>whnf
      refine ⟨_,hb13,?_⟩
      conv=>whnf
      refine ⟨trivial,?_⟩
     rotate_right
     focus
      conv=>whnf
      refine ⟨_,hb7,?_⟩
      conv=>whnf
      refine ⟨?_,?_⟩
      rotate_left
      focus
       conv=>whnf
       refine ⟨_,hb8,?_⟩
       conv=>whnf
       refine ⟨_,hb13,?_⟩
       conv=>whnf
       refine ⟨trivial,?_⟩
      rotate_right
      focus
       conv=>whnf
       refine ⟨_,hb8,?_⟩
       conv=>whnf
       refine ⟨?_,?_⟩
       rotate_left
       focus
        conv=>whnf
        refine ⟨_,hb13,?_⟩
        conv=>whnf
        refine ⟨trivial,?_⟩
       rotate_right
       focus
        conv=>whnf
        refine ⟨_,hb13,?_⟩
        conv=>whnf
        refine ⟨trivial,?_⟩
    all_goals
     conv=>whnf
     refine ⟨_,hb14,?_⟩
     conv=>whnf
     refine Zel ?_
     refine YN h (fun h=>?_) (fun h=>?_)
     conv=>whnf
     refine Ya ?_
     refine ZC h (fun h=>?_) (fun h=>?_)
     conv=>whnf
     refine ⟨_,hb28,?_⟩
     conv=>whnf
     refine ZC h (fun h=>?_) (fun h=>?_)
     conv=>whnf
     cases h
     exact hK
     conv=>whnf
     refine Ya ?_
     refine ZC h (fun h=>?_) (fun h=>?_)
     conv=>whnf
     cases h
     exact hK
     conv=>whnf
     cases h
     exact hK
     conv=>whnf
     cases h
     exact hK
     conv=>whnf
     cases h
     exact hK
   conv=>whnf
   cases h
   exact hK
   conv=>whnf
   cases h
   exact hK
   conv=>whnf
   cases h
   exact hK
   conv=>whnf
   cases h
   exact hK
   conv=>whnf
   cases h
   exact hK
   conv=>whnf
   cases h
   exact hK
   conv=>whnf
   cases h
   exact hK
   conv=>whnf
   cases h
   exact hK
theorem ZEa (q0:Zc Tryz.prog 168 c222):Zc Tryz.prog 97 ZAb:=by
 refine Zf Zq (Ze q0 Zj) mixed {loops:=[(0,[.reg 5 (.dat (.int .i64))])],draws:=[(6,[0,0,3,7,0,0,48,112,255,511],.op 0 (.op 1 (.op 2 (.op 3 (.op 4 (.op 5 (.op 6 (.op 7 (.alt 8 (.op 9 (.done)) (.done))))))))))]} (fn:=Tryz.f97) Tryz.func97 (by kernel_rfl) (by kernel_rfl) ?_
 rintro ⟨a0,b0,⟨⟩⟩ K ⟨r,h,hK⟩
 change ZdD a0 b0=some r at h
 unfold ZdD at h
 conv=>whnf
 refine Ya ?_
 refine ZC h (fun h=>?_) (fun h=>?_)
 conv=>whnf
 refine Yu h ?_
 rintro I0 μ0 ⟨i0,⟨⟩⟩ zs0 h hI0 hR0
 change Zee a0 b0 i0=some zs0 at h
 unfold Zee at h
 conv=>whnf
 refine ZC h (fun h=>?_) (fun h=>?_)
 conv=>whnf
 refine ⟨by kernel_rfl,?_⟩
 conv=>whnf
 refine vAt h (fun x0 he1a he1b he1x h=>?_)
 conv=>whnf
 refine vAt h (fun x1 he2a he2b he2x h=>?_)
 conv=>whnf
 refine Zl h (fun eqCell0 hb3 h=>?_)
 conv=>whnf
 refine ⟨trivial,?_⟩
 conv=>whnf
 refine Ya ?_
 refine YN h (fun h=>?_) (fun h=>?_)
 conv=>whnf
 cases h
 exact ⟨⟨rfl,rfl⟩,hI0 _ rfl⟩
 conv=>whnf
 cases h
 obtain rfl:=hR0 _ rfl
 exact hK
 conv=>whnf
 cases h
 obtain rfl:=hR0 _ rfl
 exact hK
 conv=>whnf
 cases h
 exact hK
theorem ZEp:Zc Tryz.prog 170 c228:=by
 refine Zf Zq Zj mixed {} (fn:=Tryz.f170) Tryz.func170 (by kernel_rfl) (by kernel_rfl) ?_
 rintro ⟨a0,b0,⟨⟩⟩ K ⟨r,h,hK⟩
 change Zdl a0 b0=some r at h
 unfold Zdl at h
 conv=>whnf
 refine Ya ?_
 refine ZC h (fun h=>?_) (fun h=>?_)
 conv=>whnf
 refine Ya ?_
 refine ZC h (fun h=>?_) (fun h=>?_)
 conv=>whnf
 refine Ya ?_
 refine ZC h (fun h=>?_) (fun h=>?_)
 conv=>whnf
 cases h
 exact hK
 conv=>whnf
 cases h
 exact hK
 conv=>whnf
 cases h
 exact hK
 conv=>whnf
 cases h
 exact hK
theorem ZCA:Zc Tryz.prog 70 ZAg:=by
 refine Zf YO Zj mixed {loops:=[(0,[.reg 1 (.dat (.int .i64)),.reg 5 (.dat (.int .i64)),.ent 0 (nat_lit 4) (.flat Ty.bool)])]} (fn:=Tryz.f70) Tryz.func70 (by kernel_rfl) (by kernel_rfl) ?_
 rintro ⟨a0,k0,⟨⟩⟩ K ⟨r,h,hK⟩
 change Zbu a0 k0=some r at h
 unfold Zbu at h
 conv=>whnf
 refine Yu h ?_
 rintro I0 μ0 ⟨k1,i0,l0,⟨⟩⟩ zs0 h hI0 hR0
 change VX k1 i0 l0=some zs0 at h
 unfold VX at h
 conv=>whnf
 refine ZC h (fun h=>?_) (fun h=>?_)
 conv=>whnf
 refine ⟨by decide,?_⟩
 conv=>whnf
 refine vAt h (fun x0 he1a he1b he1x h=>?_)
 conv=>whnf
 refine ⟨by kernel_rfl,?_⟩
 conv=>whnf
 refine ⟨by decide,?_⟩
 conv=>whnf
 refine ⟨he1a,he1b,Zv he1x ?_⟩
 conv=>whnf
 cases h
 exact ⟨⟨rfl,rfl⟩,hI0 _ rfl⟩
 conv=>whnf
 cases h
 obtain rfl:=hR0 _ rfl
 exact hK
theorem ZEb (q0:Zc Tryz.prog 101 ZBd):Zc Tryz.prog 46 ZAY:=by
 refine Zf YO (Ze q0 Zj) mixed {} (fn:=Tryz.f46) Tryz.func46 (by kernel_rfl) (by kernel_rfl) ?_
 rintro ⟨a0,k0,⟨⟩⟩ K ⟨r,h,hK⟩
 change Zac a0 k0=some r at h
 unfold Zac at h
 conv=>whnf
 intro fp0
 conv=>whnf
 refine Zl h (fun markCellS0 hb1 h=>?_)
 conv=>whnf
 intro fp2
 conv=>whnf
 cases h
 exact hK
theorem ZCu:Zc Tryz.prog 71 ZzR:=by
 refine Zf YO Zj mixed {loops:=[(0,[.reg 1 (.dat (.int .i64)),.reg 5 (.dat (.int .i64)),.ent 0 (nat_lit 158) (.flat Xj)])]} (fn:=Tryz.f71) Tryz.func71 (by kernel_rfl) (by kernel_rfl) ?_
 rintro ⟨a0,k0,⟨⟩⟩ K ⟨r,h,hK⟩
 change ZaK a0 k0=some r at h
 unfold ZaK at h
 conv=>whnf
 refine Yu h ?_
 rintro I0 μ0 ⟨k1,i0,l0,⟨⟩⟩ zs0 h hI0 hR0
 change VT k1 i0 l0=some zs0 at h
 unfold VT at h
 conv=>whnf
 refine ZC h (fun h=>?_) (fun h=>?_)
 conv=>whnf
 refine vAt h (fun x0 he1a he1b he1x h=>?_)
 conv=>whnf
 refine ⟨by kernel_rfl,?_⟩
 conv=>whnf
 refine ⟨by decide,?_⟩
 conv=>whnf
 refine ⟨he1a,he1b,Zv he1x ?_⟩
 conv=>whnf
 refine vAt h (fun x1 he2a he2b he2x h=>?_)
 conv=>whnf
 refine ⟨by kernel_rfl,?_⟩
 conv=>whnf
 refine ⟨by decide,?_⟩
 conv=>whnf
 refine ⟨he2a,he2b,Zv he2x ?_⟩
 conv=>whnf
 cases h
 exact ⟨⟨rfl,rfl⟩,hI0 _ rfl⟩
 conv=>whnf
 cases h
 obtain rfl:=hR0 _ rfl
 exact hK
theorem w18 (q0:Zc Tryz.prog 33 c9) (q1:Zc Tryz.prog 34 c15) (q2:Zc Tryz.prog 35 c17):Zc Tryz.prog 6 c18:=by
 refine Zf Zq (Ze q0 (Ze q1 (Ze q2 Zj))) mixed {} (fn:=Tryz.f6) Tryz.func6 (by kernel_rfl) (by kernel_rfl) ?_
 rintro ⟨a0,left0,⟨⟩⟩ K ⟨r,h,hK⟩
 change Za8 a0 left0=some r at h
 unfold Za8 at h
 conv=>whnf
 refine Zl h (fun szLibrary0 hb0 h=>?_)
 conv=>whnf
 refine ZC h (fun h=>?_) (fun h=>?_)
 conv=>whnf
 cases h
 exact hK
 conv=>whnf
 refine Zl h (fun szDesign0 hb1 h=>?_)
 conv=>whnf
 refine ZC h (fun h=>?_) (fun h=>?_)
 conv=>whnf
 cases h
 exact hK
 conv=>whnf
 refine Zl h (fun szWireS0 hb2 h=>?_)
 conv=>whnf
 refine ZC h (fun h=>?_) (fun h=>?_)
 conv=>whnf
 cases h
 exact hK
 conv=>whnf
 cases h
 exact hK
theorem w9 (q0:Zc Tryz.prog 76 c8):Zc Tryz.prog 33 c9:=by
 refine Zf Zq (Ze q0 Zj) mixed {} (fn:=Tryz.f33) Tryz.func33 (by kernel_rfl) (by kernel_rfl) ?_
 rintro ⟨a0,left0,⟨⟩⟩ K ⟨r,h,hK⟩
 change Je a0 left0=some r at h
 unfold Je at h
 conv=>whnf
 refine Zl h (fun szCellS0 hb0 h=>?_)
 conv=>whnf
 refine ZC h (fun h=>?_) (fun h=>?_)
 conv=>whnf
 cases h
 exact hK
 conv=>whnf
 cases h
 exact hK
theorem w12:Zc Tryz.prog 78 c12:=by
 refine Zf Zq Zj mixed {loops:=[(0,[.reg 1 (.dat (.int .i64)),.reg 5 (.dat (.int .i64))])]} (fn:=Tryz.f78) Tryz.func78 (by kernel_rfl) (by kernel_rfl) ?_
 rintro ⟨a0,left0,⟨⟩⟩ K ⟨r,h,hK⟩
 change Jd a0 left0=some r at h
 unfold Jd at h
 conv=>whnf
 refine ZC h (fun h=>?_) (fun h=>?_)
 conv=>whnf
 cases h
 exact hK
 conv=>whnf
 refine Yu h ?_
 rintro I0 μ0 ⟨left1,i0,⟨⟩⟩ zs0 h hI0 hR0
 change XL a0 left1 i0=some zs0 at h
 unfold XL at h
 conv=>whnf
 refine ZC h (fun h=>?_) (fun h=>?_)
 conv=>whnf
 refine vAt h (fun x0 he1a he1b he1x h=>?_)
 conv=>whnf
 refine ZC h (fun h=>?_) (fun h=>?_)
 conv=>whnf
 cases h
 obtain rfl:=hR0 _ rfl
 exact hK
 conv=>whnf
 cases h
 exact ⟨⟨rfl,rfl⟩,hI0 _ rfl⟩
 conv=>whnf
 cases h
 obtain rfl:=hR0 _ rfl
 exact hK
theorem w41 (q0:Zc Tryz.prog 39 c32) (q1:Zc Tryz.prog 40 c38) (q2:Zc Tryz.prog 41 c40):Zc Tryz.prog 9 c41:=by
 refine Zf YO (Ze q0 (Ze q1 (Ze q2 Zj))) mixed {} (fn:=Tryz.f9) Tryz.func9 (by kernel_rfl) (by kernel_rfl) ?_
 rintro ⟨a0,⟨⟩⟩ K ⟨r,h,hK⟩
 change ZdK a0=some r at h
 unfold ZdK at h
 conv=>whnf
 refine Zl h (fun toLibrary0 hb0 h=>?_)
 conv=>whnf
 intro fp1
 conv=>whnf
 refine Zl h (fun toDesign0 hb2 h=>?_)
 conv=>whnf
 intro fp3
 conv=>whnf
 refine Zl h (fun toWireS0 hb4 h=>?_)
 conv=>whnf
 intro fp5
 conv=>whnf
 cases h
 exact hK
theorem w30 (q1:Zc Tryz.prog 201 c24) (q2:Zc Tryz.prog 202 c29) (q0:Zc Tryz.prog 117 c25):Zc Tryz.prog 152 c30:=by
 refine Zf YO (Ze q1 (Ze q2 (Ze q0 Zj))) mixed {} (fn:=Tryz.f152) Tryz.func152 (by kernel_rfl) (by kernel_rfl) ?_
 rintro ⟨a0,⟨⟩⟩ K ⟨r,h,hK⟩
 change Zdt a0=some r at h
 unfold Zdt at h
 conv=>whnf
 refine Zl h (fun toPinS0 hb0 h=>?_)
 conv=>whnf
 refine Zl h (fun toArcS0 hb1 h=>?_)
 conv=>whnf
 intro fp2
 conv=>whnf
 refine Zl h (fun toInt64S0 hb3 h=>?_)
 conv=>whnf
 cases h
 exact hK
theorem w31 (q0:Zc Tryz.prog 152 c30):Zc Tryz.prog 87 c31:=by
 refine Zf YO (Ze q0 Zj) mixed {loops:=[(0,[.reg 4 (.dat (.int .i64)),.ent 0 (nat_lit 207) Zms])]} (fn:=Tryz.f87) Tryz.func87 (by kernel_rfl) (by kernel_rfl) ?_
 rintro ⟨a0,⟨⟩⟩ K ⟨r,h,hK⟩
 change ZdI a0=some r at h
 unfold ZdI at h
 conv=>whnf
 refine YU h (fun hp0 h=>?_)
 conv=>whnf
 refine YU h (fun hp1 h=>?_)
 conv=>whnf
 refine YU h (fun hp2 h=>?_)
 conv=>whnf
 refine YU h (fun hp3 h=>?_)
 conv=>whnf
 intro fp4
 conv=>whnf
 refine Yu h ?_
 rintro I5 μ5 ⟨i0,l0,⟨⟩⟩ zs5 h hI5 hR5
 change Zeh a0 i0 l0=some zs5 at h
 unfold Zeh at h
 conv=>whnf
 intro fp6
 conv=>whnf
 refine ZC h (fun h=>?_) (fun h=>?_)
 conv=>whnf
 refine vAt h (fun x0 he7a he7b he7x h=>?_)
 conv=>whnf
 refine Zl h (fun toCell0 hb8 h=>?_)
 conv=>whnf
 intro fp9
 conv=>whnf
 refine vAt h (fun x1 he10a he10b he10x h=>?_)
 conv=>whnf
 refine ⟨he10a,he10b,Zv he10x ?_⟩
 conv=>whnf
 intro fp11
 conv=>whnf
 intro fp12
 conv=>whnf
 cases h
 exact ⟨⟨rfl,rfl⟩,hI5 _ rfl⟩
 conv=>whnf
 cases h
 obtain rfl:=hR5 _ rfl
 exact hK
theorem w33 (q0:Zc Tryz.prog 117 c25):Zc Tryz.prog 153 c33:=by
 refine Zf Zq (Ze q0 Zj) mixed {} (fn:=Tryz.f153) Tryz.func153 (by kernel_rfl) (by kernel_rfl) ?_
 rintro ⟨a0,⟨⟩⟩ K ⟨r,h,hK⟩
 change JE a0=some r at h
 unfold JE at h
 conv=>whnf
 refine Zl h (fun toInt64S0 hb0 h=>?_)
 conv=>whnf
 cases h
 exact hK
theorem w26 (q0:Zc Tryz.prog 117 c25):Zc Tryz.prog 298 c26:=by
 refine Zf Zq (Ze q0 Zj) mixed {} (fn:=Tryz.f298) Tryz.func298 (by kernel_rfl) (by kernel_rfl) ?_
 rintro ⟨a0,⟨⟩⟩ K ⟨r,h,hK⟩
 change Zb1 a0=some r at h
 unfold Zb1 at h
 conv=>whnf
 refine Zl h (fun toInt64S0 hb0 h=>?_)
 conv=>whnf
 refine Zl h (fun toInt64S1 hb1 h=>?_)
 conv=>whnf
 refine Zl h (fun toInt64S2 hb2 h=>?_)
 conv=>whnf
 cases h
 exact hK
theorem w39 (q0:Zc Tryz.prog 117 c25):Zc Tryz.prog 59 c39:=by
 refine Zf Zq (Ze q0 Zj) mixed {} (fn:=Tryz.f59) Tryz.func59 (by kernel_rfl) (by kernel_rfl) ?_
 rintro ⟨a0,⟨⟩⟩ K ⟨r,h,hK⟩
 change ZbY a0=some r at h
 unfold ZbY at h
 conv=>whnf
 refine Zl h (fun toInt64S0 hb0 h=>?_)
 conv=>whnf
 refine Zl h (fun toInt64S1 hb1 h=>?_)
 conv=>whnf
 refine Zl h (fun toInt64S2 hb2 h=>?_)
 conv=>whnf
 refine Zl h (fun toInt64S3 hb3 h=>?_)
 conv=>whnf
 cases h
 exact hK
theorem w40 (q0:Zc Tryz.prog 59 c39):Zc Tryz.prog 41 c40:=by
 refine Zf YO (Ze q0 Zj) mixed {loops:=[(0,[.reg 4 (.dat (.int .i64)),.ent 0 (nat_lit 72) ZiZ])]} (fn:=Tryz.f41) Tryz.func41 (by kernel_rfl) (by kernel_rfl) ?_
 rintro ⟨a0,⟨⟩⟩ K ⟨r,h,hK⟩
 change ZdE a0=some r at h
 unfold ZdE at h
 conv=>whnf
 refine YU h (fun hp0 h=>?_)
 conv=>whnf
 refine YU h (fun hp1 h=>?_)
 conv=>whnf
 refine YU h (fun hp2 h=>?_)
 conv=>whnf
 refine YU h (fun hp3 h=>?_)
 conv=>whnf
 intro fp4
 conv=>whnf
 refine Yu h ?_
 rintro I5 μ5 ⟨i0,l0,⟨⟩⟩ zs5 h hI5 hR5
 change Zd5 a0 i0 l0=some zs5 at h
 unfold Zd5 at h
 conv=>whnf
 intro fp6
 conv=>whnf
 refine ZC h (fun h=>?_) (fun h=>?_)
 conv=>whnf
 refine vAt h (fun x0 he7a he7b he7x h=>?_)
 conv=>whnf
 refine Zl h (fun toWire0 hb8 h=>?_)
 conv=>whnf
 refine vAt h (fun x1 he9a he9b he9x h=>?_)
 conv=>whnf
 refine ⟨he9a,he9b,Zv he9x ?_⟩
 conv=>whnf
 intro fp10
 conv=>whnf
 cases h
 exact ⟨⟨rfl,rfl⟩,hI5 _ rfl⟩
 conv=>whnf
 cases h
 obtain rfl:=hR5 _ rfl
 exact hK
theorem ZEd (q0:Zc Tryz.prog 332 ZBe):Zc Tryz.prog 323 c119:=by
 refine Zf Zq (Ze q0 Zj) mixed {} (fn:=Tryz.f323) Tryz.func323 (by kernel_rfl) (by kernel_rfl) ?_
 rintro ⟨s0,f0,⟨⟩⟩ K ⟨r,h,hK⟩
 change ZA s0 f0=some r at h
 unfold ZA at h
 conv=>whnf
 refine Zl h (fun c1_0 hb0 h=>?_)
 conv=>whnf
 cases h
 exact hK
theorem ZFz:Zc Tryz.prog 280 ZBv:=by
 refine Zf Zq Zj mixed {loops:=[(0,[.reg 13 (.dat (.int .i64))])],draws:=[(6,[0,0,3,7,0,0,48,112,255],.op 0 (.op 1 (.op 2 (.op 3 (.op 4 (.op 5 (.op 6 (.op 7 (.op 8 (.done))))))))))]} (fn:=Tryz.f280) Tryz.func280 (by kernel_rfl) (by kernel_rfl) ?_
 rintro ⟨s1_0,s2_0,⟨⟩⟩ K ⟨r,h,hK⟩
 change Yv s1_0 s2_0=some r at h
 unfold Yv at h
 conv=>whnf
 refine Ya ?_
 refine ZC h (fun h=>?_) (fun h=>?_)
 conv=>whnf
 refine Yu h ?_
 rintro I0 μ0 ⟨v0,⟨⟩⟩ zs0 h hI0 hR0
 change Y1 s1_0 s2_0 v0=some zs0 at h
 unfold Y1 at h
 conv=>whnf
 refine ZC h (fun h=>?_) (fun h=>?_)
 conv=>whnf
 refine ⟨by kernel_rfl,?_⟩
 conv=>whnf
 refine vAt h (fun x0 he1a he1b he1x h=>?_)
 conv=>whnf
 refine vAt h (fun x1 he2a he2b he2x h=>?_)
 conv=>whnf
 refine ⟨trivial,?_⟩
 conv=>whnf
 refine Ya ?_
 refine ZC h (fun h=>?_) (fun h=>?_)
 conv=>whnf
 cases h
 exact ⟨⟨rfl,rfl⟩,hI0 _ rfl⟩
 conv=>whnf
 cases h
 obtain rfl:=hR0 _ rfl
 exact hK
 conv=>whnf
 cases h
 obtain rfl:=hR0 _ rfl
 exact hK
 conv=>whnf
 cases h
 exact hK
theorem ZCz (q0:Zc Tryz.prog 248 ZA6):Zc Tryz.prog 279 c143:=by
 refine Zf Zq (Ze q0 Zj) mixed {loops:=[(0,[.reg 8 (.dat (.int .i64))])]} (fn:=Tryz.f279) Tryz.func279 (by kernel_rfl) (by kernel_rfl) ?_
 rintro ⟨s0,f0,⟨⟩⟩ K ⟨r,h,hK⟩
 change ZI s0 f0=some r at h
 unfold ZI at h
 conv=>whnf
 refine Yu h ?_
 rintro I0 μ0 ⟨v0,⟨⟩⟩ zs0 h hI0 hR0
 change ZN s0 f0 v0=some zs0 at h
 unfold ZN at h
 conv=>whnf
 refine ZC h (fun h=>?_) (fun h=>?_)
 conv=>whnf
 refine vAt h (fun x0 he1a he1b he1x h=>?_)
 conv=>whnf
 refine Zl h (fun c1_0 hb2 h=>?_)
 conv=>whnf
 refine YN h (fun h=>?_) (fun h=>?_)
 conv=>whnf
 cases h
 obtain rfl:=hR0 _ rfl
 exact hK
 conv=>whnf
 cases h
 exact ⟨⟨rfl,rfl⟩,hI0 _ rfl⟩
 conv=>whnf
 cases h
 obtain rfl:=hR0 _ rfl
 exact hK
theorem ZCO:Zc Tryz.prog 258 Zzt:=by
 refine Zf Zq Zj mixed {loops:=[(0,[.reg 8 (.dat (.int .i64))])]} (fn:=Tryz.f258) Tryz.func258 (by kernel_rfl) (by kernel_rfl) ?_
 rintro ⟨s0,v0,⟨⟩⟩ K ⟨r,h,hK⟩
 change Yi s0 v0=some r at h
 unfold Yi at h
 conv=>whnf
 refine Yu h ?_
 rintro I0 μ0 ⟨v1,⟨⟩⟩ zs0 h hI0 hR0
 change Ym s0 v0 v1=some zs0 at h
 unfold Ym at h
 conv=>whnf
 refine ZC h (fun h=>?_) (fun h=>?_)
 conv=>whnf
 refine vAt h (fun x0 he1a he1b he1x h=>?_)
 conv=>whnf
 refine ZC h (fun h=>?_) (fun h=>?_)
 conv=>whnf
 cases h
 obtain rfl:=hR0 _ rfl
 exact hK
 conv=>whnf
 cases h
 exact ⟨⟨rfl,rfl⟩,hI0 _ rfl⟩
 conv=>whnf
 cases h
 obtain rfl:=hR0 _ rfl
 exact hK
theorem w87 (q0:Zc Tryz.prog 146 c81):Zc Tryz.prog 85 c87:=by
 refine Zf Zq (Ze q0 Zj) mixed {draws:=[(1,[0,1,3,0,8,31,0,64,255,0,512,2047,4095,8191],.op 0 (.op 1 (.op 3 (.op 4 (.op 6 (.op 7 (.op 9 (.op 10 (.alt 2 (.alt 5 (.alt 8 (.alt 11 (.op 12 (.alt 13 (.done) (.done))) (.done)) (.done)) (.done)) (.done))))))))))]} (fn:=Tryz.f85) Tryz.func85 (by kernel_rfl) (by kernel_rfl) ?_
 rintro ⟨w0,⟨⟩⟩ K ⟨r,h,hK⟩
 change JH w0=some r at h
 unfold JH at h
 conv=>whnf
 refine ⟨by kernel_rfl,?_⟩
 conv=>whnf
 refine Zl h (fun l02Ints0 hb0 h=>?_)
 conv=>whnf
 refine Zl h (fun l02Ints1 hb1 h=>?_)
 conv=>whnf
 refine Zl h (fun l02Ints2 hb2 h=>?_)
 conv=>whnf
 refine Zl h (fun l02Ints3 hb3 h=>?_)
 conv=>whnf
 refine ⟨trivial,?_⟩
 conv=>whnf
 cases h
 exact hK
theorem w68:Zc Tryz.prog 176 c68:=by
 refine Zf Zq Zj mixed {} (fn:=Tryz.f176) Tryz.func176 (by kernel_rfl) (by kernel_rfl) ?_
 rintro ⟨c0,⟨⟩⟩ K ⟨r,h,hK⟩
 change ZaF c0=some r at h
 unfold ZaF at h
 conv=>whnf
 refine ZC h (fun h=>?_) (fun h=>?_)
 conv=>whnf
 cases h
 exact hK
 conv=>whnf
 cases h
 exact hK
theorem w73 (q0:Zc Tryz.prog 176 c68) (q1:Zc Tryz.prog 82 c62) (q2:Zc Tryz.prog 234 c72):Zc Tryz.prog 180 c73:=by
 refine Zf Zq (Ze q0 (Ze q1 (Ze q2 Zj))) mixed {draws:=[(6,[0,1,3,0,8,31,63,127,255,511,1023,2047,4095,8191,1023,32767,65535,131071,262143,524287,1048575,262143,4194303,8388607,262143,17039359,67108863,134217727,268435455,536870911,1073741823,2147483647,4294967295,536870911,17179869183,34359738367],.op 0 (.op 1 (.op 2 (.op 3 (.op 4 (.op 5 (.op 6 (.alt 7 (.op 8 (.op 9 (.op 10 (.op 11 (.op 12 (.op 13 (.op 14 (.op 15 (.op 16 (.op 17 (.op 18 (.op 19 (.op 20 (.op 21 (.op 22 (.op 23 (.op 24 (.op 25 (.op 26 (.op 27 (.op 28 (.op 29 (.op 30 (.op 31 (.op 32 (.op 33 (.op 34 (.op 35 (.done))))))))))))))))))))))))))))) (.done)))))))))]} (fn:=Tryz.f180) Tryz.func180 (by kernel_rfl) (by kernel_rfl) ?_
 rintro ⟨a0,⟨⟩⟩ K ⟨r,h,hK⟩
 change ZdA a0=some r at h
 unfold ZdA at h
 conv=>whnf
 refine ZC h (fun h=>?_) (fun h=>?_)
 conv=>whnf
 cases h
 exact hK
 conv=>whnf
 refine vAt h (fun x0 he0a he0b he0x h=>?_)
 conv=>whnf
 refine ⟨by kernel_rfl,?_⟩
 conv=>whnf
 refine vAt h (fun x1 he1a he1b he1x h=>?_)
 conv=>whnf
 refine Zl h (fun l08Buffer0 hb2 h=>?_)
 conv=>whnf
 refine Zel ?_
 refine YN h (fun h=>?_) (fun h=>?_)
 conv=>whnf
 refine vAt h (fun x2 he3a he3b he3x h=>?_)
 conv=>whnf
 refine Zel ?_
 refine ZC h (fun h=>?_) (fun h=>?_)
 conv=>whnf
 refine vAt h (fun x3 he4a he4b he4x h=>?_)
 conv=>whnf
 refine Zel ?_
 refine ZC h (fun h=>?_) (fun h=>?_)
 conv=>whnf
 refine vAt h (fun x4 he5a he5b he5x h=>?_)
 conv=>whnf
 refine ⟨trivial,?_⟩
 conv=>whnf
 refine ZC h (fun h=>?_) (fun h=>?_)
 conv=>whnf
 cases h
 exact hK
 conv=>whnf
 refine Zl h (fun l05Sinks0 hb6 h=>?_)
 conv=>whnf
 refine ZC h (fun h=>?_) (fun h=>?_)
 conv=>whnf
 refine vAt h (fun x5 he7a he7b he7x h=>?_)
 conv=>whnf
 refine Zl h (fun l08Bare0 hb8 h=>?_)
 conv=>whnf
 cases h
 exact hK
 conv=>whnf
 cases h
 exact hK
 conv=>whnf
 refine ⟨trivial,?_⟩
 conv=>whnf
 cases h
 exact hK
 conv=>whnf
 refine ⟨trivial,?_⟩
 conv=>whnf
 cases h
 exact hK
 conv=>whnf
 refine ⟨trivial,?_⟩
 conv=>whnf
 cases h
 exact hK
theorem w96:Zc Tryz.prog 115 c96:=by
 refine Zf Zq Zj mixed {draws:=[(1,[0,1,0,4,0,16,63,127],.op 0 (.op 2 (.op 4 (.alt 1 (.alt 3 (.alt 5 (.op 6 (.alt 7 (.done) (.done))) (.done)) (.alt 5 (.alt 3 (.op 6 (.alt 7 (.done) (.done))) (.done)) (.done))) (.alt 3 (.alt 1 (.alt 5 (.op 6 (.alt 7 (.done) (.done))) (.done)) (.alt 5 (.alt 1 (.op 6 (.alt 7 (.done) (.done))) (.done)) (.done))) (.alt 5 (.alt 1 (.alt 3 (.op 6 (.alt 7 (.done) (.done))) (.done)) (.alt 3 (.alt 1 (.op 6 (.alt 7 (.done) (.done))) (.done)) (.done))) (.done)))))))]} (fn:=Tryz.f115) Tryz.func115 (by kernel_rfl) (by kernel_rfl) ?_
 rintro ⟨n0,⟨⟩⟩ K ⟨r,h,hK⟩
 change Zct n0=some r at h
 unfold Zct at h
 focus
  conv=>whnf
  refine ⟨by kernel_rfl,?_⟩
  conv=>whnf
  obtain ⟨hp0,h⟩:=guardE h
  obtain ⟨hp1,h⟩:=guardE h
  obtain ⟨hp2,h⟩:=guardE h
  obtain ⟨hp3,h⟩:=guardE h
  obtain ⟨hp4,h⟩:=guardE h
  refine ⟨?_,?_⟩
  rotate_left
  focus
   conv=>whnf
   refine ⟨?_,?_⟩
   rotate_left
   focus
    conv=>whnf
    refine ⟨hp0,?_⟩
    conv=>whnf
    refine ⟨hp1,?_⟩
    conv=>whnf
    refine ⟨hp2,?_⟩
    conv=>whnf
    refine ⟨hp4,?_⟩
    conv=>whnf
    refine ⟨?_,?_⟩
    rotate_left
    focus
     conv=>whnf
     refine ⟨hp0,?_⟩
     conv=>whnf
     refine ⟨hp1,?_⟩
     conv=>whnf
     refine ⟨hp2,?_⟩
     conv=>whnf
     refine ⟨hp4,?_⟩
     conv=>whnf
     refine ⟨hp0,?_⟩
     conv=>whnf
     refine ⟨hp1,?_⟩
     conv=>whnf
     refine ⟨hp2,?_⟩
     conv=>whnf
     refine ⟨hp3,?_⟩
     conv=>whnf
     refine ⟨trivial,?_⟩
    rotate_right
    focus
     conv=>whnf
     refine ⟨hp0,?_⟩
     conv=>whnf
     refine ⟨hp1,?_⟩
     conv=>whnf
     refine ⟨hp2,?_⟩
     conv=>whnf
     refine ⟨hp3,?_⟩
     conv=>whnf
     refine ⟨hp0,?_⟩
     conv=>whnf
     refine ⟨hp1,?_⟩
     conv=>whnf
     refine ⟨hp2,?_⟩
     conv=>whnf
     refine ⟨hp4,?_⟩
     conv=>whnf
     refine ⟨trivial,?_⟩
   rotate_right
   focus
    conv=>whnf
    refine ⟨hp0,?_⟩
    conv=>whnf
    refine ⟨hp1,?_⟩
    conv=>whnf
    refine ⟨hp2,?_⟩
    conv=>whnf
    refine ⟨hp4,?_⟩
    conv=>whnf
    refine ⟨?_,?_⟩
    rotate_left
    focus
     conv=>whnf
     refine ⟨hp0,?_⟩
     conv=>whnf
     refine ⟨hp1,?_⟩
     conv=>whnf
     refine ⟨hp2,?_⟩
     conv=>whnf
     refine ⟨hp4,?_⟩
     conv=>whnf
     refine ⟨hp0,?_⟩
     conv=>whnf
     refine ⟨hp1,?_⟩
     conv=>whnf
     refine ⟨hp2,?_⟩
     conv=>whnf
     refine ⟨hp3,?_⟩
     conv=>whnf
     refine ⟨trivial,?_⟩
    rotate_right
    focus
     conv=>whnf
     refine ⟨hp0,?_⟩
     conv=>whnf
     refine ⟨hp1,?_⟩
     conv=>whnf
     refine ⟨hp2,?_⟩
     conv=>whnf
     refine ⟨hp3,?_⟩
     conv=>whnf
     refine ⟨hp0,?_⟩
     conv=>whnf
     refine ⟨hp1,?_⟩
     conv=>whnf
     refine ⟨hp2,?_⟩
     conv=>whnf
     refine ⟨hp4,?_⟩
     conv=>whnf
     refine ⟨trivial,?_⟩
  rotate_right
  focus
   conv=>whnf
   refine ⟨hp0,?_⟩
   conv=>whnf
   refine ⟨hp1,?_⟩
   conv=>whnf
   refine ⟨hp2,?_⟩
   conv=>whnf
   refine ⟨hp3,?_⟩
   conv=>whnf
   refine ⟨?_,?_⟩
   rotate_left
   focus
    conv=>whnf
    refine ⟨hp0,?_⟩
    conv=>whnf
    refine ⟨hp1,?_⟩
    conv=>whnf
    refine ⟨hp2,?_⟩
    conv=>whnf
    refine ⟨hp4,?_⟩
    conv=>whnf
    refine ⟨hp0,?_⟩
    conv=>whnf
    refine ⟨hp1,?_⟩
    conv=>whnf
    refine ⟨hp2,?_⟩
    conv=>whnf
    refine ⟨hp4,?_⟩
    conv=>whnf
    refine ⟨trivial,?_⟩
   rotate_right
   focus
    conv=>whnf
    refine ⟨hp0,?_⟩
    conv=>whnf
    refine ⟨hp1,?_⟩
    conv=>whnf
    refine ⟨hp2,?_⟩
    conv=>whnf
    refine ⟨hp4,?_⟩
    conv=>whnf
    refine ⟨hp0,?_⟩
    conv=>whnf
    refine ⟨hp1,?_⟩
    conv=>whnf
    refine ⟨hp2,?_⟩
    conv=>whnf
    refine ⟨hp4,?_⟩
    conv=>whnf
    refine ⟨trivial,?_⟩
  all_goals
   conv=>whnf
   cases h
   exact hK
theorem w98 (q1:Zc Tryz.prog 86 c95) (q2:Zc Tryz.prog 114 c76) (q3:Zc Tryz.prog 115 c96) (q0:Zc Tryz.prog 116 c97):Zc Tryz.prog 58 c98:=by
 refine Zf Zq (Ze q1 (Ze q2 (Ze q3 (Ze q0 Zj)))) mixed {loops:=[(0,[.reg 9 (.dat (.int .i64)),.ent 9 (nat_lit 4) (.flat Ty.bool),.ent 10 (nat_lit 158) (.flat Xj),.ent 11 (nat_lit 158) (.flat Xj)])],draws:=[(9,[0,1,0,0,8,0,56,120,255,511],.op 0 (.op 1 (.op 2 (.op 3 (.op 4 (.op 5 (.op 6 (.op 7 (.op 8 (.alt 9 (.done) (.done))))))))))),(10,[0,1,0,0,8,0,56,120,255,511],.op 0 (.op 1 (.op 2 (.op 3 (.op 4 (.op 5 (.op 6 (.op 7 (.op 8 (.alt 9 (.done) (.done))))))))))),(11,[0,1,0,0,8,0,56,120,255,511],.op 0 (.op 1 (.op 2 (.op 3 (.op 4 (.op 5 (.op 6 (.op 7 (.op 8 (.alt 9 (.done) (.done)))))))))))]} (fn:=Tryz.f58) Tryz.func58 (by kernel_rfl) (by kernel_rfl) ?_
 rintro ⟨a0,a1,a2,⟨⟩⟩ K ⟨r,h,hK⟩
 change ZbD a0 a1 a2=some r at h
 unfold ZbD at h
 conv=>whnf
 refine Zl h (fun l08Apply0 hb0 h=>?_)
 conv=>whnf
 intro fp1
 conv=>whnf
 intro fp2
 conv=>whnf
 intro fp3
 conv=>whnf
 refine Zl h (fun l09Count0 hb4 h=>?_)
 conv=>whnf
 refine Zl h (fun l12Empty0 hb5 h=>?_)
 conv=>whnf
 refine Zl h (fun l32Places0 hb6 h=>?_)
 conv=>whnf
 refine Yu h ?_
 rintro I7 μ7 ⟨v0,l0,l1,l2,⟨⟩⟩ zs7 h hI7 hR7
 change QM a2 l32Places0 v0 l0 l1 l2=some zs7 at h
 unfold QM at h
 conv=>whnf
 refine ZC h (fun h=>?_) (fun h=>?_)
 conv=>whnf
 refine ⟨by decide,?_⟩
 conv=>whnf
 refine vAt h (fun x0 he8a he8b he8x h=>?_)
 conv=>whnf
 refine ⟨by kernel_rfl,?_⟩
 conv=>whnf
 refine ⟨he8a,he8b,Zv he8x ?_⟩
 conv=>whnf
 refine ZC h (fun h=>?_) (fun h=>?_)
 conv=>whnf
 cases h
 exact ⟨⟨rfl,rfl⟩,hI7 _ rfl⟩
 conv=>whnf
 refine ⟨by decide,?_⟩
 conv=>whnf
 refine ⟨by kernel_rfl,?_⟩
 conv=>whnf
 refine vAt h (fun x1 he9a he9b he9x h=>?_)
 conv=>whnf
 refine vAt h (fun x2 he10a he10b he10x h=>?_)
 conv=>whnf
 refine ⟨by kernel_rfl,?_⟩
 conv=>whnf
 refine ⟨by decide,?_⟩
 conv=>whnf
 refine ⟨he10a,he10b,Zv he10x ?_⟩
 conv=>whnf
 refine ⟨trivial,?_⟩
 conv=>whnf
 refine ⟨by kernel_rfl,?_⟩
 conv=>whnf
 refine vAt h (fun x3 he11a he11b he11x h=>?_)
 conv=>whnf
 refine vAt h (fun x4 he12a he12b he12x h=>?_)
 conv=>whnf
 refine ⟨by kernel_rfl,?_⟩
 conv=>whnf
 refine ⟨by decide,?_⟩
 conv=>whnf
 refine ⟨he12a,he12b,Zv he12x ?_⟩
 conv=>whnf
 refine ⟨trivial,?_⟩
 conv=>whnf
 refine ⟨by kernel_rfl,?_⟩
 conv=>whnf
 refine vAt h (fun x5 he13a he13b he13x h=>?_)
 conv=>whnf
 refine vAt h (fun x6 he14a he14b he14x h=>?_)
 conv=>whnf
 refine ⟨by kernel_rfl,?_⟩
 conv=>whnf
 refine ⟨by decide,?_⟩
 conv=>whnf
 refine ⟨he14a,he14b,Zv he14x ?_⟩
 conv=>whnf
 refine ⟨trivial,?_⟩
 conv=>whnf
 cases h
 exact ⟨⟨rfl,rfl⟩,hI7 _ rfl⟩
 conv=>whnf
 cases h
 obtain rfl:=hR7 _ rfl
 exact hK
end Go.Proofs.YtfndhpjedmopdaaGreatDoor
