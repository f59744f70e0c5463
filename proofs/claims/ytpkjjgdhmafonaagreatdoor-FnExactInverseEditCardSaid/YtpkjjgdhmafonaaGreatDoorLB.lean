/-
  Plain laws: lists of numbers, tables.
-/
import Derived.Test.YtpkjjgdhmafonaaGreatDoorLA
namespace Go.Proofs.YtpkjjgdhmafonaaGreatDoor
set_option linter.unusedVariables false
set_option linter.unusedSimpArgs false
open Go Go.Sx
theorem bool_of_iff {a b:Bool} (h:a=true↔b=true):a=b:=by cases a<;>cases b<;>simp_all
theorem tr_congr {P Q:Prop} (h:P↔Q):tr P=tr Q:=by rw [propext h]
def Inc (l:List Int):Prop:=∀ (k:Nat) (x y:Int),l[k]?=some x→l[k+1]?=some y→x<y
def AllIn (l:List Int) (lo hi:Int):Prop:=∀ x∈l,lo≤x∧x≤hi
theorem allIn_iff (l:List Int) (lo hi:Int):allIn l lo hi=true↔AllIn l lo hi:=by
  unfold allIn AllIn
  rw [List.all_eq_true]
  simp only [within_iff]
theorem impl_length_int64_eq (l:List Int):impl_length_int64 l=some (l.length:Int):=rfl
theorem impl_isIncreasing_eq (l:List Int) (hl:Len l):impl_isIncreasing l=some (tr (Inc l)):=by
  unfold impl_isIncreasing
  have h4:l.length≤4611686018427387904:=hl
  by_cases h0:l.length=0
  · have:l=[]:=List.eq_nil_of_length_eq_zero h0
    subst this
    rw [whileM_out (r:=true) (by rfl)]
    have h0:Inc []:=fun k x y h=>by simp at h
    rw [tr_pos h0]
  have:=loopAllN (ρ:=Bool) 1 l.length (by omega) h4 (fun k=>∀ x y,l[k-1]?=some x→l[k]?=some y→x<y) (step:=fun v=>impl_isIncreasing_loop0 l v.1) (bad:=false) (good:=true)
    (fun k h1 h2 _=>by
      obtain ⟨x,hx⟩:∃ x,l[k-1]?=some x:=⟨_,List.getElem?_eq_getElem (by omega)⟩
      obtain ⟨y,hy⟩:∃ y,l[k]?=some y:=⟨_,List.getElem?_eq_getElem h2⟩
      have e1:IntKind.i64.wrap ((k:Int)-1)=((k-1:Nat):Int):=by rw [W_in (by omega) (by omega)];omega
      simp only [impl_isIncreasing_loop0,show (k:Int)<(l.length:Int) from by omega,if_true,e1,atI_nat,hx,hy,Option.bind_some]
      refine ⟨fun h=>?_,fun h=>?_⟩
      · have:=h x y rfl rfl
        rw [if_neg (by omega)]
      · rw [if_pos]
        rcases Int.lt_or_le x y with h' | h'
        · exact absurd (fun a b ha hb=>by injection ha with ha;injection hb with hb;subst ha;subst hb;exact h') h
        · exact h')
    (fun _=>by simp only [impl_isIncreasing_loop0,Int.lt_irrefl,if_false])
  refine (show whileM (fun v=>impl_isIncreasing_loop0 l v.1) ((1:Int),())=_ from this).trans ?_
  rw [sel_tr]
  congr 1
  refine tr_congr ⟨fun h k x y hx hy=>?_,fun h j h1 h2 x y hx hy=>?_⟩
  · exact h (k+1) (by omega) (List.getElem?_eq_some_iff.1 hy).1 x y (by simpa using hx) hy
  · exact h (j-1) x y hx (by rw [show j-1+1=j by omega];exact hy)
def AxisOk (l:List Int):Prop:=1≤l.length∧l.length≤4∧AllIn l 0 100000∧Inc l
theorem impl_isAxis_eq (l:List Int) (hl:Len l):impl_isAxis l=some (tr (AxisOk l)):=by
  unfold impl_isAxis
  rw [impl_length_int64_eq,Option.bind_some,impl_within_eq,Option.bind_some,impl_areWithin_eq l _ _ hl,Option.bind_some,impl_isIncreasing_eq l hl,Option.bind_some]
  have e:tr (AxisOk l)=(within (l.length:Int) 1 4&&allIn l 0 100000&&tr (Inc l)):=by
    refine tr_eq ?_
    simp only [Bool.and_eq_true,within_iff,allIn_iff,tr_iff,AxisOk]
    exact ⟨fun ⟨⟨⟨a,b⟩,c⟩,d⟩=>⟨by omega,by omega,c,d⟩,fun ⟨a,b,c,d⟩=>⟨⟨⟨by omega,by omega⟩,c⟩,d⟩⟩
  rw [e]
  cases within (l.length:Int) 1 4<;>cases allIn l 0 100000<;>cases tr (Inc l)<;>rfl
theorem spec_l02Axis_eq (l:List Int) (hl:Len l):spec_l02Axis l=some (tr (AxisOk l)):=by
  unfold spec_l02Axis
  have h4:l.length≤4611686018427387904:=hl
  rw [loopAll hl (fun k x=>(0≤x∧x≤100000)∧(0<k→∀ y,l[k-1]?=some y→y<x)) (bad:=false) (good:=decide (1≤l.length∧l.length≤4))
    (fun k x hx hk _=>by
      simp only [spec_l02Axis_loop0,show (k:Int)<(l.length:Int) from by omega,if_true,atI_nat,hx,Option.bind_some,spec_l01In_eq]
      by_cases hw:within x 0 100000=true
      · rw [if_pos hw]
        by_cases h0:0<k
        · obtain ⟨y,hy⟩:∃ y,l[k-1]?=some y:=⟨_,List.getElem?_eq_getElem (by omega)⟩
          have e1:IntKind.i64.wrap ((k:Int)-1)=((k-1:Nat):Int):=by rw [W_in (by omega) (by omega)];omega
          rw [if_pos (by omega),e1,atI_nat,hy,Option.bind_some]
          refine ⟨fun h=>?_,fun h=>?_⟩
          · rw [if_neg (by have:=h.2 h0 y rfl;omega)]
          · rw [if_pos]
            rcases Int.lt_or_le y x with h' | h'
            · exact absurd ⟨(within_iff _ _ _).1 hw,fun _ z hz=>by injection hz with hz;subst hz;exact h'⟩ h
            · exact h'
        · rw [if_neg (by omega)]
          exact ⟨fun _=>rfl,fun h=>absurd ⟨(within_iff _ _ _).1 hw,fun h'=>absurd h' h0⟩ h⟩
      · rw [if_neg hw]
        exact ⟨fun h=>absurd ((within_iff _ _ _).2 h.1) hw,fun _=>rfl⟩)
    (fun _=>by
      simp only [spec_l02Axis_loop0,Int.lt_irrefl,if_false]
      by_cases h1:1≤l.length
      · rw [if_pos (by omega)]
        congr 2
        rw [decide_eq_decide];omega
      · rw [if_neg (by omega)]
        simp [h1])]
  congr 1
  refine bool_of_iff ?_
  rw [tr_iff]
  by_cases h:AllE l (fun k x=>(0≤x∧x≤100000)∧(0<k→∀ y,l[k-1]?=some y→y<x))
  · rw [sel_pos h,decide_eq_true_eq]
    constructor
    · rintro ⟨h1,h2⟩
      refine ⟨h1,h2,fun x hx=>?_,fun k x y hx hy=>?_⟩
      · obtain ⟨k,hk⟩:=List.mem_iff_getElem?.1 hx
        exact (h k x hk).1
      · exact (h (k+1) y hy).2 (by omega) x (by simpa using hx)
    · intro hh
      exact ⟨hh.1,hh.2.1⟩
  · rw [sel_neg h]
    constructor
    · intro hh;cases hh
    · intro hh
      refine absurd ?_ h
      intro k x hk
      refine ⟨hh.2.2.1 x (List.mem_of_getElem? hk),fun h0 y hy=>?_⟩
      exact hh.2.2.2 (k-1) y x hy (by rw [show k-1+1=k by omega];exact hk)
def TableOk (t:TTable):Prop:=AxisOk (TTable.Slews t)∧AxisOk (TTable.Loads t)∧(TTable.Values t).length=(TTable.Slews t).length*(TTable.Loads t).length∧AllIn (TTable.Values t) (-1000000) 1000000
def TLen (t:TTable):Prop:=Len (TTable.Slews t)∧Len (TTable.Loads t)∧Len (TTable.Values t)
theorem AxisOk.mul {a b:List Int} (ha:AxisOk a) (hb:AxisOk b):a.length*b.length≤16:=by
  have h1:=ha.2.1
  have h2:=hb.2.1
  calc a.length*b.length≤4*4:=Nat.mul_le_mul h1 h2
    _=16:=rfl
theorem mul_wrap {a b:List Int} (ha:AxisOk a) (hb:AxisOk b):IntKind.i64.wrap ((a.length:Int)*(b.length:Int))=((a.length*b.length:Nat):Int):=by
  have:=ha.mul hb
  have e:(a.length:Int)*(b.length:Int)=((a.length*b.length:Nat):Int):=by simp
  rw [e,W_in (by omega) (by omega)]
theorem impl_IsTable_eq (t:TTable) (h:TLen t):impl_IsTable t=some (tr (TableOk t)):=by
  unfold impl_IsTable
  rw [impl_isAxis_eq _ h.1,Option.bind_some]
  by_cases h1:AxisOk (TTable.Slews t)
  · rw [if_pos (tr_pos h1),impl_isAxis_eq _ h.2.1,Option.bind_some]
    by_cases h2:AxisOk (TTable.Loads t)
    · rw [if_pos (tr_pos h2),mul_wrap h1 h2]
      by_cases h3:(TTable.Values t).length=(TTable.Slews t).length*(TTable.Loads t).length
      · rw [if_pos (by rw [h3]),impl_areWithin_eq _ _ _ h.2.2,Option.bind_some]
        congr 1
        refine bool_of_iff ?_
        rw [allIn_iff,tr_iff]
        exact ⟨fun h4=>⟨h1,h2,h3,h4⟩,fun h4=>h4.2.2.2⟩
      · rw [if_neg (by omega),tr_neg (fun hh=>h3 hh.2.2.1)]
    · rw [if_neg (by rw [tr_neg h2];simp),tr_neg (fun hh=>h2 hh.2.1)]
  · rw [if_neg (by rw [tr_neg h1];simp),tr_neg (fun hh=>h1 hh.1)]
theorem spec_IsTable_eq (t:TTable) (h:TLen t):spec_IsTable t=some (tr (TableOk t)):=by
  unfold spec_IsTable
  rw [spec_l02Axis_eq _ h.1,Option.bind_some]
  by_cases h1:AxisOk (TTable.Slews t)
  · rw [if_pos (tr_pos h1),spec_l02Axis_eq _ h.2.1,Option.bind_some]
    by_cases h2:AxisOk (TTable.Loads t)
    · rw [if_pos (tr_pos h2),mul_wrap h1 h2]
      by_cases h3:(TTable.Values t).length=(TTable.Slews t).length*(TTable.Loads t).length
      · rw [if_pos (by rw [h3]),loopAll h.2.2 (fun k x=>-1000000≤x∧x≤1000000) (bad:=false) (good:=true)
          (fun k x hx hk _=>by
            simp only [spec_IsTable_loop0,show (k:Int)<((TTable.Values t).length:Int) from by omega,if_true,atI_nat,hx,Option.bind_some,spec_l01In_eq,within_iff]
            exact ⟨fun hh=>by rw [if_pos hh],fun hh=>by rw [if_neg hh]⟩)
          (fun _=>by simp only [spec_IsTable_loop0,Int.lt_irrefl,if_false]),sel_tr]
        congr 1
        refine tr_congr ⟨fun h4=>⟨h1,h2,h3,fun x hx=>?_⟩,fun h4 k x hx=>h4.2.2.2 x (List.mem_of_getElem? hx)⟩
        obtain ⟨k,hk⟩:=List.mem_iff_getElem?.1 hx
        exact h4 k x hk
      · rw [if_neg (by omega),tr_neg (fun hh=>h3 hh.2.2.1)]
    · rw [if_neg (by rw [tr_neg h2];simp),tr_neg (fun hh=>h2 hh.2.1)]
  · rw [if_neg (by rw [tr_neg h1];simp),tr_neg (fun hh=>h1 hh.1)]
theorem slices_Min_eq (x:Int) (l:List Int) (hl:Len (x::l)):slices_Min_Sint64_int64 (x::l)=some (l.foldl min x):=by
  unfold slices_Min_Sint64_int64
  have h4:(x::l).length≤4611686018427387904:=hl
  have e1:¬(((x::l).length:Int)<1):=by simp only [List.length_cons];omega
  have e2:atI (x::l) (0:Int)=some x:=rfl
  rw [if_neg e1,e2,Option.bind_some]
  refine whileM_rangeE l.length (fun k v=>v.1=(l.take k).foldl min x∧v.2.1=(((k+1:Nat)):Int)) _ ⟨by simp,rfl⟩ ?_ ?_
  · rintro k ⟨m,i,⟨⟩⟩ hk ⟨hm,hi⟩
    simp only at hm hi
    subst hm;subst hi
    have hx:l[k]?=some l[k]:=List.getElem?_eq_getElem hk
    have hx1:(x::l)[k+1]?=some l[k]:=by simp
    simp only [slices_Min_Sint64_int64_loop0,atI_nat,hx1,Option.bind_some,show ((k+1:Nat):Int)<((x::l).length:Int) from by simp;omega,if_true]
    refine .inl ⟨_,rfl,?_,?_⟩
    · rw [take_snoc hx,List.foldl_append];rfl
    · simp only [List.length_cons] at h4
      show IntKind.i64.wrap (((k+1:Nat):Int)+1)=((k+1+1:Nat):Int)
      rw [W_in (by omega) (by omega)];omega
  · rintro ⟨m,i,⟨⟩⟩ ⟨hm,hi⟩
    simp only at hm hi
    subst hm;subst hi
    rw [List.take_length]
    simp only [slices_Min_Sint64_int64_loop0,show ¬(((l.length+1:Nat):Int)<((x::l).length:Int)) from by simp,if_false]
theorem foldl_min_neg (x:Int) (l:List Int):l.foldl min x<0↔x<0∨∃ y∈l,y<0:=by
  induction l generalizing x with
  | nil=>simp
  | cons y r ih =>
    simp only [List.foldl_cons,ih,List.mem_cons,exists_eq_or_imp]
    rw [show min x y<0↔x<0∨y<0 by omega,or_assoc]
def TabsOk (l:List TTable) (pos:Bool):Prop:=l.length=2∧∀ t∈l,TableOk t∧(pos=true→∀ v∈TTable.Values t,0≤v)
theorem TableOk.some {t:TTable} (h:TableOk t):∃ x l,TTable.Values t=x::l:=by
  have h1:=h.1.1
  have h2:=h.2.1.1
  have h3:=h.2.2.1
  have:1*1≤(TTable.Slews t).length*(TTable.Loads t).length:=Nat.mul_le_mul h1 h2
  cases hv:TTable.Values t with
  | nil=>rw [hv] at h3;simp at h3;omega
  | cons x l=>exact ⟨x,l,rfl⟩
theorem impl_areTables_c1_eq (t:TTable) (pos:Bool) (h:TLen t):impl_areTables_c1 t pos=some (! tr (TableOk t∧(pos=true→∀ v∈TTable.Values t,0≤v))):=by
  unfold impl_areTables_c1
  rw [impl_IsTable_eq _ h,Option.bind_some]
  by_cases h1:TableOk t
  · rw [if_pos (tr_pos h1)]
    cases pos
    · rw [if_neg (by simp),tr_pos ⟨h1,fun e=>by cases e⟩];rfl
    · obtain ⟨x,l,hv⟩:=h1.some
      have hlen:=h.2.2
      rw [if_pos rfl,hv]
      rw [hv] at hlen
      rw [slices_Min_eq x l hlen,Option.bind_some]
      congr 1
      refine bool_of_iff ?_
      rw [decide_eq_true_eq,foldl_min_neg,Bool.not_eq_true',←Bool.not_eq_true,tr_iff]
      constructor
      · rintro (hh | ⟨y,hy,hh⟩) ⟨_,hall⟩
        · have:=hall rfl x (by simp);omega
        · have:=hall rfl y (by simp [hy]);omega
      · intro hh
        apply Classical.byContradiction
        intro hn
        refine hh ⟨h1,fun _ v hvm=>?_⟩
        rcases List.mem_cons.1 hvm with rfl | hvm
        · exact Int.not_lt.1 fun hlt=>hn (.inl hlt)
        · exact Int.not_lt.1 fun hlt=>hn (.inr ⟨v,hvm,hlt⟩)
  · rw [if_neg (by rw [tr_neg h1];simp),tr_neg (fun hh=>h1 hh.1)];rfl
def TLens (l:List TTable):Prop:=Len l∧∀ t∈l,TLen t
theorem impl_areTables_eq (l:List TTable) (pos:Bool) (h:TLens l):impl_areTables l pos=some (tr (TabsOk l pos)):=by
  unfold impl_areTables
  by_cases h2:l.length=2
  · rw [if_pos (by omega),slices_ContainsFunc_Simpl_Table_impl_Table_at_impl_areTables_c1_eq h.1 (fun t=>! tr (TableOk t∧(pos=true→∀ v∈TTable.Values t,0≤v))) (fun t ht=>impl_areTables_c1_eq t pos (h.2 t ht)),Option.bind_some]
    congr 1
    refine bool_of_iff ?_
    rw [Bool.not_eq_true',List.any_eq_false,tr_iff]
    simp only [Bool.not_eq_true',Bool.not_eq_false,tr_iff,Bool.not_eq_true]
    exact ⟨fun hh=>⟨h2,hh⟩,fun hh=>hh.2⟩
  · rw [if_neg (by omega),tr_neg (fun hh=>h2 hh.1)]
end Go.Proofs.YtpkjjgdhmafonaaGreatDoor
/-
  Plain laws: pins, arcs, cells.
-/
namespace Go.Proofs.YtpkjjgdhmafonaaGreatDoor
set_option linter.unusedVariables false
set_option linter.unusedSimpArgs false
open Go Go.Sx
theorem loopAllF {α τ ρ:Type} {l:List α} (pk:Nat→τ) (P:Nat→α→Prop) {step:τ→Option (τ ⊕ ρ)} {bad good:ρ}
    (hs:∀ (k:Nat) (x:α),l[k]?=some x→k<l.length→(∀ (j:Nat) (y:α),j<k→l[j]?=some y→P j y)→(P k x→step (pk k)=some (.inl (pk (k+1))))∧(¬P k x→step (pk k)=some (.inr bad)))
    (hx:AllE l P→step (pk l.length)=some (.inr good)):whileM step (pk 0)=some (sel (AllE l P) good bad):=by
  refine whileM_rangeE l.length (fun k v=>v=pk k∧∀ (j:Nat) (y:α),j<k→l[j]?=some y→P j y) _ ⟨rfl,fun j y hj=>by omega⟩ ?_ ?_
  · rintro k v hk ⟨rfl,hS⟩
    have hx:l[k]?=some l[k]:=List.getElem?_eq_getElem hk
    obtain ⟨h1,h2⟩:=hs k _ hx hk hS
    by_cases hP:P k l[k]
    · refine .inl ⟨_,h1 hP,rfl,fun j y hj hy=>?_⟩
      by_cases hjk:j<k
      · exact hS j y hjk hy
      · have:j=k:=by omega
        subst this
        rw [hx] at hy;injection hy with hy;subst hy
        exact hP
    · right
      rw [h2 hP,sel_neg (fun h=>hP (h k _ hx))]
  · rintro v ⟨rfl,hS⟩
    have hA:AllE l P:=fun k x hk=>hS k x (List.getElem?_eq_some_iff.1 hk).1 hk
    rw [hx hA,sel_pos hA]
theorem loopThrough {α τ ρ:Type} {l:List α} (pk:Nat→τ) {step:τ→Option (τ ⊕ ρ)} {good:ρ}
    (hs:∀ (k:Nat) (x:α),l[k]?=some x→k<l.length→step (pk k)=some (.inl (pk (k+1)))) (hx:step (pk l.length)=some (.inr good)):whileM step (pk 0)=some good:=by
  have:=loopAllF (l:=l) pk (fun _ _=>True) (step:=step) (bad:=good) (good:=good) (fun k x h1 h2 _=>⟨fun _=>hs k x h1 h2,fun h=>absurd trivial h⟩) (fun _=>hx)
  rw [this,sel_pos (show AllE l (fun _ _=>True) from fun _ _ _=>trivial)]
theorem loopBelow {ρ:Type} (n:Nat) (hn:n≤4611686018427387904) (P:Nat→Prop) {step:Int×Unit→Option ((Int×Unit) ⊕ ρ)} {bad good:ρ}
    (hs:∀ k:Nat,k<n→(P k→step ((k:Int),())=some (.inl (IntKind.i64.wrap ((k:Int)+1),())))∧(¬P k→step ((k:Int),())=some (.inr bad)))
    (hx:(∀ j,j<n→P j)→step ((n:Int),())=some (.inr good)):whileM step ((0:Int),())=some (sel (∀ j,j<n→P j) good bad):=by
  have:=loopAllN (ρ:=ρ) 0 n (by omega) hn P (step:=step) (bad:=bad) (good:=good) (fun k _ h _=>hs k h) (fun h=>hx (fun j hj=>h j (by omega) hj))
  refine (show whileM step ((0:Int),())=_ from this).trans ?_
  congr 1
  have e:(∀ j,0≤j→j<n→P j)↔(∀ j,j<n→P j):=⟨fun h j hj=>h j (by omega) hj,fun h j _ hj=>h j hj⟩
  rw [propext e]
theorem len_of_sm {t:Ty} {l:List t.den} (h:sm (.sl t) l):Len l:=by
  have h1:(l.length:Int)≤1048576:=h.1
  show l.length≤4611686018427387904
  omega
theorem str_of_sm {s:List UInt8} (h:sm .str s):s.length≤4611686018427387904:=by
  have h1:(s.length:Int)≤1048576:=h
  omega
theorem sm_mem {t:Ty} {l:List t.den} (h:sm (.sl t) l) {x:t.den} (hx:x∈l):sm t x:=h.2 x hx
theorem sm_get {t:Ty} {l:List t.den} (h:sm (.sl t) l) {k:Nat} {x:t.den} (hx:l[k]?=some x):sm t x:=h.2 x (List.mem_of_getElem? hx)
theorem small_of_sm {t:Ty} {l:List t.den} (h:sm (.sl t) l):l.length≤1048576:=by
  have h1:(l.length:Int)≤1048576:=h.1
  omega
theorem tlen_of_sm {t:TTable} (h:sm tTable t):TLen t:=⟨len_of_sm (t:=.int .i64) h.1,len_of_sm (t:=.int .i64) h.2.1,len_of_sm (t:=.int .i64) h.2.2.1⟩
theorem tlens_of_sm {l:List TTable} (h:sm (.sl tTable) l):TLens l:=⟨len_of_sm h,fun t ht=>tlen_of_sm (sm_mem h ht)⟩
theorem spec_TableBounds_eq (t:TTable) (h:TLen t):∃ r,spec_TableBounds t=some r∧(TableOk t→r.2=0∧(r.1.1<0↔∃ v∈TTable.Values t,v<0))∧(¬TableOk t→r.2=1):=by
  unfold spec_TableBounds
  rw [spec_IsTable_eq _ h,Option.bind_some]
  by_cases h1:TableOk t
  · rw [if_pos (tr_pos h1)]
    obtain ⟨x,l,hv⟩:=h1.some
    have h4:(x::l).length≤4611686018427387904:=by rw [←hv];exact h.2.2
    have e2:atI (TTable.Values t) (0:Int)=some x:=by rw [hv];rfl
    rw [e2,Option.bind_some]
    have:=loopThrough (l:=l) (ρ:=TSpan×Int) (fun k=>((((k+1:Nat)):Int),(l.take k).foldl min x,(l.take k).foldl max x,())) (step:=fun v=>spec_TableBounds_loop0 t v.1 v.2.1 v.2.2.1) (good:=((l.foldl min x,l.foldl max x,()),0))
      (fun k y hy hk=>by
        have hx1:(x::l)[k+1]?=some y:=by simpa using hy
        simp only [List.length_cons] at h4
        simp only [spec_TableBounds_loop0,hv,atI_nat,hx1,Option.bind_some,show ((k+1:Nat):Int)<((x::l).length:Int) from by simp;omega,if_true]
        rw [take_snoc hy,List.foldl_append,List.foldl_append,W_in (by omega) (by omega)]
        rfl)
      (by
        simp only [spec_TableBounds_loop0,hv,List.take_length,show ¬(((l.length+1:Nat):Int)<((x::l).length:Int)) from by simp,if_false])
    refine ⟨_,this,fun _=>⟨rfl,?_⟩,fun hn=>absurd h1 hn⟩
    rw [hv]
    refine (foldl_min_neg x l).trans ?_
    simp
  · rw [if_neg (by rw [tr_neg h1];simp)]
    exact ⟨_,rfl,fun hn=>absurd hn h1,fun _=>rfl⟩
theorem spec_l03Tables_eq (l:List TTable) (pos:Bool) (h:TLens l):spec_l03Tables l pos=some (tr (TabsOk l pos)):=by
  unfold spec_l03Tables
  by_cases h2:l.length=2
  · rw [if_pos (by omega),loopAll h.1 (fun k t=>TableOk t∧(pos=true→∀ v∈TTable.Values t,0≤v)) (bad:=false) (good:=true)
      (fun k t hx hk _=>by
        obtain ⟨r,hr,hr1,hr2⟩:=spec_TableBounds_eq t (h.2 t (List.mem_of_getElem? hx))
        simp only [spec_l03Tables_loop0,show (k:Int)<2 from by omega,if_true,atI_nat,hx,Option.bind_some,hr]
        by_cases ht:TableOk t
        · obtain ⟨e1,e2⟩:=hr1 ht
          rw [if_pos e1]
          cases pos
          · simp only [Bool.false_eq_true,if_false]
            exact ⟨fun _=>trivial,fun hn=>absurd ⟨ht,fun e=>by cases e⟩ hn⟩
          · simp only [if_true]
            refine ⟨fun hh=>?_,fun hn=>?_⟩
            · rw [if_neg]
              intro hlt
              obtain ⟨v,hv,hv0⟩:=e2.1 hlt
              have:=hh.2 trivial v hv
              omega
            · rw [if_pos]
              apply Classical.byContradiction
              intro hlt
              refine hn ⟨ht,fun _ v hv=>?_⟩
              exact Int.not_lt.1 fun hv0=>hlt (e2.2 ⟨v,hv,hv0⟩)
        · have e1:=hr2 ht
          rw [if_neg (by rw [e1];decide)]
          exact ⟨fun hh=>absurd hh.1 ht,fun _=>rfl⟩)
      (fun _=>by simp only [spec_l03Tables_loop0,h2];rfl),sel_tr]
    congr 1
    refine tr_congr ⟨fun hh=>⟨h2,fun t ht=>?_⟩,fun hh k t hk=>hh.2 t (List.mem_of_getElem? hk)⟩
    obtain ⟨k,hk⟩:=List.mem_iff_getElem?.1 ht
    exact hh k t hk
  · rw [if_neg (by omega),tr_neg (fun hh=>h2 hh.1)]
def pnames (l:List TPin):List (List UInt8):=l.map TPin.Name
def nclk (l:List TPin):Nat:=l.countP (fun p=>TPin.Clock p)
def PinOk (n k:Nat) (p:TPin):Prop:=(0≤TPin.Cap p∧TPin.Cap p≤500)∧(k+1=n→TPin.Dir p=2∧TPin.Cap p=0∧TPin.Clock p=false)∧(k+1<n→TPin.Dir p=1)
def PinsOk (l:List TPin):Prop:=2≤l.length∧l.length≤5∧NamesOk (pnames l) l.length∧AllE l (PinOk l.length)
theorem impl_arePins_eq (l:List TPin) (h:sm (.sl tPin) l):impl_arePins l=some (tr (PinsOk l)):=by
  unfold impl_arePins
  have hs:=small_of_sm h
  have:=loopAllF (l:=l) (ρ:=Bool) (fun k=>((pnames l).take k,(k:Int),())) (PinOk l.length) (step:=fun v=>impl_arePins_loop0 l v.1 v.2.1) (bad:=false) (good:=tr (2≤l.length∧l.length≤5∧NamesOk (pnames l) l.length))
    (fun k p hx hk _=>by
      have hn:(pnames l)[k]?=some (TPin.Name p):=by simp [pnames,hx]
      have e1:IntKind.i64.wrap ((l.length:Int)-1)=((l.length-1:Nat):Int):=by rw [W_in (by omega) (by omega)];omega
      simp only [impl_arePins_loop0,show (k:Int)<(l.length:Int) from by omega,if_true,atI_nat,hx,Option.bind_some,e1]
      rw [guardO_pos (by simp only [List.length_take,List.length_singleton,pnames,List.length_map];omega),take_snoc hn,W_in (by omega) (by omega)]
      unfold PinOk
      by_cases hlast:(k:Int)=((l.length-1:Nat):Int)
      · rw [if_pos hlast]
        have hk1:k+1=l.length:=by omega
        constructor
        · rintro ⟨_,h2,_⟩
          obtain ⟨a,b,c⟩:=h2 hk1
          rw [if_pos a,if_pos b,if_neg (by rw [c];simp)]
          rfl
        · intro hh
          split
          · split
            · split
              · rfl
              · rename_i a b c
                exact absurd ⟨by omega,fun _=>⟨a,b,by simpa using c⟩,fun h'=>by omega⟩ hh
            · rfl
          · rfl
      · rw [if_neg hlast,impl_within_eq]
        have hk1:k+1<l.length:=by omega
        simp only [Option.bind_some,within_iff]
        constructor
        · rintro ⟨h1,_,h3⟩
          rw [if_pos (h3 hk1),if_pos h1]
          rfl
        · intro hh
          split
          · split
            · rename_i a b
              exact absurd ⟨b,fun h'=>by omega,fun _=>a⟩ hh
            · rfl
          · rfl)
    (fun hA=>by
      have e0:(pnames l).take l.length=pnames l:=by rw [show l.length=(pnames l).length by simp [pnames],List.take_length]
      simp only [impl_arePins_loop0,Int.lt_irrefl,if_false,e0,impl_within_eq,Option.bind_some,show impl_length_impl_Pin l=some (l.length:Int) from rfl]
      have hlen:(pnames l).length=l.length:=by simp [pnames]
      by_cases hw:within (l.length:Int) 2 5=true
      · rw [if_pos hw,impl_areNames_eq _ (by rw [hlen];omega),Option.bind_some,hlen]
        rw [within_iff] at hw
        congr 2
        exact tr_congr ⟨fun hh=>⟨by omega,by omega,hh⟩,fun hh=>hh.2.2⟩
      · rw [if_neg hw,tr_neg]
        intro hh
        exact hw ((within_iff _ _ _).2 (by omega)))
  refine (show whileM (fun v=>impl_arePins_loop0 l v.1 v.2.1) (([]:List (List UInt8)),(0:Int),())=_ from this).trans ?_
  congr 1
  refine bool_of_iff ?_
  rw [tr_iff]
  by_cases hA:AllE l (PinOk l.length)
  · rw [sel_pos hA,tr_iff]
    exact ⟨fun hh=>⟨hh.1,hh.2.1,hh.2.2,hA⟩,fun hh=>⟨hh.1,hh.2.1,hh.2.2.1⟩⟩
  · rw [sel_neg hA]
    exact ⟨fun hh=>(by cases hh),fun hh=>absurd hh.2.2.2 hA⟩
end Go.Proofs.YtpkjjgdhmafonaaGreatDoor
/-
  Plain laws: pins by the reference; arcs.
-/
namespace Go.Proofs.YtpkjjgdhmafonaaGreatDoor
set_option linter.unusedVariables false
set_option linter.unusedSimpArgs false
open Go Go.Sx
theorem W_pred {n:Nat} (h:n≤1048576) (h1:1≤n):IntKind.i64.wrap ((n:Int)-1)=((n-1:Nat):Int):=by rw [W_in (by omega) (by omega)];omega
theorem W_suc {n:Nat} (h:n≤1048576):IntKind.i64.wrap ((n:Int)+1)=((n+1:Nat):Int):=by rw [W_in (by omega) (by omega)];omega
theorem mem_take_names {l:List TPin} {k:Nat} {s:List UInt8}:s ∉ (pnames l).take k↔∀ (j:Nat) (q:TPin),j<k→l[j]?=some q→TPin.Name q≠s:=by
  constructor
  · intro h j q hj hq e
    refine h (List.mem_iff_getElem?.2 ⟨j,?_⟩)
    rw [List.getElem?_take,if_pos hj]
    simp [pnames,hq,e]
  · intro h hm
    obtain ⟨j,hj⟩:=List.mem_iff_getElem?.1 hm
    rw [List.getElem?_take] at hj
    split at hj
    · rename_i hjk
      simp only [pnames,List.getElem?_map,Option.map_eq_some_iff] at hj
      obtain ⟨q,hq,e⟩:=hj
      exact h j q hjk hq e
    · cases hj
theorem spec_l03Pins_eq (c:TCell) (h:sm (.sl tPin) (TCell.Pins c)):spec_l03Pins c=some (sel (PinsOk (TCell.Pins c)) ((nclk (TCell.Pins c):Int),true) ((0:Int),false)):=by
  unfold spec_l03Pins
  have hs:=small_of_sm h
  by_cases h2:((TCell.Pins c).length:Int)<2
  · rw [if_pos h2,sel_neg (fun hh=>by have:=hh.1;omega)]
  by_cases h5:(5:Int)<((TCell.Pins c).length:Int)
  · rw [if_neg h2,if_pos h5,sel_neg (fun hh=>by have:=hh.2.1;omega)]
  rw [if_neg h2,if_neg h5]
  have e1:IntKind.i64.wrap (((TCell.Pins c).length:Int)-1)=(((TCell.Pins c).length-1:Nat):Int):=W_pred hs (by omega)
  have:=loopAllF (l:=TCell.Pins c) (ρ:=Int×Bool) (fun k=>((((TCell.Pins c).take k).countP (fun p=>TPin.Clock p):Int),(k:Int),()))
    (fun k p=>(nameOk (TPin.Name p)=true∧∀ (j:Nat) (q:TPin),j<k→(TCell.Pins c)[j]?=some q→TPin.Name q≠TPin.Name p)∧PinOk (TCell.Pins c).length k p) (step:=fun v=>spec_l03Pins_loop1 c v.1 v.2.1) (bad:=((0:Int),false)) (good:=((nclk (TCell.Pins c):Int),true))
    (fun k p hx hk _=>by
      have hcnt:((TCell.Pins c).take k).countP (fun p=>TPin.Clock p)≤5:=by
        have h1:=List.countP_le_length (p:=fun p=>TPin.Clock p) (l:=(TCell.Pins c).take k)
        rw [List.length_take] at h1;omega
      have hnext:((TCell.Pins c).take (k+1)).countP (fun p=>TPin.Clock p)=((TCell.Pins c).take k).countP (fun p=>TPin.Clock p)+if TPin.Clock p=true then 1 else 0:=by
        rw [take_snoc hx,List.countP_append];simp [List.countP_cons]
      have hname:(TPin.Name p).length≤4611686018427387904:=str_of_sm (sm_get h hx).1
      have rest:∀ (v:Int),spec_l03Pins_loop0 c v (k:Int) p (k:Int)=sel (nameOk (TPin.Name p)=true∧PinOk (TCell.Pins c).length k p) (some (Sum.inr (Sum.inl (if TPin.Clock p=true then IntKind.i64.wrap (v+1) else v,((k+1:Nat):Int),())))) (some (Sum.inr (Sum.inr (0,false)))):=by
        intro v
        simp only [spec_l03Pins_loop0,Int.lt_irrefl,if_false,spec_l03Name_eq _ hname,spec_l01In_eq,Option.bind_some,e1,W_suc (show k≤1048576 by omega),within_iff]
        unfold PinOk
        by_cases hn:nameOk (TPin.Name p)=true
        · by_cases hcap:0≤TPin.Cap p∧TPin.Cap p≤500
          · by_cases hlast:k+1=(TCell.Pins c).length
            · have e2:(k:Int)=(((TCell.Pins c).length-1:Nat):Int):=by omega
              have e3:¬((k:Int)<(((TCell.Pins c).length-1:Nat):Int)):=by omega
              have e4:¬(k+1<(TCell.Pins c).length):=by omega
              rw [if_pos hn,if_pos hcap,if_pos e2]
              by_cases a:TPin.Dir p=2
              · by_cases b:TPin.Cap p=0
                · by_cases d:TPin.Clock p=true
                  · rw [if_pos a,if_pos b,if_pos d,sel_neg]
                    rintro ⟨_,_,h',_⟩
                    have:=(h' hlast).2.2
                    rw [d] at this;cases this
                  · rw [if_pos a,if_pos b,if_neg d,if_neg e3,if_neg d,sel_pos ⟨hn,hcap,fun _=>⟨a,b,by simpa using d⟩,fun h'=>absurd h' e4⟩]
                    simp [d]
                · rw [if_pos a,if_neg b,sel_neg]
                  rintro ⟨_,_,h',_⟩
                  exact b (h' hlast).2.1
              · rw [if_neg a,sel_neg]
                rintro ⟨_,_,h',_⟩
                exact a (h' hlast).1
            · have e2:¬(k:Int)=(((TCell.Pins c).length-1:Nat):Int):=by omega
              have e3:(k:Int)<(((TCell.Pins c).length-1:Nat):Int):=by omega
              have e4:k+1<(TCell.Pins c).length:=by omega
              rw [if_pos hn,if_pos hcap,if_neg e2,if_pos e3]
              by_cases a:TPin.Dir p=1
              · rw [if_pos a,sel_pos ⟨hn,hcap,fun h'=>absurd h' hlast,fun _=>a⟩]
                by_cases d:TPin.Clock p=true
                · rw [if_pos d,if_pos d]
                · rw [if_neg d,if_neg d]
              · rw [if_neg a,sel_neg]
                rintro ⟨_,_,_,h'⟩
                exact a (h' e4)
          · rw [if_pos hn,if_neg hcap,sel_neg (fun hh=>hcap hh.2.1)]
        · rw [if_neg hn,sel_neg (fun hh=>hn hh.1)]
      have inner:∀ (v:Int) (good:(Int×Int×Unit) ⊕ (Int×Bool)),((∀ (j:Nat) (q:TPin),j<k→(TCell.Pins c)[j]?=some q→TPin.Name q≠TPin.Name p)→spec_l03Pins_loop0 c v (k:Int) p (k:Int)=some (.inr good))→
          whileM (fun v'=>spec_l03Pins_loop0 c v (k:Int) p v'.1) ((0:Int),())=some (sel (∀ j,j<k→∀ q,(TCell.Pins c)[j]?=some q→TPin.Name q≠TPin.Name p) good (.inr (0,false))):=by
        intro v good hg
        refine loopBelow k (by omega) (fun j=>∀ q,(TCell.Pins c)[j]?=some q→TPin.Name q≠TPin.Name p) (fun j hj=>?_) (fun hh=>hg (fun j q hj hq=>hh j hj q hq))
        obtain ⟨q,hq⟩:∃ q,(TCell.Pins c)[j]?=some q:=⟨_,List.getElem?_eq_getElem (by omega)⟩
        simp only [spec_l03Pins_loop0,show (j:Int)<(k:Int) from by omega,if_true,atI_nat,hq,Option.bind_some]
        refine ⟨fun hh=>by rw [if_neg (hh q rfl)],fun hh=>?_⟩
        rw [if_pos]
        apply Classical.byContradiction
        intro hne
        exact hh (fun q' hq'=>by injection hq' with hq';subst hq';exact hne)
      simp only [spec_l03Pins_loop1,show (k:Int)<((TCell.Pins c).length:Int) from by omega,if_true,atI_nat,hx,Option.bind_some]
      constructor
      · rintro ⟨⟨a,b⟩,d⟩
        rw [inner _ (.inl (((((TCell.Pins c).take (k+1)).countP (fun p=>TPin.Clock p):Nat):Int),((k+1:Nat):Int),())) (fun _=>by
          rw [rest,sel_pos ⟨a,d⟩,hnext]
          by_cases hc:TPin.Clock p=true
          · rw [if_pos hc,if_pos hc,W_suc (by omega)]
          · rw [if_neg hc,if_neg hc];rfl),sel_pos (fun j hj q hq=>b j q hj hq)]
      · intro hh
        rw [inner _ (.inr (0,false)) (fun hn=>by
          rw [rest,sel_neg (fun h'=>hh ⟨⟨h'.1,hn⟩,h'.2⟩)])]
        by_cases hP:∀ j,j<k→∀ q,(TCell.Pins c)[j]?=some q→TPin.Name q≠TPin.Name p
        · rw [sel_pos hP]
        · rw [sel_neg hP])
    (fun _=>by simp only [spec_l03Pins_loop1,Int.lt_irrefl,if_false,List.take_length];rfl)
  refine (show whileM (fun v=>spec_l03Pins_loop1 c v.1 v.2.1) ((0:Int),(0:Int),())=_ from this).trans ?_
  congr 1
  have e:AllE (TCell.Pins c) (fun k p=>(nameOk (TPin.Name p)=true∧∀ (j:Nat) (q:TPin),j<k→(TCell.Pins c)[j]?=some q→TPin.Name q≠TPin.Name p)∧PinOk (TCell.Pins c).length k p)↔PinsOk (TCell.Pins c):=by
    constructor
    · intro hA
      refine ⟨by omega,by omega,fun j s hj hs'=>?_,fun k p hp=>(hA k p hp).2⟩
      simp only [pnames,List.getElem?_map,Option.map_eq_some_iff] at hs'
      obtain ⟨q,hq,rfl⟩:=hs'
      exact ⟨(hA j q hq).1.1,mem_take_names.2 (hA j q hq).1.2⟩
    · intro hh k p hp
      have hk:=(List.getElem?_eq_some_iff.1 hp).1
      have hn:=hh.2.2.1 k (TPin.Name p) hk (by simp [pnames,hp])
      exact ⟨⟨hn.1,mem_take_names.1 hn.2⟩,hh.2.2.2 k p hp⟩
  rw [propext e]
end Go.Proofs.YtpkjjgdhmafonaaGreatDoor
/-
  Plain laws: arcs.
-/
namespace Go.Proofs.YtpkjjgdhmafonaaGreatDoor
set_option linter.unusedVariables false
set_option linter.unusedSimpArgs false
open Go Go.Sx
def clkB (l:List TPin) (i:Int):Bool:=match l[i.toNat]? with
  | some p=>TPin.Clock p
  | none=>false
def ArcOk (c:TCell) (a:TArc):Prop :=
  (0≤TArc.From a∧TArc.From a≤((TCell.Pins c).length:Int)-2)∧(0≤TArc.To a∧TArc.To a≤((TCell.Pins c).length:Int)-1)∧
  ((TArc.Kind a=1∧clkB (TCell.Pins c) (TArc.From a)=false∧TArc.To a=((TCell.Pins c).length:Int)-1∧(1≤TArc.Sense a∧TArc.Sense a≤3)∧TabsOk (TArc.Delay a) true∧TabsOk (TArc.Slew a) true)∨
   ((TArc.Kind a=2∨TArc.Kind a=3)∧clkB (TCell.Pins c) (TArc.From a)=true∧TArc.To a=((TCell.Pins c).length:Int)-1∧TArc.Sense a=0∧TabsOk (TArc.Delay a) true∧TabsOk (TArc.Slew a) true)∨
   ((TArc.Kind a=4∨TArc.Kind a=5)∧clkB (TCell.Pins c) (TArc.From a)=true∧TArc.To a<((TCell.Pins c).length:Int)-1∧clkB (TCell.Pins c) (TArc.To a)=false∧TArc.Sense a=0∧TabsOk (TArc.Delay a) false∧(TArc.Slew a).length=0))
theorem ArcOk.kind {c:TCell} {a:TArc} (h:ArcOk c a):1≤TArc.Kind a∧TArc.Kind a≤5:=by
  rcases h.2.2 with h | h | h
  · have:=h.1;omega
  · have:=h.1;omega
  · have:=h.1;omega
theorem and_if {P Q:Prop} {m:Option Bool} (hm:m=some (tr Q)):(if tr P=true then m else some false)=some (tr (P∧Q)):=by
  by_cases h:P
  · rw [if_pos (tr_pos h),hm];congr 1;exact tr_congr ⟨fun q=>⟨h,q⟩,fun q=>q.2⟩
  · rw [if_neg (by rw [tr_neg h];simp),tr_neg (fun q=>h q.1)]
theorem and_ifP {P Q:Prop} {_:Decidable P} {m:Option Bool} (hm:P→m=some (tr Q)):(if P then m else some false)=some (tr (P∧Q)):=by
  by_cases h:P
  · rw [if_pos h,hm h];congr 1;exact tr_congr ⟨fun q=>⟨h,q⟩,fun q=>q.2⟩
  · rw [if_neg h,tr_neg (fun q=>h q.1)]
theorem and_ifN {P Q:Prop} {_:Decidable P} {m:Option Bool} (hm:¬P→m=some (tr Q)):(if P then some false else m)=some (tr (¬P∧Q)):=by
  by_cases h:P
  · rw [if_pos h,tr_neg (fun q=>q.1 h)]
  · rw [if_neg h,hm h];congr 1;exact tr_congr ⟨fun q=>⟨h,q⟩,fun q=>q.2⟩
theorem fin_tr {P:Prop} {b:Bool} (h:b=true↔P):some b=some (tr P):=by rw [tr_eq h]
theorem eq_tr {m:Option Bool} {P Q:Prop} (h:m=some (tr P)) (hpq:P↔Q):m=some (tr Q):=by rw [h,propext hpq]
theorem some_false {Q:Prop} (h:¬Q):(some false:Option Bool)=some (tr Q):=by rw [tr_neg h]
theorem bind_tr {P:Prop} {m:Option Bool} (h:m=some (tr P)):(m.bind fun b=>some b)=some (tr P):=by rw [h];rfl
theorem bind_if {P Q:Prop} {m m2:Option Bool} (h:m=some (tr P)) (h2:P→m2=some (tr Q)):(m.bind fun b=>if b=true then m2 else some false)=some (tr (P∧Q)):=by
  rw [h,Option.bind_some]
  by_cases hp:P
  · rw [if_pos (tr_pos hp),h2 hp];congr 1;exact tr_congr ⟨fun q=>⟨hp,q⟩,fun q=>q.2⟩
  · rw [if_neg (by rw [tr_neg hp];simp),tr_neg (fun q=>hp q.1)]
theorem l01In_tr (n a b:Int):spec_l01In n a b=some (tr (a≤n∧n≤b)):=by rw [spec_l01In_eq];exact fin_tr (within_iff _ _ _)
theorem within_tr (n a b:Int):impl_within n a b=some (tr (a≤n∧n≤b)):=by rw [impl_within_eq];exact fin_tr (within_iff _ _ _)
theorem pin_at {l:List TPin} {i:Int} (h0:0≤i) (h1:i<l.length):∃ p,atI l i=some p∧clkB l i=TPin.Clock p:=by
  obtain ⟨p,h2,h3⟩:=atI_ex h0 h1
  exact ⟨p,h2,by simp [clkB,h3]⟩
theorem spec_l03Arc_eq (c:TCell) (a:TArc) (hp:sm (.sl tPin) (TCell.Pins c)) (hd:sm (.sl tTable) (TArc.Delay a)) (hw:sm (.sl tTable) (TArc.Slew a)) (h2:2≤(TCell.Pins c).length):spec_l03Arc c a=some (tr (ArcOk c a)):=by
  unfold spec_l03Arc
  have hs:=small_of_sm hp
  have e1:IntKind.i64.wrap (((TCell.Pins c).length:Int)-1)=((TCell.Pins c).length:Int)-1:=W_in (by omega) (by omega)
  have e2:IntKind.i64.wrap (((TCell.Pins c).length:Int)-1-1)=((TCell.Pins c).length:Int)-2:=by rw [W_in (by omega) (by omega)];omega
  rw [e1,e2]
  refine eq_tr (bind_if (l01In_tr _ _ _) (fun hF=>bind_if (l01In_tr _ _ _) (fun hT=>?_))) (Q:=ArcOk c a) (P:=(0≤TArc.From a∧TArc.From a≤((TCell.Pins c).length:Int)-2)∧(0≤TArc.To a∧TArc.To a≤((TCell.Pins c).length:Int)-1)∧ArcOk c a) ⟨fun hh=>hh.2.2,fun hh=>⟨hh.1,hh.2.1,hh⟩⟩
  obtain ⟨p,hp1,hp2⟩:=pin_at (l:=TCell.Pins c) hF.1 (by omega)
  rw [hp1,Option.bind_some]
  have hdl:=tlens_of_sm hd
  have hsl:=tlens_of_sm hw
  have tt:∀ b,(spec_l03Tables (TArc.Delay a) b).bind (fun x=>if x=true then (spec_l03Tables (TArc.Slew a) b).bind (fun y=>some y) else some false)=some (tr (TabsOk (TArc.Delay a) b∧TabsOk (TArc.Slew a) b)):=fun b=>bind_if (spec_l03Tables_eq _ _ hdl) (fun _=>bind_tr (spec_l03Tables_eq _ _ hsl))
  have tz:(spec_l03Tables (TArc.Delay a) false).bind (fun x=>if x=true then some (Decidable.decide (((TArc.Slew a).length:Int)=(0:Int))) else some false)=some (tr (TabsOk (TArc.Delay a) false∧(TArc.Slew a).length=0)):=bind_if (spec_l03Tables_eq _ _ hdl) (fun _=>fin_tr (by rw [decide_eq_true_eq];omega))
  unfold ArcOk
  rw [hp2]
  by_cases k1:TArc.Kind a=1
  · simp only [k1,if_true]
    refine eq_tr (and_ifN (fun hc=>and_ifP (fun hl=>bind_if (l01In_tr _ _ _) (fun _=>tt true)))) ?_
    grind
  by_cases k2:TArc.Kind a=2
  · simp only [k2,if_true,Int.reduceEq,if_false]
    refine eq_tr (and_ifP (fun hc=>and_ifP (fun hl=>and_ifP (fun _=>tt true)))) ?_
    grind
  by_cases k3:TArc.Kind a=3
  · simp only [k3,if_true,Int.reduceEq,if_false]
    refine eq_tr (and_ifP (fun hc=>and_ifP (fun hl=>and_ifP (fun _=>tt true)))) ?_
    grind
  have chk:(if TPin.Clock p=true then (if TArc.To a<((TCell.Pins c).length:Int)-1 then (atI (TCell.Pins c) (TArc.To a)).bind (fun x1=>if TPin.Clock x1=true then some false else if TArc.Sense a=0 then (spec_l03Tables (TArc.Delay a) false).bind (fun x=>if x=true then some (Decidable.decide (((TArc.Slew a).length:Int)=(0:Int))) else some false) else some false) else some false) else some false) =
      some (tr (TPin.Clock p=true∧TArc.To a<((TCell.Pins c).length:Int)-1∧clkB (TCell.Pins c) (TArc.To a)=false∧TArc.Sense a=0∧TabsOk (TArc.Delay a) false∧(TArc.Slew a).length=0)):=by
    refine and_ifP (fun _=>and_ifP (fun hl=>?_))
    obtain ⟨q,hq1,hq2⟩:=pin_at (l:=TCell.Pins c) hT.1 (by omega)
    rw [hq1,Option.bind_some,hq2]
    refine eq_tr (and_ifN (fun _=>and_ifP (fun _=>tz))) ?_
    simp only [Bool.not_eq_true]
  by_cases k4:TArc.Kind a=4
  · simp only [k4,if_true,Int.reduceEq,if_false]
    refine eq_tr chk ?_
    grind
  by_cases k5:TArc.Kind a=5
  · simp only [k5,if_true,Int.reduceEq,if_false]
    refine eq_tr chk ?_
    grind
  · simp only [k1,k2,k3,k4,k5,if_false]
    refine some_false ?_
    grind
def clockIx (l:List TPin):Int:=findIx (fun p=>TPin.Clock p) l
theorem impl_Cell_clock_eq (c:TCell) (h:sm (.sl tPin) (TCell.Pins c)):impl_Cell_clock c=some (clockIx (TCell.Pins c)):=by
  unfold impl_Cell_clock
  rw [slices_IndexFunc_Simpl_Pin_impl_Pin_at_impl_Cell_clock_c1_eq (len_of_sm h) (fun p=>TPin.Clock p) (fun p _=>rfl),Option.bind_some]
  rfl
theorem impl_Cell_output_eq (c:TCell) (h:sm (.sl tPin) (TCell.Pins c)):impl_Cell_output c=some (((TCell.Pins c).length:Int)-1):=by
  have hs:=small_of_sm h
  show some (IntKind.i64.wrap (((TCell.Pins c).length:Int)-1))=_
  rw [W_in (by omega) (by omega)]
theorem impl_Cell_isInput_eq (c:TCell) (i:Int) (h:sm (.sl tPin) (TCell.Pins c)):impl_Cell_isInput c i=some (tr (0≤i∧i≤((TCell.Pins c).length:Int)-2)):=by
  have hs:=small_of_sm h
  unfold impl_Cell_isInput
  rw [impl_Cell_output_eq c h,Option.bind_some,W_in (by omega) (by omega)]
  refine eq_tr (bind_tr (within_tr _ _ _)) ?_
  omega
def ArcI (c:TCell) (a:TArc):Prop :=
  ((TArc.Kind a=4∨TArc.Kind a=5)∧TArc.Sense a=0∧(TArc.Slew a).length=0∧TabsOk (TArc.Delay a) false∧TArc.From a=clockIx (TCell.Pins c)∧0≤TArc.From a∧(0≤TArc.To a∧TArc.To a≤((TCell.Pins c).length:Int)-2)∧TArc.To a≠TArc.From a)∨
  (¬(TArc.Kind a=4∨TArc.Kind a=5)∧TabsOk (TArc.Delay a) true∧TabsOk (TArc.Slew a) true∧TArc.To a=((TCell.Pins c).length:Int)-1∧(0≤TArc.From a∧TArc.From a≤((TCell.Pins c).length:Int)-2)∧
    ((TArc.Kind a=1∧clkB (TCell.Pins c) (TArc.From a)=false∧(1≤TArc.Sense a∧TArc.Sense a≤3))∨((TArc.Kind a=2∨TArc.Kind a=3)∧clkB (TCell.Pins c) (TArc.From a)=true∧TArc.Sense a=0)))
theorem impl_isCheck_eq (k:Int):impl_isCheck k=some (tr (k=4∨k=5)):=by
  unfold impl_isCheck
  split
  · rename_i h;rw [tr_pos (.inl h)]
  · rename_i h
    exact fin_tr (by rw [decide_eq_true_eq];omega)
theorem impl_isArc_eq (c:TCell) (a:TArc) (hp:sm (.sl tPin) (TCell.Pins c)) (hd:sm (.sl tTable) (TArc.Delay a)) (hw:sm (.sl tTable) (TArc.Slew a)):impl_Cell_isArc c a=some (tr (ArcI c a)):=by
  unfold impl_Cell_isArc
  have hdl:=tlens_of_sm hd
  have hsl:=tlens_of_sm hw
  rw [impl_isCheck_eq,Option.bind_some]
  by_cases hk:TArc.Kind a=4∨TArc.Kind a=5
  · rw [if_pos (tr_pos hk)]
    refine eq_tr (and_ifP (fun _=>and_ifP (fun _=>bind_if (impl_areTables_eq _ _ hdl) (fun _=>?_)))) (P:=TArc.Sense a=0∧((TArc.Slew a).length:Int)=0∧TabsOk (TArc.Delay a) false∧(TArc.From a=clockIx (TCell.Pins c)∧0≤TArc.From a∧(0≤TArc.To a∧TArc.To a≤((TCell.Pins c).length:Int)-2)∧TArc.To a≠TArc.From a)) ?_
    · rw [impl_Cell_clock_eq c hp,Option.bind_some]
      refine and_ifP (fun _=>and_ifP (fun _=>bind_if (impl_Cell_isInput_eq c _ hp) (fun _=>fin_tr ?_)))
      rw [Bool.not_eq_true',decide_eq_false_iff_not]
    · unfold ArcI
      constructor
      · rintro ⟨x1,x2,x3,x4⟩
        exact .inl ⟨hk,x1,by omega,x3,x4⟩
      · rintro (⟨_,x1,x2,x3,x4⟩ | ⟨x,_⟩)
        · exact ⟨x1,by omega,x3,x4⟩
        · exact absurd hk x
  · rw [if_neg (by rw [tr_neg hk];simp)]
    refine eq_tr (bind_if (impl_areTables_eq _ _ hdl) (fun _=>bind_if (impl_areTables_eq _ _ hsl) (fun _=>?_))) (P:=TabsOk (TArc.Delay a) true∧TabsOk (TArc.Slew a) true∧(TArc.To a=((TCell.Pins c).length:Int)-1∧(0≤TArc.From a∧TArc.From a≤((TCell.Pins c).length:Int)-2)∧
      ((TArc.Kind a=1∧clkB (TCell.Pins c) (TArc.From a)=false∧(1≤TArc.Sense a∧TArc.Sense a≤3))∨((TArc.Kind a=2∨TArc.Kind a=3)∧clkB (TCell.Pins c) (TArc.From a)=true∧TArc.Sense a=0)))) ?_
    · rw [impl_Cell_output_eq c hp,Option.bind_some]
      refine and_ifP (fun _=>bind_if (impl_Cell_isInput_eq c _ hp) (fun hF=>?_))
      obtain ⟨p,hp1,hp2⟩:=pin_at (l:=TCell.Pins c) hF.1 (by omega)
      rw [hp1,hp2]
      simp only [Option.bind_some]
      by_cases k1:TArc.Kind a=1
      · simp only [k1,if_true]
        refine eq_tr (and_ifN (fun _=>bind_tr (within_tr _ _ _))) ?_
        grind
      by_cases k2:TArc.Kind a=2
      · simp only [k2,if_true,Int.reduceEq,if_false]
        refine eq_tr (and_ifP (fun _=>fin_tr (decide_eq_true_iff))) ?_
        grind
      by_cases k3:TArc.Kind a=3
      · simp only [k3,if_true,Int.reduceEq,if_false]
        refine eq_tr (and_ifP (fun _=>fin_tr (decide_eq_true_iff))) ?_
        grind
      · simp only [k1,k2,k3,if_false]
        refine some_false ?_
        grind
    · unfold ArcI
      constructor
      · intro x;exact .inr ⟨hk,x⟩
      · rintro (⟨x,_⟩ | ⟨_,x⟩)
        · exact absurd x hk
        · exact x
end Go.Proofs.YtpkjjgdhmafonaaGreatDoor
/-
  Plain laws: cells and libraries.
-/
namespace Go.Proofs.YtpkjjgdhmafonaaGreatDoor
set_option linter.unusedVariables false
set_option linter.unusedSimpArgs false
open Go Go.Sx
def sameArc (o a:TArc):Prop:=TArc.Kind o=TArc.Kind a∧TArc.From o=TArc.From a∧TArc.To o=TArc.To a
def Apart (l:List TArc) (k:Nat) (a:TArc):Prop:=∀ (j:Nat) (o:TArc),j<k→l[j]?=some o→¬sameArc o a
structure SmCell (c:TCell):Prop where
  name:(TCell.Name c).length≤4611686018427387904
  pins:sm (.sl tPin) (TCell.Pins c)
  arcs:sm (.sl tArc) (TCell.Arcs c)
  truth:sm (.sl (.int .i64)) (TCell.Truth c)
theorem smCell {c:TCell} (h:sm tCell c):SmCell c:=⟨str_of_sm h.1,h.2.2.1,h.2.2.2.1,h.2.2.2.2.1⟩
theorem smArc {a:TArc} (h:sm tArc a):sm (.sl tTable) (TArc.Delay a)∧sm (.sl tTable) (TArc.Slew a):=⟨h.2.2.2.2.1,h.2.2.2.2.2.1⟩
theorem impl_areArcs_c1_eq (o a:TArc):impl_Cell_areArcs_c1 o a=some (tr (sameArc o a)):=by
  unfold impl_Cell_areArcs_c1 sameArc
  exact and_ifP (fun _=>and_ifP (fun _=>fin_tr decide_eq_true_iff))
theorem impl_areArcs_eq (c:TCell) (h:SmCell c):impl_Cell_areArcs c=some (tr ((TCell.Arcs c).length≤8∧AllE (TCell.Arcs c) (fun k a=>ArcI c a∧Apart (TCell.Arcs c) k a))):=by
  unfold impl_Cell_areArcs
  have hs:=small_of_sm h.arcs
  rw [loopAll (len_of_sm h.arcs) (fun k a=>ArcI c a∧Apart (TCell.Arcs c) k a) (bad:=false) (good:=decide ((TCell.Arcs c).length≤8))
    (fun k a hx hk _=>by
      obtain ⟨h1,h2⟩:=smArc (sm_get h.arcs hx)
      simp only [impl_Cell_areArcs_loop0,show (k:Int)<((TCell.Arcs c).length:Int) from by omega,if_true,atI_nat,hx,Option.bind_some,impl_isArc_eq c a h.pins h1 h2]
      by_cases hA:ArcI c a
      · rw [if_pos (tr_pos hA),guardO_pos (by omega),guardO_pos (by omega)]
        simp only [Int.toNat_natCast,Int.toNat_zero,List.drop_zero,Nat.sub_zero]
        rw [slices_ContainsFunc_Simpl_Arc_impl_Arc_at_impl_Cell_areArcs_c1_eq (by show ((TCell.Arcs c).take k).length≤4611686018427387904;rw [List.length_take];omega) (fun o=>tr (sameArc o a)) (fun o _=>impl_areArcs_c1_eq o a),Option.bind_some]
        have e:((TCell.Arcs c).take k).any (fun o=>tr (sameArc o a))=true↔¬Apart (TCell.Arcs c) k a:=by
          rw [List.any_eq_true]
          constructor
          · rintro ⟨o,ho,hs⟩ hap
            obtain ⟨j,hj⟩:=List.mem_iff_getElem?.1 ho
            rw [List.getElem?_take] at hj
            split at hj
            · rename_i hjk;exact hap j o hjk hj ((tr_iff _).1 hs)
            · cases hj
          · intro hn
            apply Classical.byContradiction
            intro hno
            refine hn (fun j o hj ho hs=>hno ⟨o,?_,tr_pos hs⟩)
            exact List.mem_iff_getElem?.2 ⟨j,by rw [List.getElem?_take,if_pos hj];exact ho⟩
        constructor
        · rintro ⟨_,hap⟩;rw [if_neg (fun hh=>e.1 hh hap)]
        · intro hn;rw [if_pos (e.2 (fun hap=>hn ⟨hA,hap⟩))]
      · rw [if_neg (by rw [tr_neg hA];simp)]
        exact ⟨fun hh=>absurd hh.1 hA,fun _=>rfl⟩)
    (fun _=>by
      simp only [impl_Cell_areArcs_loop0,Int.lt_irrefl,if_false]
      congr 2
      rw [decide_eq_decide];omega)]
  congr 1
  refine bool_of_iff ?_
  rw [tr_iff]
  by_cases hA:AllE (TCell.Arcs c) (fun k a=>ArcI c a∧Apart (TCell.Arcs c) k a)
  · rw [sel_pos hA,decide_eq_true_eq];exact ⟨fun h=>⟨h,hA⟩,fun h=>h.1⟩
  · rw [sel_neg hA];exact ⟨fun h=>(by cases h),fun h=>absurd h.2 hA⟩
def hasK (c:TCell) (k:Int):Prop:=∃ a∈TCell.Arcs c,TArc.Kind a=k
theorem impl_has_eq (c:TCell) (k:Int) (h:SmCell c):impl_Cell_has c k=some (tr (hasK c k)):=by
  unfold impl_Cell_has
  rw [slices_ContainsFunc_Simpl_Arc_impl_Arc_at_impl_Cell_has_c1_eq (len_of_sm h.arcs) (fun a=>decide (TArc.Kind a=k)) (fun a _=>rfl),Option.bind_some]
  refine fin_tr ?_
  rw [List.any_eq_true]
  simp only [decide_eq_true_eq,hasK]
def KindOk (c:TCell):Prop :=
  (TCell.Kind c=1∧nclk (TCell.Pins c)=0∧(TCell.Truth c).length=2 ^ ((TCell.Pins c).length-1)∧AllIn (TCell.Truth c) 0 1)∨
  (TCell.Kind c=2∧nclk (TCell.Pins c)=1∧(TCell.Truth c).length=0∧¬hasK c 1∧(hasK c 2↔¬hasK c 3))∨
  (TCell.Kind c=3∧nclk (TCell.Pins c)=1∧(TCell.Truth c).length=0∧hasK c 1∧hasK c 2∧¬hasK c 3)
theorem pow_small {n:Nat} (h:n≤4):(2:Nat) ^ n≤16:=by
  calc (2:Nat) ^ n≤2 ^ 4:=Nat.pow_le_pow_right (by omega) h
    _=16:=rfl
theorem W_pow {m:Nat} (h:m≤4):IntKind.i64.wrap ((1:Int)*(2:Int) ^ min m (IntKind.bits IntKind.i64))=((2 ^ m:Nat):Int):=by
  have hb:min m (IntKind.bits IntKind.i64)=m:=Nat.min_eq_left (by show m≤64;omega)
  have e:(1:Int)*(2:Int) ^ m=((2 ^ m:Nat):Int):=by simp
  rw [hb,e]
  have h16:=pow_small h
  clear hb e
  generalize 2 ^ m=g at h16 ⊢
  rw [W_in (by omega) (by omega)]
theorem impl_isOfKind_eq (c:TCell) (h:SmCell c) (hp:PinsOk (TCell.Pins c)):impl_Cell_isOfKind c=some (tr (KindOk c)):=by
  unfold impl_Cell_isOfKind
  have h2:=hp.1
  have h5:=hp.2.1
  refine (show whileM (fun v=>impl_Cell_isOfKind_loop0 c v.1 v.2.1) ((0:Int),(0:Int),())=_ from loopThrough (l:=TCell.Pins c) (ρ:=Bool) (fun k=>((((TCell.Pins c).take k).countP (fun p=>TPin.Clock p):Int),(k:Int),())) (step:=fun v=>impl_Cell_isOfKind_loop0 c v.1 v.2.1)
    (fun k p hx hk=>by
      have hcnt:((TCell.Pins c).take k).countP (fun p=>TPin.Clock p)≤5:=by
        have h1:=List.countP_le_length (p:=fun p=>TPin.Clock p) (l:=(TCell.Pins c).take k)
        rw [List.length_take] at h1;omega
      have hnext:((TCell.Pins c).take (k+1)).countP (fun p=>TPin.Clock p)=((TCell.Pins c).take k).countP (fun p=>TPin.Clock p)+if TPin.Clock p=true then 1 else 0:=by
        rw [take_snoc hx,List.countP_append];simp [List.countP_cons]
      simp only [impl_Cell_isOfKind_loop0,show (k:Int)<((TCell.Pins c).length:Int) from by omega,if_true,atI_nat,hx,Option.bind_some,hnext]
      by_cases hc:TPin.Clock p=true
      · rw [if_pos hc,if_pos hc,W_suc (by omega),W_suc (by omega)]
      · rw [if_neg hc,if_neg hc,W_suc (by omega)];rfl)
    ?_)
  have hout:=impl_Cell_output_eq c h.pins
  simp only [impl_Cell_isOfKind_loop0,Int.lt_irrefl,if_false,List.take_length,hout,Option.bind_some,show (((TCell.Pins c).length:Int)-1).toNat=(TCell.Pins c).length-1 from by omega,W_pow (show (TCell.Pins c).length-1≤4 by omega)]
  have e00:((TCell.Pins c).countP (fun p=>TPin.Clock p):Int)=0↔nclk (TCell.Pins c)=0:=by unfold nclk;omega
  have e01:((TCell.Pins c).countP (fun p=>TPin.Clock p):Int)=1↔nclk (TCell.Pins c)=1:=by unfold nclk;omega
  unfold KindOk
  by_cases k1:TCell.Kind c=1
  · simp only [k1,if_true]
    by_cases hc:nclk (TCell.Pins c)=0
    · rw [if_pos (e00.2 hc),guardO_pos (by omega)]
      by_cases ht:(TCell.Truth c).length=2 ^ ((TCell.Pins c).length-1)
      · rw [if_pos (by rw [ht]),impl_areWithin_eq _ _ _ (len_of_sm h.truth),Option.bind_some]
        congr 2
        refine (tr_eq ?_).symm
        rw [allIn_iff]
        exact ⟨fun hh=>.inl ⟨trivial,hc,ht,hh⟩,fun hh=>by grind⟩
      · rw [if_neg (by omega),tr_neg (by grind)]
    · rw [if_neg (fun hh=>hc (e00.1 hh)),tr_neg (by grind)]
  by_cases k2:TCell.Kind c=2
  · simp only [k2,if_true,Int.reduceEq,if_false]
    by_cases hc:nclk (TCell.Pins c)=1
    · rw [if_pos (e01.2 hc)]
      by_cases ht:(TCell.Truth c).length=0
      · rw [if_pos (by omega),impl_has_eq c 1 h,Option.bind_some]
        by_cases h1:hasK c 1
        · rw [if_pos (tr_pos h1),tr_neg (by grind)]
        · rw [if_neg (by rw [tr_neg h1];simp),impl_has_eq c 2 h,impl_has_eq c 3 h]
          simp only [Option.bind_some]
          congr 2
          refine (tr_eq ?_).symm
          by_cases a:hasK c 2<;>by_cases b:hasK c 3<;>simp only [tr_pos,tr_neg,a,b,not_false_eq_true]<;>grind
      · rw [if_neg (by omega),tr_neg (by grind)]
    · rw [if_neg (fun hh=>hc (e01.1 hh)),tr_neg (by grind)]
  by_cases k3:TCell.Kind c=3
  · simp only [k3,if_true,Int.reduceEq,if_false]
    by_cases hc:nclk (TCell.Pins c)=1
    · rw [if_pos (e01.2 hc)]
      by_cases ht:(TCell.Truth c).length=0
      · rw [if_pos (by omega),impl_has_eq c 1 h,Option.bind_some]
        by_cases h1:hasK c 1
        · rw [if_pos (tr_pos h1),impl_has_eq c 2 h,Option.bind_some]
          by_cases h2:hasK c 2
          · rw [if_pos (tr_pos h2),impl_has_eq c 3 h,Option.bind_some]
            congr 2
            refine (tr_eq ?_).symm
            rw [Bool.not_eq_true',←Bool.not_eq_true,tr_iff]
            grind
          · rw [if_neg (by rw [tr_neg h2];simp),tr_neg (by grind)]
        · rw [if_neg (by rw [tr_neg h1];simp),tr_neg (by grind)]
      · rw [if_neg (by omega),tr_neg (by grind)]
    · rw [if_neg (fun hh=>hc (e01.1 hh)),tr_neg (by grind)]
  · simp only [k1,k2,k3,if_false]
    rw [tr_neg (by grind)]
def CellI (c:TCell):Prop:=nameOk (TCell.Name c)=true∧PinsOk (TCell.Pins c)∧((TCell.Arcs c).length≤8∧AllE (TCell.Arcs c) (fun k a=>ArcI c a∧Apart (TCell.Arcs c) k a))∧(0≤TCell.Leak c∧TCell.Leak c≤100000)∧(0≤TCell.Energy c∧TCell.Energy c≤100000)∧KindOk c
def CellOk (c:TCell):Prop:=nameOk (TCell.Name c)=true∧PinsOk (TCell.Pins c)∧((TCell.Arcs c).length≤8∧AllE (TCell.Arcs c) (fun k a=>ArcOk c a∧Apart (TCell.Arcs c) k a))∧(0≤TCell.Leak c∧TCell.Leak c≤100000)∧(0≤TCell.Energy c∧TCell.Energy c≤100000)∧KindOk c
theorem nclk_two {l:List TPin} {i j:Nat} {p q:TPin} (hij:i<j) (hp:l[i]?=some p) (hq:l[j]?=some q) (cp:TPin.Clock p=true) (cq:TPin.Clock q=true):2≤nclk l:=by
  unfold nclk
  have e:l.countP (fun p=>TPin.Clock p)=(l.take j).countP (fun p=>TPin.Clock p)+(l.drop j).countP (fun p=>TPin.Clock p):=by rw [←List.countP_append,List.take_append_drop]
  have h1:0<(l.take j).countP (fun p=>TPin.Clock p):=List.countP_pos_iff.2 ⟨p,List.mem_iff_getElem?.2 ⟨i,by rw [List.getElem?_take,if_pos hij];exact hp⟩,cp⟩
  have h2:0<(l.drop j).countP (fun p=>TPin.Clock p):=List.countP_pos_iff.2 ⟨q,List.mem_iff_getElem?.2 ⟨0,by rw [List.getElem?_drop];exact hq⟩,cq⟩
  omega
theorem clock_uniq {l:List TPin} (h:nclk l≤1) {i:Int} (h0:0≤i):clkB l i=true↔i=clockIx l:=by
  unfold clockIx findIx clkB
  constructor
  · intro hc
    split at hc
    · rename_i p hp
      split
      · rename_i j hj
        obtain ⟨hj1,hj2,hj3⟩:=List.findIdx?_eq_some_iff_getElem.1 hj
        have hjg:l[j]?=some l[j]:=List.getElem?_eq_getElem hj1
        rcases Nat.lt_trichotomy i.toNat j with hlt | heq | hlt
        · have:=nclk_two hlt hp hjg hc hj2;omega
        · omega
        · have:=nclk_two hlt hjg hp hj2 hc;omega
      · rename_i hn
        rw [List.findIdx?_eq_none_iff] at hn
        have:=hn p (List.mem_of_getElem? hp)
        rw [hc] at this;cases this
    · cases hc
  · intro hi
    split at hi
    · rename_i j hj
      obtain ⟨hj1,hj2,hj3⟩:=List.findIdx?_eq_some_iff_getElem.1 hj
      subst hi
      rw [Int.toNat_natCast,List.getElem?_eq_getElem hj1]
      exact hj2
    · omega
theorem clock_last {l:List TPin} (h:PinsOk l):clkB l ((l.length:Int)-1)=false:=by
  have h2:=h.1
  have hp:l[l.length-1]?=some l[l.length-1]:=List.getElem?_eq_getElem (by omega)
  have:=((h.2.2.2 _ _ hp).2.1 (by omega)).2.2
  unfold clkB
  rw [show ((l.length:Int)-1).toNat=l.length-1 by omega,hp]
  exact this
theorem arc_iff {c:TCell} (hp:PinsOk (TCell.Pins c)) (hk:nclk (TCell.Pins c)≤1) (a:TArc):ArcI c a↔ArcOk c a:=by
  have h2:=hp.1
  have hF:0≤TArc.From a→(clkB (TCell.Pins c) (TArc.From a)=true↔TArc.From a=clockIx (TCell.Pins c)):=fun h=>clock_uniq hk h
  have hT:0≤TArc.To a→(clkB (TCell.Pins c) (TArc.To a)=true↔TArc.To a=clockIx (TCell.Pins c)):=fun h=>clock_uniq hk h
  have hlast:=clock_last hp
  have hfr:∀ i,clkB (TCell.Pins c) i=true→i<((TCell.Pins c).length:Int):=by
    intro i hi
    unfold clkB at hi
    split at hi
    · rename_i p hp'
      have:=(List.getElem?_eq_some_iff.1 hp').1
      omega
    · cases hi
  unfold ArcI ArcOk
  generalize clockIx (TCell.Pins c)=ck at *
  constructor
  · rintro (⟨k,s,sl,td,fc,f0,⟨t0,t1⟩,ne⟩ | ⟨k,td,ts,te,⟨f0,f1⟩,hh⟩)
    · have hclk:=(hF f0).2 fc
      have hnl:TArc.From a≠((TCell.Pins c).length:Int)-1:=fun e=>by rw [e,hlast] at hclk;cases hclk
      have:=hfr _ hclk
      refine ⟨⟨f0,by omega⟩,⟨t0,by omega⟩,.inr (.inr ⟨k,hclk,by omega,?_,s,td,sl⟩)⟩
      rw [←Bool.not_eq_true]
      intro hc
      exact ne (((hT t0).1 hc).trans fc.symm)
    · refine ⟨⟨f0,f1⟩,⟨by omega,by omega⟩,?_⟩
      rcases hh with ⟨k1,c1,s1⟩ | ⟨k1,c1,s1⟩
      · exact .inl ⟨k1,c1,te,s1,td,ts⟩
      · exact .inr (.inl ⟨k1,c1,te,s1,td,ts⟩)
  · rintro ⟨⟨f0,f1⟩,⟨t0,t1⟩,(⟨k,c1,te,s,td,ts⟩ | ⟨k,c1,te,s,td,ts⟩ | ⟨k,c1,tl,c2,s,td,sl⟩)⟩
    · exact .inr ⟨by omega,td,ts,te,⟨f0,f1⟩,.inl ⟨k,c1,s⟩⟩
    · exact .inr ⟨by omega,td,ts,te,⟨f0,f1⟩,.inr ⟨k,c1,s⟩⟩
    · refine .inl ⟨k,s,sl,td,(hF f0).1 c1,f0,⟨t0,by omega⟩,fun e=>?_⟩
      rw [e,c1] at c2;cases c2
theorem KindOk.nclk {c:TCell} (h:KindOk c):nclk (TCell.Pins c)≤1:=by
  rcases h with h | h | h
  · have:=h.2.1;omega
  · have:=h.2.1;omega
  · have:=h.2.1;omega
theorem cell_iff (c:TCell):CellI c↔CellOk c:=by
  unfold CellI CellOk
  constructor
  · rintro ⟨a,b,⟨c1,d⟩,e,f,g⟩
    exact ⟨a,b,⟨c1,fun k x hx=>⟨(arc_iff b g.nclk x).1 (d k x hx).1,(d k x hx).2⟩⟩,e,f,g⟩
  · rintro ⟨a,b,⟨c1,d⟩,e,f,g⟩
    exact ⟨a,b,⟨c1,fun k x hx=>⟨(arc_iff b g.nclk x).2 (d k x hx).1,(d k x hx).2⟩⟩,e,f,g⟩
theorem impl_IsCell_eq (c:TCell) (h:sm tCell c):impl_IsCell c=some (tr (CellOk c)):=by
  have hc:=smCell h
  unfold impl_IsCell
  refine eq_tr (bind_if (by rw [impl_isName_eq];exact fin_tr Iff.rfl) (fun _=>bind_if (impl_arePins_eq _ hc.pins) (fun hp=>bind_if (impl_areArcs_eq c hc) (fun _=>bind_if (within_tr _ _ _) (fun _=>bind_if (within_tr _ _ _) (fun _=>bind_tr (impl_isOfKind_eq c hc hp))))))) ?_
  exact (cell_iff c)
end Go.Proofs.YtpkjjgdhmafonaaGreatDoor
/-
  Plain laws: cells by the reference; libraries.
-/
namespace Go.Proofs.YtpkjjgdhmafonaaGreatDoor
set_option linter.unusedVariables false
set_option linter.unusedSimpArgs false
open Go Go.Sx
def kindsOf (l:List TArc):List Int:=(List.range 6).map (fun (j:Nat)=>((l.countP (fun a=>decide (TArc.Kind a=(j:Int))):Nat):Int))
theorem kindsOf_get (l:List TArc) {j:Nat} (h:j<6):(kindsOf l)[j]?=some ((l.countP (fun a=>decide (TArc.Kind a=(j:Int))):Nat):Int):=by
  simp [kindsOf,List.getElem?_range h]
theorem spec_l03Kinds_eq (c:TCell) (h:SmCell c) (hk:∀ a∈TCell.Arcs c,1≤TArc.Kind a∧TArc.Kind a≤5):spec_l03Kinds c=some (kindsOf (TCell.Arcs c)):=by
  unfold spec_l03Kinds
  have hs:=small_of_sm h.arcs
  have h0:List.replicate (Int.toNat (6:Int)) (0:Int)=kindsOf ((TCell.Arcs c).take 0):=by simp [kindsOf];decide
  rw [h0]
  refine loopThrough (l:=TCell.Arcs c) (ρ:=List Int) (fun k=>((k:Int),kindsOf ((TCell.Arcs c).take k),())) (step:=fun v=>spec_l03Kinds_loop0 c v.1 v.2.1)
    (fun k a hx hlt=>?_) (by simp only [spec_l03Kinds_loop0,Int.lt_irrefl,if_false,List.take_length])
  obtain ⟨k1,k5⟩:=hk a (List.mem_of_getElem? hx)
  have hkn:TArc.Kind a=(((TArc.Kind a).toNat:Nat):Int):=by omega
  have hcnt:∀ j:Nat,((TCell.Arcs c).take k).countP (fun a=>decide (TArc.Kind a=(j:Int)))≤1048576:=by
    intro j
    have h1:=List.countP_le_length (p:=fun a=>decide (TArc.Kind a=(j:Int))) (l:=(TCell.Arcs c).take k)
    rw [List.length_take] at h1;omega
  simp only [spec_l03Kinds_loop0,show (k:Int)<((TCell.Arcs c).length:Int) from by omega,if_true,atI_nat,hx,Option.bind_some]
  rw [atI_some (by omega) (kindsOf_get _ (show (TArc.Kind a).toNat<6 by omega)),Option.bind_some,W_suc (hcnt _),W_suc (by omega)]
  congr 3
  rw [Prod.mk.injEq]
  refine ⟨?_,rfl⟩
  apply List.ext_getElem?
  intro j
  by_cases hj:(TArc.Kind a).toNat=j
  · subst hj
    rw [List.getElem?_set_self (by simp [kindsOf];omega),kindsOf_get _ (by omega),take_snoc hx,List.countP_append]
    congr 2
    rw [List.countP_cons,List.countP_nil]
    simp [←hkn]
  · rw [List.getElem?_set_ne hj]
    by_cases h6:j<6
    · rw [kindsOf_get _ h6,kindsOf_get _ h6,take_snoc hx,List.countP_append]
      congr 2
      rw [List.countP_cons,List.countP_nil]
      have:¬TArc.Kind a=(j:Int):=by omega
      simp [this]
    · rw [List.getElem?_eq_none (by simp [kindsOf];omega),List.getElem?_eq_none (by simp [kindsOf];omega)]
theorem count_has (c:TCell) (j:Nat):0<(TCell.Arcs c).countP (fun a=>decide (TArc.Kind a=(j:Int)))↔hasK c j:=by
  rw [List.countP_pos_iff]
  simp only [decide_eq_true_eq,hasK]
theorem specCell_loop1_eq (c:TCell) (h:SmCell c) (hp:PinsOk (TCell.Pins c)) (hk1:TCell.Kind c=1) :
    whileM (fun v=>spec_IsCell_loop1 c ((nclk (TCell.Pins c):Int),true) v.1) ((0:Int),())=some (.inr (tr (KindOk c))):=by
  have h2:=hp.1
  have h5:=hp.2.1
  have hs:=small_of_sm h.truth
  have e1:IntKind.i64.wrap (((TCell.Pins c).length:Int)-1)=((TCell.Pins c).length:Int)-1:=W_in (by omega) (by omega)
  have e2:IntKind.u64.wrap (((TCell.Pins c).length:Int)-1)=((TCell.Pins c).length:Int)-1:=IntWalk.u64_in _ (by omega)
  rw [loopAll (len_of_sm h.truth) (fun k x=>0≤x∧x≤1) (bad:=.inr false) (good:=.inr (tr (nclk (TCell.Pins c)=0∧(TCell.Truth c).length=2 ^ ((TCell.Pins c).length-1))))
    (fun k x hx hk _=>by
      simp only [spec_IsCell_loop1,show (k:Int)<((TCell.Truth c).length:Int) from by omega,if_true,atI_nat,hx,Option.bind_some,spec_l01In_eq,within_iff]
      exact ⟨fun hh=>by rw [if_pos hh],fun hh=>by rw [if_neg hh]⟩)
    (fun _=>by
      simp only [spec_IsCell_loop1,Int.lt_irrefl,if_false,e1,e2]
      by_cases hc:nclk (TCell.Pins c)=0
      · rw [if_pos (by omega),guardO_pos (by omega),show (((TCell.Pins c).length:Int)-1).toNat=(TCell.Pins c).length-1 by omega,W_pow (by omega)]
        congr 2
        congr 1
        refine (tr_eq ?_).symm
        rw [decide_eq_true_eq]
        constructor
        · intro hh;exact ⟨hc,by omega⟩
        · intro hh;rw [hh.2]
      · rw [if_neg (by omega),tr_neg (fun hh=>hc hh.1)])]
  congr 1
  by_cases hA:AllE (TCell.Truth c) (fun k x=>0≤x∧x≤1)
  · rw [sel_pos hA]
    congr 1
    refine tr_congr ?_
    have hAll:AllIn (TCell.Truth c) 0 1:=fun x hx=>by
      obtain ⟨k,hk⟩:=List.mem_iff_getElem?.1 hx
      exact hA k x hk
    unfold KindOk
    grind
  · rw [sel_neg hA,tr_neg]
    intro hh
    rcases hh with hh | hh | hh
    · exact hA (fun k x hk=>hh.2.2.2 x (List.mem_of_getElem? hk))
    · have:=hh.1;omega
    · have:=hh.1;omega
theorem spec_IsCell_eq (c:TCell) (hsm:sm tCell c):spec_IsCell c=some (tr (CellOk c)):=by
  have h:=smCell hsm
  have hs:=small_of_sm h.arcs
  unfold spec_IsCell
  rw [spec_l03Pins_eq c h.pins,Option.bind_some]
  by_cases hp':¬PinsOk (TCell.Pins c)
  · rw [sel_neg hp',tr_neg (fun hh=>hp' hh.2.1)];rfl
  have hp:=Classical.not_not.1 hp'
  rw [sel_pos hp]
  simp only [if_true]
  refine eq_tr (bind_if (P:=nameOk (TCell.Name c)=true) (by rw [spec_l03Name_eq _ h.name];exact fin_tr Iff.rfl) (fun hn=>and_ifN (fun h8=>bind_if (l01In_tr _ _ _) (fun hl=>bind_if (l01In_tr _ _ _) (fun he=>?_))))) (P:=nameOk (TCell.Name c)=true∧¬((8:Int)<((TCell.Arcs c).length:Int))∧(0≤TCell.Leak c∧TCell.Leak c≤100000)∧(0≤TCell.Energy c∧TCell.Energy c≤100000)∧(AllE (TCell.Arcs c) (fun k a=>ArcOk c a∧Apart (TCell.Arcs c) k a)∧KindOk c)) ?_
  · rw [loopAll (len_of_sm h.arcs) (fun k a=>ArcOk c a∧Apart (TCell.Arcs c) k a) (bad:=false) (good:=tr (KindOk c))
      (fun k a hx hk _=>by
        obtain ⟨h1,h2⟩:=smArc (sm_get h.arcs hx)
        simp only [spec_IsCell_loop2,show (k:Int)<((TCell.Arcs c).length:Int) from by omega,if_true,atI_nat,hx,Option.bind_some,spec_l03Arc_eq c a h.pins h1 h2 hp.1]
        have inner:whileM (fun v=>spec_IsCell_loop0 c (k:Int) a v.1) ((0:Int),())=some (sel (∀ j,j<k→∀ o,(TCell.Arcs c)[j]?=some o→¬sameArc o a) (.inl (IntKind.i64.wrap ((k:Int)+1),())) (.inr false)):=by
          refine loopBelow k (by omega) (fun j=>∀ o,(TCell.Arcs c)[j]?=some o→¬sameArc o a) (fun j hj=>?_) (fun _=>by simp only [spec_IsCell_loop0,Int.lt_irrefl,if_false])
          obtain ⟨o,ho⟩:∃ o,(TCell.Arcs c)[j]?=some o:=⟨_,List.getElem?_eq_getElem (by omega)⟩
          simp only [spec_IsCell_loop0,show (j:Int)<(k:Int) from by omega,if_true,atI_nat,ho,Option.bind_some]
          have e:(∀ o',some o=some o'→¬sameArc o' a)↔¬sameArc o a:=⟨fun hh=>hh o rfl,fun hh o' ho'=>by injection ho' with ho';subst ho';exact hh⟩
          rw [e]
          unfold sameArc
          constructor
          · intro hh
            split
            · split
              · split
                · exact absurd ⟨‹_›,‹_›,‹_›⟩ hh
                · rfl
              · rfl
            · rfl
          · intro hh
            have hh:=Classical.not_not.1 hh
            rw [if_pos hh.1,if_pos hh.2.1,if_pos hh.2.2]
        have eap:Apart (TCell.Arcs c) k a↔(∀ j,j<k→∀ o,(TCell.Arcs c)[j]?=some o→¬sameArc o a):=⟨fun hh j hj o ho=>hh j o hj ho,fun hh j o hj ho=>hh j hj o ho⟩
        by_cases hA:ArcOk c a
        · rw [if_pos (tr_pos hA),inner]
          constructor
          · intro hh;rw [sel_pos (eap.1 hh.2)]
          · intro hh;rw [sel_neg (fun h'=>hh ⟨hA,eap.2 h'⟩)]
        · rw [if_neg (by rw [tr_neg hA];simp)]
          exact ⟨fun hh=>absurd hh.1 hA,fun _=>rfl⟩)
      (fun hA=>by
        have hkinds:=spec_l03Kinds_eq c h (fun a ha=>by
          obtain ⟨k,hk⟩:=List.mem_iff_getElem?.1 ha
          exact (hA k a hk).1.kind)
        have g1:atI (kindsOf (TCell.Arcs c)) (1:Int)=some (((TCell.Arcs c).countP (fun a=>decide (TArc.Kind a=((1:Nat):Int))):Nat):Int):=atI_some (by omega) (kindsOf_get _ (by omega))
        have g2:atI (kindsOf (TCell.Arcs c)) (2:Int)=some (((TCell.Arcs c).countP (fun a=>decide (TArc.Kind a=((2:Nat):Int))):Nat):Int):=atI_some (by omega) (kindsOf_get _ (by omega))
        have g3:atI (kindsOf (TCell.Arcs c)) (3:Int)=some (((TCell.Arcs c).countP (fun a=>decide (TArc.Kind a=((3:Nat):Int))):Nat):Int):=atI_some (by omega) (kindsOf_get _ (by omega))
        have c1:=count_has c 1
        have c2:=count_has c 2
        have c3:=count_has c 3
        simp only [spec_IsCell_loop2,Int.lt_irrefl,if_false,hkinds,Option.bind_some,g1,g2,g3]
        generalize (TCell.Arcs c).countP (fun a=>decide (TArc.Kind a=((1:Nat):Int)))=n1 at c1 ⊢
        generalize (TCell.Arcs c).countP (fun a=>decide (TArc.Kind a=((2:Nat):Int)))=n2 at c2 ⊢
        generalize (TCell.Arcs c).countP (fun a=>decide (TArc.Kind a=((3:Nat):Int)))=n3 at c3 ⊢
        by_cases k1:TCell.Kind c=1
        · rw [if_pos k1]
          exact specCell_loop1_eq c h hp k1
        rw [if_neg k1]
        have hgoal:∀ (b:Bool),(b=true↔KindOk c)→(some (.inr b):Option ((Int×Unit) ⊕ Bool))=some (.inr (tr (KindOk c))):=fun b hb=>by rw [tr_eq hb]
        have c1':hasK c 1↔0<n1:=c1.symm
        have c2':hasK c 2↔0<n2:=c2.symm
        have c3':hasK c 3↔0<n3:=c3.symm
        have hKO:KindOk c↔(TCell.Kind c=2∧nclk (TCell.Pins c)=1∧(TCell.Truth c).length=0∧¬0<n1∧(0<n2↔¬0<n3))∨(TCell.Kind c=3∧nclk (TCell.Pins c)=1∧(TCell.Truth c).length=0∧0<n1∧0<n2∧¬0<n3):=by
          unfold KindOk
          rw [c1',c2',c3']
          constructor
          · rintro (hh | hh | hh)
            · exact absurd hh.1 k1
            · exact .inl hh
            · exact .inr hh
          · rintro (hh | hh)
            · exact .inr (.inl hh)
            · exact .inr (.inr hh)
        by_cases k2:TCell.Kind c=2
        · rw [if_pos k2]
          split
          · split
            · split
              · rename_i a b d
                refine hgoal _ ?_
                rw [hKO]
                simp only [beq_iff_eq,decide_eq_decide] at d
                constructor
                · intro hh;cases hh
                · intro hh;omega
              · rename_i a b d
                refine hgoal _ ?_
                rw [hKO,decide_eq_true_eq]
                simp only [beq_iff_eq,decide_eq_decide] at d
                omega
            · refine hgoal _ ?_
              rw [hKO]
              constructor
              · intro hh;cases hh
              · intro hh;omega
          · refine hgoal _ ?_
            rw [hKO]
            constructor
            · intro hh;cases hh
            · intro hh;omega
        rw [if_neg k2]
        repeat' split
        all_goals
          refine hgoal _ ?_
          rw [hKO]
          first
            | (rw [decide_eq_true_eq];omega)
            | (constructor
               · intro hh;cases hh
               · intro hh;omega))]
    congr 1
    by_cases hA:AllE (TCell.Arcs c) (fun k a=>ArcOk c a∧Apart (TCell.Arcs c) k a)
    · rw [sel_pos hA];exact tr_congr ⟨fun x=>⟨hA,x⟩,fun x=>x.2⟩
    · rw [sel_neg hA,tr_neg (fun x=>hA x.1)]
  · unfold CellOk
    constructor
    · rintro ⟨a,b,c1,d,e,f⟩
      exact ⟨a,hp,⟨by omega,e⟩,c1,d,f⟩
    · rintro ⟨a,b,⟨c1,d⟩,e,f,g⟩
      exact ⟨a,by omega,e,f,d,g⟩
end Go.Proofs.YtpkjjgdhmafonaaGreatDoor
/-
  Plain laws: libraries; names of a design.
-/
namespace Go.Proofs.YtpkjjgdhmafonaaGreatDoor
set_option linter.unusedVariables false
set_option linter.unusedSimpArgs false
open Go Go.Sx
theorem mem_take {α:Type} {l:List α} {k:Nat} {s:α}:s ∉ l.take k↔∀ (j:Nat) (q:α),j<k→l[j]?=some q→q≠s:=by
  constructor
  · intro h j q hj hq e
    refine h (List.mem_iff_getElem?.2 ⟨j,?_⟩)
    rw [List.getElem?_take,if_pos hj,hq,e]
  · intro h hm
    obtain ⟨j,hj⟩:=List.mem_iff_getElem?.1 hm
    rw [List.getElem?_take] at hj
    split at hj
    · rename_i hjk;exact h j s hjk hj rfl
    · cases hj
theorem names_map {α:Type} (f:α→List UInt8) (l:List α):NamesOk (l.map f) l.length↔AllE l (fun k x=>nameOk (f x)=true∧∀ (j:Nat) (q:α),j<k→l[j]?=some q→f q≠f x):=by
  constructor
  · intro h k x hx
    have hk:=(List.getElem?_eq_some_iff.1 hx).1
    obtain ⟨h1,h2⟩:=h k (f x) hk (by simp [hx])
    refine ⟨h1,fun j q hj hq=>mem_take.1 h2 j (f q) hj (by simp [hq])⟩
  · intro h j s hj hs
    simp only [List.getElem?_map,Option.map_eq_some_iff] at hs
    obtain ⟨x,hx,rfl⟩:=hs
    obtain ⟨h1,h2⟩:=h j x hx
    refine ⟨h1,mem_take.2 (fun i q hi hq=>?_)⟩
    simp only [List.getElem?_map,Option.map_eq_some_iff] at hq
    obtain ⟨y,hy,rfl⟩:=hq
    exact h2 i y hi hy
def lnames (l:List TCell):List (List UInt8):=l.map TCell.Name
def LibOk (a:TLibrary):Prop:=(TLibrary.Cells a).length≤8∧(∀ c∈TLibrary.Cells a,CellOk c)∧NamesOk (lnames (TLibrary.Cells a)) (TLibrary.Cells a).length
theorem smLib {a:TLibrary} (h:sm tLibrary a):sm (.sl tCell) (TLibrary.Cells a):=h.1
theorem AllE_mem {α:Type} {l:List α} {P:α→Prop}:AllE l (fun _ x=>P x)↔∀ x∈l,P x:=by
  constructor
  · intro h x hx
    obtain ⟨k,hk⟩:=List.mem_iff_getElem?.1 hx
    exact h k x hk
  · intro h k x hk
    exact h x (List.mem_of_getElem? hk)
theorem sel_then {P Q:Prop}:sel P (tr Q) false=tr (P∧Q):=by
  by_cases h:P
  · rw [sel_pos h];exact tr_congr ⟨fun q=>⟨h,q⟩,fun q=>q.2⟩
  · rw [sel_neg h,tr_neg (fun q=>h q.1)]
theorem impl_IsLibrary_eq (a:TLibrary) (h:sm tLibrary a):impl_IsLibrary a=some (tr (LibOk a)):=by
  have hc:=smLib h
  have hs:=small_of_sm hc
  unfold impl_IsLibrary
  have:=loopAllF (l:=TLibrary.Cells a) (ρ:=Bool) (fun k=>((lnames (TLibrary.Cells a)).take k,(k:Int),())) (fun _ c=>CellOk c) (step:=fun v=>impl_IsLibrary_loop0 a v.1 v.2.1) (bad:=false) (good:=tr ((TLibrary.Cells a).length≤8∧NamesOk (lnames (TLibrary.Cells a)) (TLibrary.Cells a).length))
    (fun k c hx hk _=>by
      have hn:(lnames (TLibrary.Cells a))[k]?=some (TCell.Name c):=by simp [lnames,hx]
      simp only [impl_IsLibrary_loop0,show (k:Int)<((TLibrary.Cells a).length:Int) from by omega,if_true,atI_nat,hx,Option.bind_some,impl_IsCell_eq c (sm_get hc hx)]
      rw [guardO_pos (by simp only [List.length_take,List.length_singleton,lnames,List.length_map];omega),take_snoc hn,W_suc (by omega)]
      constructor
      · intro hh;rw [if_pos (tr_pos hh)]
      · intro hh;rw [if_neg (by rw [tr_neg hh];simp)])
    (fun hA=>by
      have e0:(lnames (TLibrary.Cells a)).take (TLibrary.Cells a).length=lnames (TLibrary.Cells a):=by rw [show (TLibrary.Cells a).length=(lnames (TLibrary.Cells a)).length by simp [lnames],List.take_length]
      have hlen:(lnames (TLibrary.Cells a)).length=(TLibrary.Cells a).length:=by simp [lnames]
      simp only [impl_IsLibrary_loop0,Int.lt_irrefl,if_false,e0]
      by_cases h8:(TLibrary.Cells a).length≤8
      · rw [if_pos (by omega),impl_areNames_eq _ (by rw [hlen];omega),Option.bind_some,hlen]
        congr 2
        exact tr_congr ⟨fun q=>⟨h8,q⟩,fun q=>q.2⟩
      · rw [if_neg (by omega),tr_neg (fun q=>h8 q.1)])
  refine (show whileM (fun v=>impl_IsLibrary_loop0 a v.1 v.2.1) (([]:List (List UInt8)),(0:Int),())=_ from this).trans ?_
  rw [sel_then]
  congr 1
  refine tr_congr ?_
  rw [AllE_mem]
  exact ⟨fun q=>⟨q.2.1,q.1,q.2.2⟩,fun q=>⟨q.2.1,q.1,q.2.2⟩⟩
theorem inner_names {α ρ:Type} {f:α→List UInt8} {l:List α} {x:α} {k:Nat} (hk:k≤1048576) (hkl:k≤l.length) {step:Int×Unit→Option ((Int×Unit) ⊕ ρ)} {bad good:ρ}
    (hs:∀ (j:Nat) (y:α),j<k→l[j]?=some y→step ((j:Int),())=some (if f y=f x then .inr bad else .inl (IntKind.i64.wrap ((j:Int)+1),())))
    (hx:step ((k:Int),())=some (.inr good)):whileM step ((0:Int),())=some (sel (∀ (j:Nat) (q:α),j<k→l[j]?=some q→f q≠f x) good bad):=by
  rw [loopBelow k (by omega) (fun j=>∀ q,l[j]?=some q→f q≠f x) (bad:=bad) (good:=good) (fun j hj=>by
    have hjl:l[j]?=some l[j]:=List.getElem?_eq_getElem (by omega)
    rw [hs j _ hj hjl]
    constructor
    · intro hh;rw [if_neg (hh _ hjl)]
    · intro hh
      rw [if_pos]
      apply Classical.byContradiction
      intro hne
      refine hh (fun q hq=>?_)
      rw [hjl] at hq;injection hq with hq;subst hq;exact hne) (fun _=>hx)]
  congr 1
  have e:(∀ j,j<k→∀ q,l[j]?=some q→f q≠f x)↔(∀ (j:Nat) (q:α),j<k→l[j]?=some q→f q≠f x):=⟨fun h j q hj hq=>h j hj q hq,fun h j hj q hq=>h j q hj hq⟩
  rw [propext e]
theorem spec_IsLibrary_eq (a:TLibrary) (h:sm tLibrary a):spec_IsLibrary a=some (tr (LibOk a)):=by
  have hc:=smLib h
  have hs:=small_of_sm hc
  unfold spec_IsLibrary
  rw [loopAll (len_of_sm hc) (fun k c=>CellOk c∧∀ (j:Nat) (q:TCell),j<k→(TLibrary.Cells a)[j]?=some q→TCell.Name q≠TCell.Name c) (bad:=false) (good:=tr ((TLibrary.Cells a).length≤8))
    (fun k c hx hk _=>by
      simp only [spec_IsLibrary_loop1,show (k:Int)<((TLibrary.Cells a).length:Int) from by omega,if_true,atI_nat,hx,Option.bind_some,spec_IsCell_eq c (sm_get hc hx)]
      by_cases hC:CellOk c
      · rw [if_pos (tr_pos hC),inner_names (f:=TCell.Name) (l:=TLibrary.Cells a) (x:=c) (k:=k) (by omega) (by omega) (bad:=.inr false) (good:=.inl (IntKind.i64.wrap ((k:Int)+1),()))
          (fun j y hj hy=>by
            simp only [spec_IsLibrary_loop0,show (j:Int)<(k:Int) from by omega,if_true,atI_nat,hy,Option.bind_some]
            split<;>rfl)
          (by simp only [spec_IsLibrary_loop0,Int.lt_irrefl,if_false])]
        constructor
        · intro hh;rw [sel_pos hh.2]
        · intro hh;rw [sel_neg (fun q=>hh ⟨hC,q⟩)]
      · rw [if_neg (by rw [tr_neg hC];simp)]
        exact ⟨fun hh=>absurd hh.1 hC,fun _=>rfl⟩)
    (fun _=>by
      simp only [spec_IsLibrary_loop1,Int.lt_irrefl,if_false]
      congr 2
      exact (tr_eq (by rw [decide_eq_true_eq];omega)).symm)]
  rw [sel_then]
  congr 1
  refine tr_congr ?_
  unfold LibOk
  rw [lnames,names_map,←AllE_mem]
  constructor
  · rintro ⟨q,q8⟩
    exact ⟨q8,fun k x hx=>(q k x hx).1,fun k x hx=>⟨(q k x hx).1.1,(q k x hx).2⟩⟩
  · rintro ⟨q8,q1,q2⟩
    exact ⟨fun k x hx=>⟨q1 k x hx,(q2 k x hx).2⟩,q8⟩
theorem spec_l05Names_eq (l:List (List UInt8)) (hl:l.length≤1048576) (hsm:∀ s∈l,s.length≤4611686018427387904):spec_l05Names l=some (tr (NamesOk l l.length)):=by
  unfold spec_l05Names
  rw [loopAll (show Len l by show l.length≤4611686018427387904;omega) (fun k s=>nameOk s=true∧∀ (j:Nat) (q:List UInt8),j<k→l[j]?=some q→id q≠id s) (bad:=false) (good:=true)
    (fun k s hx hk _=>by
      simp only [spec_l05Names_loop1,show (k:Int)<(l.length:Int) from by omega,if_true,atI_nat,hx,Option.bind_some,spec_l03Name_eq s (hsm s (List.mem_of_getElem? hx))]
      by_cases hC:nameOk s=true
      · rw [if_pos hC,inner_names (f:=id) (l:=l) (x:=s) (k:=k) (by omega) (by omega) (bad:=.inr false) (good:=.inl (IntKind.i64.wrap ((k:Int)+1),()))
          (fun j y hj hy=>by
            simp only [spec_l05Names_loop0,show (j:Int)<(k:Int) from by omega,if_true,atI_nat,hy,Option.bind_some,id]
            split<;>rfl)
          (by simp only [spec_l05Names_loop0,Int.lt_irrefl,if_false])]
        constructor
        · intro hh;rw [sel_pos hh.2]
        · intro hh;rw [sel_neg (fun q=>hh ⟨hC,q⟩)]
      · rw [if_neg hC]
        exact ⟨fun hh=>absurd hh.1 hC,fun _=>rfl⟩)
    (fun _=>by simp only [spec_l05Names_loop1,Int.lt_irrefl,if_false]),sel_tr]
  congr 1
  refine tr_congr ?_
  have:=names_map id l
  rw [List.map_id] at this
  exact this.symm
def inames (d:TDesign):List (List UInt8):=(TDesign.Instances d).map TInstance.Name
def ponames (d:TDesign):List (List UInt8):=(TDesign.Ports d).map TPort.Name
def DNamesOk (d:TDesign):Prop:=(TDesign.Instances d).length≤14∧(TDesign.Nets d).length≤30∧(TDesign.Ports d).length≤8∧NamesOk (inames d) (inames d).length∧NamesOk (TDesign.Nets d) (TDesign.Nets d).length∧NamesOk (ponames d) (ponames d).length
structure SmDesign (d:TDesign):Prop where
  insts:sm (.sl tInstance) (TDesign.Instances d)
  ports:sm (.sl tPort) (TDesign.Ports d)
  nets:sm (.sl .str) (TDesign.Nets d)
theorem gather {α ρ:Type} {l:List α} (hl:l.length≤1048576) (f:α→List UInt8) {step:List (List UInt8)×Int×Unit→Option ((List (List UInt8)×Int×Unit) ⊕ ρ)} {good:ρ}
    (hs:∀ (k:Nat) (x:α) (o:List (List UInt8)),l[k]?=some x→(k:Int)<(l.length:Int)→o.length=k→step (o,(k:Int),())=guardO ((o.length+[f x].length)*16≤140737488355328) (some (.inl (o++[f x],IntKind.i64.wrap ((k:Int)+1),()))))
    (hx:step (l.map f,(l.length:Int),())=some (.inr good)):whileM step (([]:List (List UInt8)),(0:Int),())=some good:=by
  refine (show whileM step (([]:List (List UInt8)),(0:Int),())=some good from loopThrough (l:=l) (fun k=>((l.map f).take k,(k:Int),())) (fun k x hx hk=>?_) ?_)
  · have hn:(l.map f)[k]?=some (f x):=by simp [hx]
    have hlen:((l.map f).take k).length=k:=by rw [List.length_take,List.length_map];omega
    rw [hs k x _ hx (by omega) hlen,guardO_pos (by rw [hlen];simp;omega),take_snoc hn,W_suc (by omega)]
  · have e0:(l.map f).take l.length=l.map f:=by rw [show l.length=(l.map f).length by simp,List.take_length]
    simp only [e0]
    exact hx
end Go.Proofs.YtpkjjgdhmafonaaGreatDoor
