/-
  Plain laws: marks are held; how many numbers there are.
-/
import Derived.Test.YtpiemlnhjobopaaGreatDoorLA
import Derived.Test.YtpiemlnhjobopaaGreatDoorLB
import Derived.Test.YtpiemlnhjobopaaGreatDoorLC
namespace Go.Proofs.YtpiemlnhjobopaaGreatDoor
set_option linter.unusedVariables false
set_option linter.unusedSimpArgs false
open Go Go.Sx
theorem Zsh {α:Type} {l:List α} {c:Nat} {g:Int→α} {step:Int×Int×List α×Unit→Option ((Int×Int×List α×Unit) ⊕ (Int×List α))}
    (hstep:∀ (j:Nat) (m:Int) (x:α) (L:List α),j<L.length→(j:Int)<(L.length:Int)→L[j]?=some x→0≤m→m≤4611686018427387904→(j:Int)≤1048576→step (m,(j:Int),L,())=some (.inl (m+(c:Int),((j+1:Nat):Int),List.set L j (g m),())))
    (hend:∀ (m:Int) (L:List α),step (m,(L.length:Int),L,())=some (.inr (m,L))) (hl:l.length≤1048576) (hc:c≤1048576) :
    ∃ l',Zr step (1,0,l,())=some (1+((c*l.length:Nat):Int),l')∧l'.length=l.length∧∀ j,j<l.length→l'[j]?=some (g (1+((c*j:Nat):Int))):=by
  obtain ⟨r,h1,h2,h3,h4⟩:∃ r,Zr step (1,0,l,())=some r∧r.1=1+((c*l.length:Nat):Int)∧r.2.length=l.length∧∀ j,j<l.length→r.2[j]?=some (g (1+((c*j:Nat):Int))):=by
    refine Qy l.length (fun k v=>v.1=1+((c*k:Nat):Int)∧v.2.1=(k:Int)∧v.2.2.1.length=l.length∧∀ j,j<k→v.2.2.1[j]?=some (g (1+((c*j:Nat):Int)))) _ ⟨by simp,rfl,rfl,fun j hj=>by omega⟩ ?_ ?_
    · rintro k ⟨m,i,L,⟨⟩⟩ hk ⟨hm,hi,hL,hS⟩
      simp only at hm hi hL hS
      have hck:c*k≤1048576*1048576:=Nat.mul_le_mul hc (by omega)
      subst hm
      subst hi
      left
      refine ⟨_,hstep k _ _ L (by omega) (by omega) (List.getElem?_eq_getElem (by omega)) (by omega) (by omega) (by omega),by simp only;rw [Nat.mul_succ];omega,rfl,by simp [hL],fun j hj=>?_⟩
      simp only
      rw [List.getElem?_set]
      split
      · rename_i e;rw [if_pos (by omega),e]
      · exact hS j (by omega)
    · rintro ⟨m,i,L,⟨⟩⟩ ⟨hm,hi,hL,hS⟩
      simp only at hm hi hL hS
      subst hi
      rw [←hL,hend]
      exact ⟨_,rfl,by rw [hm,hL],rfl,fun j hj=>hS j (by omega)⟩
  exact ⟨r.2,by rw [h1,←h2],h3,h4⟩
theorem Zr7 {α:Type} {l:List α} {c n:Nat} {g:Int→α} {step:Int×Int×Unit→Option ((Int×Int×Unit) ⊕ Int)} (hn:l.length=n) (hg:∀ j,j<n→l[j]?=some (g (1+((c*j:Nat):Int))))
    (hstep:∀ (j:Nat) (m:Int),(j:Int)<(l.length:Int)→l[j]?=some (g m)→0≤m→m≤4611686018427387904→(j:Int)≤1048576→step (m,(j:Int),())=some (.inl (m+(c:Int),((j+1:Nat):Int),())))
    (hend:∀ (m:Int),step (m,(l.length:Int),())=some (.inr m)) (hl:n≤1048576) (hc:c≤1048576):Zr step (1,0,())=some (1+((c*n:Nat):Int)):=by
  refine YJ n (fun k v=>v.1=1+((c*k:Nat):Int)∧v.2.1=(k:Int)) _ ⟨by simp,rfl⟩ ?_ ?_
  · rintro k ⟨m,i,⟨⟩⟩ hk ⟨hm,hi⟩
    simp only at hm hi
    have hck:c*k≤1048576*1048576:=Nat.mul_le_mul hc (by omega)
    subst hm
    subst hi
    left
    exact ⟨_,hstep k _ (by omega) (hg k hk) (by omega) (by omega) (by omega),by simp only;rw [Nat.mul_succ];omega,rfl⟩
  · rintro ⟨m,i,⟨⟩⟩ ⟨hm,hi⟩
    simp only at hm hi
    subst hm
    subst hi
    rw [←hn,hend]
theorem ZrX (a:Zn) (h:tot Y2 a≤1048576):cnt Y2 a≤100+20*1048576:=by
  have hc:=ZoY Y2 a
  have h1:wid Y2≤100:=by decide
  have h2:Zcs Y2≤20:=by decide
  have:=Nat.mul_le_mul_right (tot Y2 a) h2
  omega
/-
  Plain ground: lists in the order of a key (no program in sight).
-/
def ZkL {α:Type} (key:α→Int) (l:List α):Prop:=l.Pairwise fun x y=>key x<key y
def Vn {α:Type} (key:α→Int) (k:Int):List α→Nat
  | []=>0
  | x::l=>if key x<k then Vn key k l+1 else 0
theorem Zkz {α:Type} (key:α→Int) (k:Int):∀ l:List α,Vn key k l≤l.length
  | []=>Nat.le_refl _
  | x::l=>by
    unfold Vn
    split
    · have:=Zkz key k l
      rw [List.length_cons];omega
    · exact Nat.zero_le _
theorem ZiN {α:Type} (key:α→Int) (k:Int):∀ (l:List α) (x:α),x∈l.take (Vn key k l)→key x<k
  | [],x,h=>by simp at h
  | y::l,x,h=>by
    unfold Vn at h
    split at h
    · rename_i q
      rw [List.take_succ_cons] at h
      rcases List.mem_cons.1 h with rfl | h
      · exact q
      · exact ZiN key k l x h
    · rw [List.take_zero] at h;cases h
theorem Zhs {α:Type} {key:α→Int} {k:Int}:∀ {l:List α},ZkL key l→∀ x,x∈l.drop (Vn key k l)→k≤key x
  | [],_,x,h=>by simp at h
  | y::l,hl,x,h=>by
    obtain ⟨h1,h2⟩:=List.pairwise_cons.1 hl
    unfold Vn at h
    split at h
    · rw [List.drop_succ_cons] at h
      exact Zhs h2 x h
    · rename_i q
      rw [List.drop_zero] at h
      rcases List.mem_cons.1 h with rfl | h
      · omega
      · have:=h1 x h;omega
def ZkX {α:Type} (key:α→Int) (l:List α) (a b:α):List α:=l.take (Vn key (key a) l)++a::b::l.drop (Vn key (key a) l)
theorem Zrc {α:Type} {key:α→Int} {l:List α} {a b:α} (hl:ZkL key l) (hab:key a<key b) (h:∀ x∈l,key x<key a∨key b<key x):ZkL key (ZkX key l a b):=by
  have hlo:=ZiN key (key a) l
  have hhi:=Zhs (k:=key a) hl
  have hb:∀ x∈l.drop (Vn key (key a) l),key b<key x:=fun x hx=>by
    have h1:=hhi x hx
    rcases h x (List.mem_of_mem_drop hx) with q | q
    · omega
    · exact q
  unfold ZkX ZkL
  refine List.pairwise_append.2 ⟨hl.sublist (List.take_sublist _ _),List.Pairwise.cons ?_ (List.Pairwise.cons hb (hl.sublist (List.drop_sublist _ _))),?_⟩
  · intro x hx
    rcases List.mem_cons.1 hx with rfl | hx
    · exact hab
    · have:=hb x hx;omega
  · intro x hx y hy
    have h1:=hlo x hx
    rcases List.mem_cons.1 hy with rfl | hy
    · exact h1
    · rcases List.mem_cons.1 hy with rfl | hy
      · omega
      · have:=hb y hy;omega
theorem ZcH {α:Type} {key:α→Int} {l:List α} {a b x:α}:x∈ZkX key l a b↔x=a∨x=b∨x∈l:=by
  unfold ZkX
  rw [List.mem_append,List.mem_cons,List.mem_cons]
  constructor
  · rintro (h | h | h | h)
    · exact .inr (.inr (List.mem_of_mem_take h))
    · exact .inl h
    · exact .inr (.inl h)
    · exact .inr (.inr (List.mem_of_mem_drop h))
  · rintro (h | h | h)
    · exact .inr (.inl h)
    · exact .inr (.inr (.inl h))
    · rw [←List.take_append_drop (Vn key (key a) l) l] at h
      rcases List.mem_append.1 h with q | q
      · exact .inl q
      · exact .inr (.inr (.inr q))
theorem ZmN {α:Type} {key:α→Int} {k:Int}:∀ {l:List α},ZkL key l→((∃ x∈l,key x=k)↔∃ x,l[Vn key k l]?=some x∧key x=k)
  | [],_=>by simp [Vn]
  | y::l,hl=>by
    obtain ⟨h1,h2⟩:=List.pairwise_cons.1 hl
    unfold Vn
    split
    · rename_i q
      rw [List.getElem?_cons_succ,←ZmN h2]
      constructor
      · rintro ⟨x,hx,e⟩
        rcases List.mem_cons.1 hx with rfl | hx
        · omega
        · exact ⟨x,hx,e⟩
      · rintro ⟨x,hx,e⟩
        exact ⟨x,List.mem_cons_of_mem _ hx,e⟩
    · rename_i q
      rw [List.getElem?_cons_zero]
      constructor
      · rintro ⟨x,hx,e⟩
        rcases List.mem_cons.1 hx with rfl | hx
        · exact ⟨x,rfl,e⟩
        · have:=h1 x hx;omega
      · rintro ⟨x,hx,e⟩
        injection hx with hx
        subst hx
        exact ⟨_,List.mem_cons_self,e⟩
/-
  Plain ground: pairs of neighbours collected, in the order of their keys or as they come (no program in sight).
-/
structure Zg7 {α:Type} (key:α→Int) (A B:List α):Prop where
  mem:∀ x,x∈A↔x∈B
  inc:ZkL key B
  nod:(A.map key).Nodup
  prs:∀ p:Int,(∃ x∈B,key x=2*p)↔∃ x∈B,key x=2*p+1
  len:A.length=B.length
theorem Zg7.nil {α:Type} (key:α→Int):Zg7 key [] [] :=
  ⟨fun x=>Iff.rfl,List.Pairwise.nil,List.nodup_nil,fun p=>by simp,rfl⟩
theorem Zrd {α:Type} (key:α→Int) (l:List α) (a b:α):(ZkX key l a b).length=l.length+2:=by
  unfold ZkX
  have:=Zkz key (key a) l
  simp only [List.length_append,List.length_cons,List.length_take,List.length_drop]
  omega
theorem Zg7.add {α:Type} {key:α→Int} {A B:List α} (h:Zg7 key A B) {a b:α} {p:Int} (ha:key a=2*p) (hb:key b=2*p+1) (hn:¬∃ x∈B,key x=2*p):Zg7 key (A++[a,b]) (ZkX key B a b):=by
  have hn2:¬∃ x∈B,key x=2*p+1:=fun q=>hn ((h.prs p).2 q)
  have off:∀ x∈B,key x<key a∨key b<key x:=fun x hx=>by
    have h1:key x≠2*p:=fun e=>hn ⟨x,hx,e⟩
    have h2:key x≠2*p+1:=fun e=>hn2 ⟨x,hx,e⟩
    omega
  refine ⟨fun x=>?_,Zrc h.inc (by omega) off,?_,fun q=>?_,?_⟩
  · rw [List.mem_append,ZcH,h.mem x]
    simp only [List.mem_cons,List.not_mem_nil,or_false]
    constructor
    · rintro (w | w | w)
      · exact .inr (.inr w)
      · exact .inl w
      · exact .inr (.inl w)
    · rintro (w | w | w)
      · exact .inr (.inl w)
      · exact .inr (.inr w)
      · exact .inl w
  · rw [List.map_append,List.nodup_append]
    refine ⟨h.nod,?_,?_⟩
    · simp only [List.map_cons,List.map_nil,List.nodup_cons,List.mem_cons,List.not_mem_nil,or_false,not_false_eq_true,List.nodup_nil,and_true]
      omega
    · intro x hx y hy
      obtain ⟨z,hz,rfl⟩:=List.mem_map.1 hx
      have:=off z ((h.mem z).1 hz)
      simp only [List.map_cons,List.map_nil,List.mem_cons,List.not_mem_nil,or_false] at hy
      rcases hy with rfl | rfl<;>omega
  · have hq:=h.prs q
    constructor
    · rintro ⟨x,hx,e⟩
      rcases ZcH.1 hx with rfl | rfl | hx
      · exact ⟨b,ZcH.2 (.inr (.inl rfl)),by omega⟩
      · omega
      · obtain ⟨y,hy,e2⟩:=hq.1 ⟨x,hx,e⟩
        exact ⟨y,ZcH.2 (.inr (.inr hy)),e2⟩
    · rintro ⟨x,hx,e⟩
      rcases ZcH.1 hx with rfl | rfl | hx
      · omega
      · exact ⟨a,ZcH.2 (.inl rfl),by omega⟩
      · obtain ⟨y,hy,e2⟩:=hq.2 ⟨x,hx,e⟩
        exact ⟨y,ZcH.2 (.inr (.inr hy)),e2⟩
  · rw [List.length_append,Zrd,h.len]
    rfl
theorem Zg7.perm {α:Type} {key:α→Int} {A B:List α} (h:Zg7 key A B):B.Perm A:=by
  have hA:A.Nodup:=List.Pairwise.of_map key (fun a b q e=>q (by rw [e])) h.nod
  have hB:B.Nodup:=h.inc.imp fun {x y} q e=>by rw [e] at q;omega
  exact (List.perm_ext_iff_of_nodup hB hA).2 fun x=>(h.mem x).symm
def Zqe {α:Type} (key:α→Int) (q:α×α):Prop:=∃ p,key q.1=2*p∧key q.2=2*p+1
def Zec {α:Type} (key:α→Int) (n:Int) (l:List α):Bool:=l.any fun x=>decide (key x=n)
theorem Zd2 {α:Type} {key:α→Int} {n:Int} {l:List α}:Zec key n l=true↔∃ x∈l,key x=n:=by
  unfold Zec
  rw [List.any_eq_true]
  constructor
  · rintro ⟨x,h1,h2⟩;exact ⟨x,h1,of_decide_eq_true h2⟩
  · rintro ⟨x,h1,h2⟩;exact ⟨x,h1,decide_eq_true h2⟩
def ZoV {α:Type} (key:α→Int) (A:List α) (q:α×α):List α:=if Zec key (key q.1) A=true then A else A++[q.1,q.2]
def Zsv {α:Type} (key:α→Int) (B:List α) (q:α×α):List α:=if Zec key (key q.1) B=true then B else ZkX key B q.1 q.2
theorem Zg7.step {α:Type} {key:α→Int} {A B:List α} (h:Zg7 key A B) {q:α×α} (hq:Zqe key q):Zg7 key (ZoV key A q) (Zsv key B q):=by
  obtain ⟨p,h1,h2⟩:=hq
  have e:Zec key (key q.1) A=true↔Zec key (key q.1) B=true:=by
    rw [Zd2,Zd2]
    constructor
    · rintro ⟨x,hx,q⟩;exact ⟨x,(h.mem x).1 hx,q⟩
    · rintro ⟨x,hx,q⟩;exact ⟨x,(h.mem x).2 hx,q⟩
  unfold ZoV Zsv
  by_cases c:Zec key (key q.1) B=true
  · rw [if_pos c,if_pos (e.2 c)];exact h
  · rw [if_neg c,if_neg (fun z=>c (e.1 z))]
    exact h.add h1 h2 (fun z=>c (Zd2.2 (by rw [h1];exact z)))
theorem Zs4 {α:Type} (key:α→Int) (A:List α) (q:α×α):(ZoV key A q).length≤A.length+2:=by
  unfold ZoV
  split
  · omega
  · rw [List.length_append];exact Nat.le_refl _
theorem ZkF {α β:Type} {key:α→Int} {g:Nat→β→α×α}:∀ (l:List β) (m:Nat) {A B:List α},Zg7 key A B→(∀ k x,l[k]?=some x→Zqe key (g (m+k) x))→
    Zg7 key (foldI (fun k x s=>ZoV key s (g k x)) m l A) (foldI (fun k x s=>Zsv key s (g k x)) m l B)
  | [],_,_,_,h,_=>h
  | x::l,m,A,B,h,hg=>by
    simp only [foldI]
    refine ZkF l (m+1) (h.step (hg 0 x rfl)) (fun k y hy=>?_)
    rw [show m+1+k=m+(k+1) by omega]
    exact hg (k+1) y (by rw [List.getElem?_cons_succ];exact hy)
theorem ZfG {α β:Type} {key:α→Int} {g:Nat→β→α×α}:∀ (l:List β) (m:Nat) (A:List α),(foldI (fun k x s=>ZoV key s (g k x)) m l A).length≤A.length+2*l.length
  | [],_,A=>by simp [foldI]
  | x::l,m,A=>by
    simp only [foldI]
    have h1:=ZfG (key:=key) (g:=g) l (m+1) (ZoV key A (g m x))
    have h2:=Zs4 key A (g m x)
    rw [List.length_cons];omega
/-
  Plain laws: the sources of a setup; the law FnExactSetupSources.
-/
theorem ZvQ {α:Type} {key:α→Int} {K:Int} {l:List α} {k:Nat} {x:α} (hk:k<Vn key K l) (hx:l[k]?=some x):key x<K :=
  ZiN key K l x (List.mem_of_getElem? (i:=k) (by rw [List.getElem?_take,if_pos hk];exact hx))
theorem Zuj {α:Type} {key:α→Int} {K:Int} {l:List α} {x:α} (hl:ZkL key l) (hx:l[Vn key K l]?=some x):K≤key x :=
  Zhs hl x (List.mem_of_getElem? (i:=0) (by rw [List.getElem?_drop,Nat.add_zero];exact hx))
theorem Zm1 {l:List Zl} {a b:Zl} (hi:ZkL Zl.Node l) (hl:l.length≤1000000):ZbA l a b=some (Zsv Zl.Node l (a,b)):=by
  have hp:=Zkz Zl.Node (Zl.Node a) l
  have low:∀ (k:Nat) (x:Zl),k<Vn Zl.Node (Zl.Node a) l→l[k]?=some x→Zl.Node x<Zl.Node a:=fun k x=>ZvQ
  have high:∀ x:Zl,l[Vn Zl.Node (Zl.Node a) l]?=some x→Zl.Node a≤Zl.Node x:=fun x=>Zuj hi
  have has:=ZmN (k:=Zl.Node a) hi
  have hput:Zsv Zl.Node l (a,b)=if Zec Zl.Node (Zl.Node a) l=true then l else l.take (Vn Zl.Node (Zl.Node a) l)++a::b::l.drop (Vn Zl.Node (Zl.Node a) l):=rfl
  generalize Vn Zl.Node (Zl.Node a) l=p at hp low high has hput
  unfold ZbA
  refine YJ p (fun k v=>v=((k:Int),())) _ rfl ?_ ?_
  · rintro k _ hk rfl
    have hx:l[k]?=some (l[k]'(by omega)):=List.getElem?_eq_getElem _
    have h1:=low k _ hk hx
    generalize l[k]'(by omega)=x at hx h1
    simp only [ZaD,show (k:Int)<(l.length:Int) from by omega,if_true,Zt,hx,Bq]
    rw [if_pos h1,VI (by omega)]
    exact .inl ⟨_,rfl,rfl⟩
  · rintro _ rfl
    have hd:List.take (l.length-p) (List.drop p l)=List.drop p l:=List.take_of_length_le (by rw [List.length_drop];omega)
    by_cases c:p<l.length
    · have hx:l[p]?=some (l[p]'c):=List.getElem?_eq_getElem _
      generalize l[p]'c=x at hx
      have h1:=high x hx
      simp only [ZaD,show (p:Int)<(l.length:Int) from by omega,if_true,Zt,hx,Bq]
      rw [if_neg (by omega)]
      by_cases e:Zl.Node x=Zl.Node a
      · rw [if_pos e,hput,if_pos (Zd2.2 (has.2 ⟨x,hx,e⟩))]
      · rw [if_neg e,hput,if_neg (fun q=>by
          obtain ⟨y,hy,e2⟩:=has.1 (Zd2.1 q)
          rw [hx] at hy
          injection hy with hy
          subst hy
          exact e e2)]
        simp only [Int.toNat_natCast,show Int.toNat (0:Int)=0 from rfl,Nat.sub_zero,List.drop_zero,List.nil_append,hd]
        rw [Zj (by omega),Zj (by omega),Zj (Int.le_refl _),Zj (by simp only [List.length_cons,List.length_nil,List.length_drop];omega),Zj (by simp only [List.length_nil,List.length_take];omega),Zj (by simp only [List.length_cons,List.length_nil,List.length_drop,List.length_take,List.length_append];omega)]
        rfl
    · simp only [ZaD,show ¬(p:Int)<(l.length:Int) from by omega,if_false]
      rw [hput,if_neg (fun q=>by
          obtain ⟨y,hy,e2⟩:=has.1 (Zd2.1 q)
          have:=(List.getElem?_eq_some_iff.1 hy).1
          omega)]
      simp only [Int.toNat_natCast,show Int.toNat (0:Int)=0 from rfl,Nat.sub_zero,List.drop_zero,List.nil_append,hd]
      rw [Zj (by omega),Zj (by omega),Zj (Int.le_refl _),Zj (by simp only [List.length_cons,List.length_nil,List.length_drop];omega),Zj (by simp only [List.length_nil,List.length_take];omega),Zj (by simp only [List.length_cons,List.length_nil,List.length_drop,List.length_take,List.length_append];omega)]
      rfl
def cpr (l:List Zb) (k:Nat) (c:Zb):Zl×Zl :=
  ((2*Zb.Place c,(Wq ((Zfh l (k:Int)).rise+Zb.Yk c),Wq ((Zfh l (k:Int)).rise+Zb.YZ c),()),((0:Int),(0:Int),()),()),
   (2*Zb.Place c+1,(Wq ((Zfh l (k:Int)).fall+Zb.Yk c),Wq ((Zfh l (k:Int)).fall+Zb.YZ c),()),((0:Int),(0:Int),()),()))
def ipr (l:List Zb) (k:Nat) (x:Zd):Zl×Zl :=
  ((2*Zd.Place x,(Wq ((Zfh l (Zd.Clock x)).rise+ZH.Early (Zd.Delay x)),Wq ((Zfh l (Zd.Clock x)).rise+ZH.Late (Zd.Delay x)),()),x.2.2.2),
   (2*Zd.Place x+1,(Wq ((Zfh l (Zd.Clock x)).rise+ZH.Early (Zd.Delay x)),Wq ((Zfh l (Zd.Clock x)).rise+ZH.Late (Zd.Delay x)),()),x.2.2.2))
theorem ZvE (l:List Zb) (k:Nat) (c:Zb):Zqe Zl.Node (cpr l k c):=⟨Zb.Place c,rfl,rfl⟩
theorem ZvM (l:List Zb) (k:Nat) (x:Zd):Zqe Zl.Node (ipr l k x):=⟨Zd.Place x,rfl,rfl⟩
theorem ZnN {s:Zm} {pl:List Pl} (h:Zk4 pl s) {k:Nat} {c:Zb} (hc:(Zm.ZE s)[k]?=some c):Zpf (Zm.ZE s) (k:Int)∧0≤Zb.Place c∧Zb.Place c<(pl.length:Int):=by
  have hk:=(List.getElem?_eq_some_iff.1 hc).1
  exact ⟨ZqI h.1 (by omega) (by omega),ZfE.place h.1 (List.mem_of_getElem? hc),h.2.1 c (List.mem_of_getElem? hc)⟩
theorem ZnU {s:Zm} {pl:List Pl} (h:Zk4 pl s) {k:Nat} {x:Zd} (hx:(Zm.QE s)[k]?=some x):Zpf (Zm.ZE s) (Zd.Clock x)∧0≤Zd.Place x∧Zd.Place x<(pl.length:Int):=by
  have e:=h.2.2.1 k x hx
  exact ⟨ZqI h.1 e.2.2.2.1.1 (by have:=e.2.2.2.1.2;omega),e.1.1,by have:=e.1.2;omega⟩
theorem Zj5 {pl:List Pl} {nc:Int} {drv:Bool} {l:List Zd} (h:ZgC pl nc drv l):l.length≤pl.length:=by
  have:∀ (k:Nat) (x:Zd),l[k]?=some x→(k:Int)≤Zd.Place x:=by
    intro k
    induction k with
    | zero=>intro x hx;have:=(h 0 x hx).1.1;omega
    | succ k ih =>
      intro x hx
      have hlt:=(List.getElem?_eq_some_iff.1 hx).1
      have hy:l[k]?=some l[k]:=List.getElem?_eq_getElem (by omega)
      have h1:=ih _ hy
      have h2:=(h (k+1) x hx).2.2.1 l[k] (by omega) (by rw [Nat.add_sub_cancel];exact hy)
      omega
  rcases Nat.eq_zero_or_pos l.length with h0 | h0
  · omega
  · have hy:l[l.length-1]?=some l[l.length-1]:=List.getElem?_eq_getElem (by omega)
    have h1:=this _ _ hy
    have h2:=(h _ _ hy).1.2
    omega
theorem ZlW {s:Zm} {pl:List Pl} (h:Zk4 pl s) (hpl:pl.length≤100) {k:Nat} {c:Zb} (hc:(Zm.ZE s)[k]?=some c):Zar (Zm.ZE s) (k:Int)=some [(cpr (Zm.ZE s) k c).1,(cpr (Zm.ZE s) k c).2]:=by
  obtain ⟨h1,h2,h3⟩:=ZnN h hc
  unfold Zar
  rw [Zt,hc,Bq,Zff h1,Bq]
  refine (ZjR (v':=([(cpr (Zm.ZE s) k c).1],(1:Int),())) ?_).trans ((ZjR (v':=([(cpr (Zm.ZE s) k c).1,(cpr (Zm.ZE s) k c).2],(2:Int),())) ?_).trans (ZfC ?_))
  · show YQ c (wvI (Zfh (Zm.ZE s) (k:Int))) [] 0=_
    unfold YQ
    rw [if_pos (by decide)]
    show (some (Zfh (Zm.ZE s) (k:Int)).rise).bind _=_
    rw [Bq,Zj (by simp only [List.length_cons,List.length_nil];omega),Vq (n:=2*Zb.Place c) (by omega) (by omega),Int.add_zero,Vq (n:=2*Zb.Place c) (by omega) (by omega)]
    rfl
  · show YQ c (wvI (Zfh (Zm.ZE s) (k:Int))) [(cpr (Zm.ZE s) k c).1] 1=_
    unfold YQ
    rw [if_pos (by decide)]
    show (some (Zfh (Zm.ZE s) (k:Int)).fall).bind _=_
    rw [Bq,Zj (by simp only [List.length_cons,List.length_nil];omega),Vq (n:=2*Zb.Place c) (by omega) (by omega),Vq (n:=2*Zb.Place c+1) (by omega) (by omega)]
    rfl
  · show YQ c (wvI (Zfh (Zm.ZE s) (k:Int))) [(cpr (Zm.ZE s) k c).1,(cpr (Zm.ZE s) k c).2] 2=_
    unfold YQ
    rw [if_neg (by decide)]
theorem Zpq {l:List Zl} (hl:Len l) (n:Int):∃ r,V5 l n=some (r,Zec Zl.Node n l):=by
  unfold V5
  rw [Xu hl (fun x=>decide (Zl.Node x=n)) (fun x _=>rfl),Bq]
  have h1:=Zr1 (p:=fun x=>decide (Zl.Node x=n)) (l:=l)
  have h2:=Va (p:=fun x=>decide (Zl.Node x=n)) (l:=l)
  by_cases c:0≤ZbS (fun x=>decide (Zl.Node x=n)) l
  · obtain ⟨x,hx,_⟩:=ZlV c h1
    rw [if_pos c,hx,Bq]
    exact ⟨x,by rw [show Zec Zl.Node n l=true from h2.1 c]⟩
  · rw [if_neg c]
    refine ⟨((0:Int),((0:Int),(0:Int),()),((0:Int),(0:Int),()),()),?_⟩
    rw [show Zec Zl.Node n l=false from by
      cases q:Zec Zl.Node n l with
      | false=>rfl
      | true=>exact absurd (h2.2 q) c]
noncomputable def ZoJ (s:Zm):List Zl:=foldI (fun k x a=>ZoV Zl.Node a (cpr (Zm.ZE s) k x)) 0 (Zm.ZE s) []
noncomputable def Zv5 (s:Zm):List Zl:=foldI (fun k x a=>ZoV Zl.Node a (ipr (Zm.ZE s) k x)) 0 (Zm.QE s) (ZoJ s)
noncomputable def Zri (s:Zm):List Zl:=foldI (fun k x a=>Zsv Zl.Node a (cpr (Zm.ZE s) k x)) 0 (Zm.ZE s) []
noncomputable def Zvt (s:Zm):List Zl:=foldI (fun k x a=>Zsv Zl.Node a (ipr (Zm.ZE s) k x)) 0 (Zm.QE s) (Zri s)
theorem ZvV (s:Zm) (n:Nat):Zg7 Zl.Node (foldI (fun k x a=>ZoV Zl.Node a (cpr (Zm.ZE s) k x)) 0 ((Zm.ZE s).take n) []) (foldI (fun k x a=>Zsv Zl.Node a (cpr (Zm.ZE s) k x)) 0 ((Zm.ZE s).take n) []) :=
  ZkF (g:=fun k x=>cpr (Zm.ZE s) k x) _ 0 (Zg7.nil _) (fun k x _=>ZvE _ _ _)
theorem ZvW (s:Zm):Zg7 Zl.Node (ZoJ s) (Zri s):=by
  have:=ZvV s (Zm.ZE s).length
  rw [List.take_length] at this
  exact this
theorem ZvX (s:Zm) (n:Nat):Zg7 Zl.Node (foldI (fun k x a=>ZoV Zl.Node a (ipr (Zm.ZE s) k x)) 0 ((Zm.QE s).take n) (ZoJ s)) (foldI (fun k x a=>Zsv Zl.Node a (ipr (Zm.ZE s) k x)) 0 ((Zm.QE s).take n) (Zri s)) :=
  ZkF (g:=fun k x=>ipr (Zm.ZE s) k x) _ 0 (ZvW s) (fun k x _=>ZvM _ _ _)
theorem ZtX (s:Zm):Zg7 Zl.Node (Zv5 s) (Zvt s):=by
  have:=ZvX s (Zm.QE s).length
  rw [List.take_length] at this
  exact this
theorem len1 {s:Zm} {pl:List Pl} (h:Zk4 pl s) (n:Nat):(foldI (fun k x a=>ZoV Zl.Node a (cpr (Zm.ZE s) k x)) 0 ((Zm.ZE s).take n) []).length≤12:=by
  have:=ZfG (key:=Zl.Node) (g:=fun k x=>cpr (Zm.ZE s) k x) ((Zm.ZE s).take n) 0 []
  rw [List.length_take,List.length_nil] at this
  have:=h.1.1
  omega
theorem Zx9 {s:Zm} {pl:List Pl} (h:Zk4 pl s):(ZoJ s).length≤12:=by
  have:=len1 h (Zm.ZE s).length
  rw [List.take_length] at this
  exact this
theorem len2 {s:Zm} {pl:List Pl} (h:Zk4 pl s) (hpl:pl.length≤100) (n:Nat):(foldI (fun k x a=>ZoV Zl.Node a (ipr (Zm.ZE s) k x)) 0 ((Zm.QE s).take n) (ZoJ s)).length≤212:=by
  have:=ZfG (key:=Zl.Node) (g:=fun k x=>ipr (Zm.ZE s) k x) ((Zm.QE s).take n) 0 (ZoJ s)
  rw [List.length_take] at this
  have:=Zj5 h.2.2.1
  have:=Zx9 h
  omega
theorem ZoW {A:List Zl} {q:Zl×Zl} {r:Bool} {v:Int} (hr:r=Zec Zl.Node (Zl.Node q.1) A) (hl:A.length≤1000000):(if r=true then some (Sum.inl (Wq (v+1),A,())) else Zv ((A.length+[q.1,q.2].length)*40≤140737488355328) (some (.inl (Wq (v+1),A++[q.1,q.2],()))):Option ((Int×List Zl×Unit) ⊕ List Zl))=some (.inl (Wq (v+1),ZoV Zl.Node A q,())):=by
  subst hr
  unfold ZoV
  by_cases c:Zec Zl.Node (Zl.Node q.1) A=true
  · rw [if_pos c,if_pos c]
  · rw [if_neg c,if_neg c,Zj (by simp only [List.length_cons,List.length_nil];omega)]
theorem Zj4 {s:Zm} {pl:List Pl} (h:Zk4 pl s) (hpl:pl.length≤100):ZcV s=some (Zvt s):=by
  have hfew:=Zj5 h.2.2.1
  have h6:=h.1.1
  unfold ZcV
  refine ZhE (l:=Zm.ZE s) (by unfold Len;omega) (fun a i=>(i,a,())) (f:=fun k x a=>ZoV Zl.Node a (cpr (Zm.ZE s) k x)) (s0:=[]) (fun _ _=>True) trivial (fun k c A hc _ hA=>⟨?_,trivial⟩) (fun A _ hA=>?_)
  · have hk:=(List.getElem?_eq_some_iff.1 hc).1
    have hl:A.length≤12:=by rw [hA];exact len1 h k
    obtain ⟨r,hr⟩:=Zpq (l:=A) (by unfold Len;omega) (Zl.Node (cpr (Zm.ZE s) k c).1)
    show Qj s (k:Int) A=_
    unfold Qj
    rw [if_pos (by omega),ZlW h hpl hc,Bq]
    show (V5 A (Zl.Node (cpr (Zm.ZE s) k c).1)).bind _=_
    rw [hr,Bq]
    exact ZoW (q:=cpr (Zm.ZE s) k c) rfl (by omega)
  · have eA:A=ZoJ s:=hA
    subst eA
    show Qj s ((Zm.ZE s).length:Int) (ZoJ s)=_
    unfold Qj
    rw [if_neg (Int.lt_irrefl _)]
    refine ZhE (l:=Zm.QE s) (by unfold Len;omega) (fun a i=>(i,a,())) (f:=fun k x a=>ZoV Zl.Node a (ipr (Zm.ZE s) k x)) (s0:=ZoJ s) (fun _ _=>True) trivial (fun k x A hx _ hA=>⟨?_,trivial⟩) (fun A _ hA=>?_)
    · have hk:=(List.getElem?_eq_some_iff.1 hx).1
      have hl:A.length≤212:=by rw [hA];exact len2 h hpl k
      obtain ⟨w1,w2,w3⟩:=ZnU h hx
      obtain ⟨r,hr⟩:=Zpq (l:=A) (by unfold Len;omega) (Zl.Node (ipr (Zm.ZE s) k x).1)
      show Qi s (k:Int) A=_
      unfold Qi
      rw [if_pos (by omega),Zt,hx,Bq,Zff w1,Bq]
      show (some (Zfh (Zm.ZE s) (Zd.Clock x)).rise).bind _=_
      rw [Bq,Vq (n:=2*Zd.Place x) (by omega) (by omega),Vq (n:=2*Zd.Place x+1) (by omega) (by omega),Int.add_comm (ZH.Early (Zd.Delay x)),Int.add_comm (ZH.Late (Zd.Delay x))]
      show (some (ipr (Zm.ZE s) k x).1).bind _=_
      rw [Bq]
      show (V5 A (Zl.Node (ipr (Zm.ZE s) k x).1)).bind _=_
      rw [hr,Bq]
      have:=ZoW (A:=A) (q:=ipr (Zm.ZE s) k x) (v:=(k:Int)) rfl (by omega)
      by_cases c:Zec Zl.Node (Zl.Node (ipr (Zm.ZE s) k x).1) A=true
      · rw [if_pos c] at this ⊢
        injection this with this
        injection this with this
        exact congrArg (fun z=>some (Sum.inl z)) this
      · rw [if_neg c] at this ⊢
        rw [Zj (by simp only [List.length_cons,List.length_nil];omega)] at this
        rw [Zj (by simp only [List.length_cons,List.length_nil];omega)]
        injection this with this
        injection this with this
        exact congrArg (fun z=>some (Sum.inl z)) this
    · have eA:A=Zv5 s:=hA
      subst eA
      show Qi s ((Zm.QE s).length:Int) (Zv5 s)=_
      unfold Qi
      rw [if_neg (Int.lt_irrefl _)]
      have hl:=len2 h hpl (Zm.QE s).length
      rw [List.take_length] at hl
      have hS:=ZtX s
      rw [(ZnW (key:=fun x=>Zl.Node x)).2 ⟨hS.perm,hS.inc,by have:(Zv5 s).length≤212:=hl;omega⟩]
      rfl
theorem Zm2 {s:Zm} {pl:List Pl} (h:Zk4 pl s) (hpl:pl.length≤100):Zcp s=some (Zvt s):=by
  have hfew:=Zj5 h.2.2.1
  have h6:=h.1.1
  unfold Zcp
  refine ZhE (l:=Zm.ZE s) (by unfold Len;omega) (fun a i=>(a,i,())) (f:=fun k x a=>Zsv Zl.Node a (cpr (Zm.ZE s) k x)) (s0:=[]) (fun _ _=>True) trivial (fun k c B hc _ hB=>⟨?_,trivial⟩) (fun B _ hB=>?_)
  · have hk:=(List.getElem?_eq_some_iff.1 hc).1
    have hS:=ZvV s k
    rw [←hB] at hS
    have hl:=hS.len
    have hl2:=len1 h k
    obtain ⟨w1,w2,w3⟩:=ZnN h hc
    show X6 s B (k:Int)=_
    unfold X6
    rw [if_pos (by omega),Zt,hc,Bq,Zgx w1,Bq,Vq (n:=2*Zb.Place c) (by omega) (by omega),Vq (n:=2*Zb.Place c+1) (by omega) (by omega)]
    show (ZbA B (cpr (Zm.ZE s) k c).1 (cpr (Zm.ZE s) k c).2).bind _=_
    rw [Zm1 hS.inc (by omega)]
    rfl
  · have eB:B=Zri s:=hB
    subst eB
    show X6 s (Zri s) ((Zm.ZE s).length:Int)=_
    unfold X6
    rw [if_neg (Int.lt_irrefl _)]
    refine ZhE (l:=Zm.QE s) (by unfold Len;omega) (fun a i=>(a,i,())) (f:=fun k x a=>Zsv Zl.Node a (ipr (Zm.ZE s) k x)) (s0:=Zri s) (fun _ _=>True) trivial (fun k x B hx _ hB=>⟨?_,trivial⟩) (fun B _ hB=>?_)
    · have hk:=(List.getElem?_eq_some_iff.1 hx).1
      have hS:=ZvX s k
      rw [←hB] at hS
      have hl:=hS.len
      have hl2:=len2 h hpl k
      obtain ⟨w1,w2,w3⟩:=ZnU h hx
      show X5 s B (k:Int)=_
      unfold X5
      rw [if_pos (by omega),Zt,hx,Bq,Zgx w1,Bq,Vq (n:=2*Zd.Place x) (by omega) (by omega),Vq (n:=2*Zd.Place x+1) (by omega) (by omega)]
      show (ZbA B (ipr (Zm.ZE s) k x).1 (ipr (Zm.ZE s) k x).2).bind _=_
      rw [Zm1 hS.inc (by omega)]
      rfl
    · have eB:B=Zvt s:=hB
      subst eB
      show X5 s (Zvt s) ((Zm.QE s).length:Int)=_
      unfold X5
      rw [if_neg (Int.lt_irrefl _)]
theorem ZmT (b:Zn) (s:Zm) (hb:sm Y2 b) (hs:sm XG s):∃ r,Zap b s=some r∧ZaA b s=some r∧r.1.length≤1048576:=by
  unfold Zap ZaA
  rw [Zl7 b s hb hs,ZmY b s hb hs,Bq,Bq]
  by_cases h:Zob b s
  · have hpl:=Jr h.1.1.few
    rw [if_pos (Yl h),if_pos (Yl h),Zj4 h.2 (by omega),Zm2 h.2 (by omega)]
    refine ⟨_,rfl,rfl,?_⟩
    have hl:=len2 h.2 (by omega) (Zm.QE s).length
    rw [List.take_length] at hl
    have:=(ZtX s).len
    show (Zvt s).length≤1048576
    have:(Zv5 s).length≤212:=hl
    omega
  · rw [if_neg (fun q=>h ((Qx _).1 q)),if_neg (fun q=>h ((Qx _).1 q))]
    exact ⟨_,rfl,rfl,by simp⟩
theorem Zr8 (l:List Zl) (hl:l.length≤1048576):∃ l',Zdu l 1=some (1+((5*l.length:Nat):Int),l')∧Zdt l' 1=some (1+((5*l.length:Nat):Int)):=by
  obtain ⟨l',h1,h2,h3⟩:=Zsh (l:=l) (c:=5) (g:=fun m=>((m,(m+1,m+1+1,()),(m+1+1+1,m+1+1+1+1,()),()):Zl)) (step:=fun v=>QT v.1 v.2.1 v.2.2.1)
    (fun j m x L hj hj' hx h0 h1 hj2=>by
      have hx2:atI L (j:Int)=some x:=by rw [Zt];exact hx
      have hb:∀ {β:Type} (y:Zl) (F:Zl→Option β),(atI (List.set L j y) (j:Int)).bind F=F y:=fun y F=>by rw [ZbN hj];rfl
      simp only [QT,if_pos hj',Int.toNat_natCast,hx2,↓hb,Bq,List.set_set,Vq (show (-9223372036854775808:Int)≤m+1 by omega) (by omega),Vq (show (-9223372036854775808:Int)≤m+1+1 by omega) (by omega),Vq (show (-9223372036854775808:Int)≤m+1+1+1 by omega) (by omega),Vq (show (-9223372036854775808:Int)≤m+1+1+1+1 by omega) (by omega),Vq (show (-9223372036854775808:Int)≤m+1+1+1+1+1 by omega) (by omega),VI (show j≤1048576 by omega)]
      rw [show m+1+1+1+1+1=m+((5:Nat):Int) by omega])
    (fun m L=>by simp only [QT,Int.lt_irrefl,if_false]) hl (by omega)
  refine ⟨l',h1,?_⟩
  exact Zr7 (n:=l.length) (c:=5) (g:=fun m=>((m,(m+1,m+1+1,()),(m+1+1+1,m+1+1+1+1,()),()):Zl)) (step:=fun v=>QS l' v.1 v.2.1) h2 h3
    (fun j m hj hx h0 h1 hj2=>by
      simp only [QS,if_pos hj,Zt,hx,Bq,Vq (show (-9223372036854775808:Int)≤m+1 by omega) (by omega),Vq (show (-9223372036854775808:Int)≤m+1+1 by omega) (by omega),Vq (show (-9223372036854775808:Int)≤m+1+1+1 by omega) (by omega),Vq (show (-9223372036854775808:Int)≤m+1+1+1+1 by omega) (by omega),Vq (show (-9223372036854775808:Int)≤m+1+1+1+1+1 by omega) (by omega),VI (show j≤1048576 by omega),if_true]
      rw [show m+1+1+1+1+1=m+((5:Nat):Int) by omega])
    (fun m=>by simp only [QS,Int.lt_irrefl,if_false]) hl (by omega)
theorem ZqZ (a:Zm) (h:tot XG a≤1048576):cnt XG a≤100+20*1048576:=by
  have hc:=ZoY XG a
  have h1:wid XG≤100:=by decide
  have h2:Zcs XG≤20:=by decide
  have:=Nat.mul_le_mul_right (tot XG a) h2
  omega
theorem Zef (a0:Zn) (a1:Zm) (b0:bnd Y2 a0) (b1:bnd XG a1):Xn a0 a1=some true:=by
  unfold Xn
  obtain ⟨n,e,hle,hP⟩:=Zmp a0 1048576 (by omega) (by omega) b0
  rw [e,Bq]
  by_cases hn:n<0
  · rw [if_pos hn]
  rw [if_neg hn]
  have hs:=hP (by omega)
  have ht:=Zli a0 1048576 (by omega) (by omega) b0 n e (by omega)
  obtain ⟨n1,e1,hle1,hP1⟩:=Zmv a1 n (by omega) (by omega) b1
  rw [e1,Bq]
  by_cases hn1:n1<0
  · rw [if_pos hn1]
  rw [if_neg hn1]
  have hs1:=hP1 (by omega)
  have ht1:=Zlo a1 n (by omega) (by omega) b1 n1 e1 (by omega)
  have hcb:=ZrX a0 (by omega)
  have hcs:=ZqZ a1 (by omega)
  obtain ⟨r,c1,c2,c3⟩:=ZmT a0 a1 hs hs1
  obtain ⟨m0,hm0⟩:=Zkf a0 1 hs (by omega) (by omega)
  obtain ⟨m1,hm1⟩:=Zki a1 (1+((cnt Y2 a0:Nat):Int)) hs1 (by omega) (by omega)
  obtain ⟨m3,hm3,hm4⟩:=Zr8 r.1 c3
  have hr:sm (.sl Y5) r.1:=⟨by omega,fun x _=>YC _ (by rfl) x⟩
  have hneg:¬(1+((cnt Y2 a0:Nat):Int)+((cnt XG a1:Nat):Int))<0:=by omega
  have hneg2:¬(1+((5*r.1.length:Nat):Int))<0:=by omega
  simp only [Zmy _ hs,ZmC _ hs1,Bq,c1,c2,Zkd _ hr,Zmh _ hs,Zml _ hs1,if_true,hm0,hm1,hm3,hm4,hneg,hneg2,if_false]
end Go.Proofs.YtpiemlnhjobopaaGreatDoor
