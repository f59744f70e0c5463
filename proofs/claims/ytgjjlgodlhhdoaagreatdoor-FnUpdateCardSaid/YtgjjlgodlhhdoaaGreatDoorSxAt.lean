/-
  Lists of one's own that begin within their block: what the kit says of lists that begin at a block's head, said anew.
-/
import Derived.WalkKit
namespace Go
set_option linter.unusedVariables false
set_option linter.unusedSimpArgs false
def World.Q8 (w:World) (base:Nat) (e:TypeId) (size:Nat) (v:Value) (n:Nat) (xs:List Value):Prop :=
  xs.length=n*size/\
  ((v=.slice none 0 0/\n=0)\/
   ∃ g cap cur o,v=.slice (some ⟨g,o,none⟩) n cap/\base<=g/\w.heap[g]?=some (.cells cur e (0,0))/\n<=cap/\cap<=maxLen/\o+cap*size<=cur.size/\(cur.toList.drop o).take (n*size)=xs)
section
variable {w:World} {base:Nat} {e:TypeId} {size:Nat} {v:Value} {n:Nat} {xs:List Value}
theorem World.ZwY (h:w.ownsRow base e size v n xs):w.Q8 base e size v n xs:=by
  refine ⟨h.1,?_⟩;rcases h.2 with hn | ⟨g,cap,cur,hv,hb,hg,h1,h2,h3,h4⟩
  · exact .inl hn
  · exact .inr ⟨g,cap,cur,0,hv,hb,hg,h1,h2,by omega,by simpa using h4⟩
theorem World.ZgI (w:World) (base:Nat) (e:TypeId) (size:Nat):w.Q8 base e size (.slice none 0 0) 0 []:=⟨by simp,.inl ⟨rfl,rfl⟩⟩
theorem World.Q8.lt (h:w.Q8 base e size v n xs):∀ k,v.ownBlock=some k->base<=k/\k<w.heap.size:=by
  intro k hk;rcases h.2 with ⟨rfl,_⟩ | ⟨g,cap,cur,o,rfl,hb,hg,_⟩
  · simp[Value.ownBlock] at hk
  · simp[Value.ownBlock] at hk
    subst hk;exact ⟨hb,(Array.getElem?_eq_some_iff.1 hg).1⟩
theorem World.Q8.kept {w':World} {row:Option Nat} (h:w.Q8 base e size v n xs) (hg:w.grownBy w' row) (hne:v.ownBlock=none\/v.ownBlock≠row):w'.Q8 base e size v n xs:=by
  refine ⟨h.1,?_⟩;rcases h.2 with hn | ⟨g,cap,cur,o,rfl,hb,hgg,rest⟩
  · exact .inl hn
  · refine .inr ⟨g,cap,cur,o,rfl,hb,?_,rest⟩
    rw[hg.block g (Array.getElem?_eq_some_iff.1 hgg).1 (by simpa[Value.ownBlock] using hne)];exact hgg
theorem World.Q8.Zfp (h:w.Q8 base e size v n xs) {g o l c:Nat} (hg:v=.slice (some ⟨g,o,none⟩) l c):∀ j u,xs[j]?=some u->w.cell? ((⟨g,o,none⟩:Addr).add j)=some u:=by
  intro j u hu;rcases h.2 with ⟨rfl,_⟩ | ⟨g',cap,cur,o',rfl,_,hgg,_,_,_,htake⟩
  · cases hg
  · injection hg with e1 e2 e3
    injection e1 with e1
    injection e1 with e1 e4
    subst e1;subst e4;rw[Addr.add_lit,cell_of_row w g' (o'+j) cur e (0,0) hgg];rw[<-htake,List.getElem?_take] at hu;split at hu
    · rw[List.getElem?_drop] at hu;simpa using hu
    · cases hu
end
section
variable {P:Program} (w:World)
theorem ZeO (t ty e:TypeId) (i:TypeInfo) (ht:P.underlying t=some (.slice e)) (hi:P.info? e=some i)
    (g o sLen sCap:Nat) (cur:Array Value) (hg:w.heap[g]?=some (.cells cur e (0,0)))
    (a:Addr) (m c:Nat) (news:List Value) (hl:news.length=m*i.size) (hnews:∀ j u,news[j]?=some u->w.cell? (a.add j)=some u) (h1:∀ u∈news,u.oneCell'=true)
    (hroom:sLen+m<=sCap) (hfit:o+sLen*i.size+news.length<=cur.size) :
    (Builtin.append_ #[t,t] ty #[.slice (some ⟨g,o,none⟩) sLen sCap,.slice (some a) m c]).run P w =
      .ok (.slice (some ⟨g,o,none⟩) (sLen+m) sCap) (w.setRow g (cur.toList.take (o+sLen*i.size)++news++cur.toList.drop (o+sLen*i.size+news.length)).toArray):=by
  have hf:=run_firstCells_some (P:=P) w i.size m a m c news hl hnews;have hst:=run_storeCells_at P g (o+sLen*i.size) e news 0 cur w hg (by simpa using hfit) h1;simp only[Nat.add_zero] at hst;simp[Builtin.append_,run_underlying ht,sizeOf,typeInfo,hi,Builtin.lenOf,hroom,hf,Addr.add_lit,hst]
theorem Zc8 (base:Nat) (t ty e:TypeId) (i:TypeInfo) (size:Nat) (ht:P.underlying t=some (.slice e)) (hi:P.info? e=some i)
    (v:Value) (n:Nat) (xs:List Value) (hown:w.Q8 base e size v n xs) :
    (Builtin.append_ #[t,t] ty #[v,.slice none 0 0]).run P w=.ok v w:=by
  rcases hown.2 with ⟨rfl,rfl⟩ | ⟨g,cap,cur,o,rfl,_,_,hnc,_⟩
  · simp[Builtin.append_,run_underlying ht,sizeOf,typeInfo,hi,Builtin.lenOf,Builtin.firstCells]
  · simp[Builtin.append_,run_underlying ht,sizeOf,typeInfo,hi,Builtin.lenOf,Builtin.firstCells,hnc,storeCells]
theorem Zh5 (base:Nat) (t ty e:TypeId) (i:TypeInfo) (z:Value) (size bytes:Nat) (ht:P.underlying t=some (.slice e)) (hi:P.info? e=some i) (hz:i.zero=some z)
    (hsize:i.size=size) (hby:i.bytes=bytes) (hzs:z.cells.size=size) (hsz:0<size)
    (v:Value) (n:Nat) (xs:List Value) (hown:w.Q8 base e size v n xs)
    (a:Addr) (m c:Nat) (news:List Value) (hl:news.length=m*size) (hnews:∀ j u,news[j]?=some u->w.cell? (a.add j)=some u) (h1:∀ u∈news,u.oneCell'=true)
    (h63:n+m<=maxLen) (hbytes:(n+m)*bytes<=140737488355328) (hbase:base<=w.heap.size) :
    ∃ v' w',(Builtin.append_ #[t,t] ty #[v,.slice (some a) m c]).run P w=.ok v' w'/\w'.Q8 base e size v' (n+m) (xs++news)/\w.grownBy w' v.ownBlock/\
      (v'=.slice none 0 0<->v=.slice none 0 0/\m=0):=by
  subst hsize;subst hby
  have hsmall:n+m<=9223372036854775807:=by simp only[maxLen] at h63;omega
  have hlen:(xs++news).length=(n+m)*i.size:=by rw[List.length_append,hown.1,hl,Nat.add_mul]
  have grown:∀ (old:Nat),old<n+m->∀ (row:Option Nat),
      (w.drew.alloc (.cells (xs.toArray++news.toArray++Builtin.zeroCells z.cells (grownCap w (n+m) old e-(n+m))) e)).Q8 base e i.size
        (.slice (some ⟨w.heap.size,0,none⟩) (n+m) (grownCap w (n+m) old e)) (n+m) (xs++news)/\
      w.grownBy (w.drew.alloc (.cells (xs.toArray++news.toArray++Builtin.zeroCells z.cells (grownCap w (n+m) old e-(n+m))) e)) row:=by
    intro old ho row;have hge:=grownCap_ge w (n+m) old e;have hcm:grownCap w (n+m) old e<=maxLen:=grownCap_le_maxLen w (n+m) old e h63;refine ⟨⟨hlen,.inr ⟨w.heap.size,_,_,0,rfl,hbase,heap_alloc_new w.drew _,hge,hcm,?_,?_⟩⟩,⟨rfl,rfl,rfl,by simp,λk hk _=>heap_alloc_old w.drew _ hk⟩⟩
    · simp only[Array.size_append,List.size_toArray,size_zeroCells,hzs,hown.1,hl,<-Nat.add_mul]
      rw[Nat.zero_add];exact Nat.mul_le_mul_right _ (by omega)
    · simp only[Array.toList_append,List.append_assoc,List.drop_zero]
      rw[<-List.append_assoc,<-hlen];exact List.take_left
  rcases hown.2 with ⟨rfl,rfl⟩ | ⟨g,cap,cur,o,rfl,hbg,hg,hnc,hcm,hcs,htake⟩
  · have hx:xs=[]:=List.eq_nil_of_length_eq_zero (by simpa using hown.1)
    subst hx;by_cases hm:m=0
    · subst hm
      have hn:news=[]:=List.eq_nil_of_length_eq_zero (by simpa using hl);subst hn;refine ⟨.slice none 0 0,w,?_,World.ZgI w base e i.size,⟨rfl,rfl,rfl,Nat.le_refl _,λ_ _ _=>rfl⟩,by simp⟩;simp[Builtin.append_,run_underlying ht,sizeOf,typeInfo,hi,Builtin.lenOf,Builtin.firstCells,loadCells,loadCellsFrom]
    · have hr:=run_append_nil (P:=P) w t ty e i z ht hi hz a m c news hl hnews (by omega) (by omega) (by have hb:=hbytes;simp only[Nat.zero_add] at hb;omega)
      have hgr:=grown 0 (by omega) (Value.ownBlock (.slice none 0 0));simp only[Nat.zero_add,List.nil_append,Array.empty_append] at hgr ⊢;exact ⟨_,_,hr,hgr.1,hgr.2,by simp[hm]⟩
  · by_cases hroom:n+m<=cap
    · have hmul:n*i.size+m*i.size<=cap*i.size:=by rw[<-Nat.add_mul];exact Nat.mul_le_mul_right _ hroom
      have hfit:o+n*i.size+news.length<=cur.size:=by rw[hl];omega
      have hr:=ZeO (P:=P) w t ty e i ht hi g o n cap cur hg a m c news hl hnews h1 hroom hfit;have hxl:=hown.1;refine ⟨_,_,hr,⟨hlen,.inr ⟨g,cap,_,o,rfl,hbg,setRow_heap w g cur _ e _ hg,hroom,hcm,?_,?_⟩⟩,⟨rfl,rfl,rfl,by simp,λk _ hk=>setRow_other w g k _ (λe=>hk (by simp[Value.ownBlock,e]))⟩,by simp⟩
      · simp only[List.size_toArray,List.length_append,List.length_take,List.length_drop,Array.length_toList]
        omega
      · have e1:cur.toList.take (o+n*i.size)=cur.toList.take o++xs:=by rw[List.take_add,htake]
        simp only[e1,List.append_assoc];rw[List.drop_append_of_le_length (by rw[List.length_take,Array.length_toList];omega),List.drop_eq_nil_of_le (by rw[List.length_take];omega),List.nil_append,<-List.append_assoc,<-hlen];exact List.take_left
    · have holds:∀ j u,xs[j]?=some u->w.cell? ((⟨g,o,none⟩:Addr).add j)=some u:=hown.Zfp rfl
      have hr:=run_append_grow (P:=P) w t ty e i z ht hi hz ⟨g,o,none⟩ n cap xs hown.1 holds a m c news hl hnews (by omega) (by omega) (growslice_fits (by omega) hbytes);have hgr:=grown cap (by omega) (Value.ownBlock (.slice (some ⟨g,o,none⟩) n cap));exact ⟨_,_,hr,hgr.1,hgr.2,by simp⟩
end
end Go
