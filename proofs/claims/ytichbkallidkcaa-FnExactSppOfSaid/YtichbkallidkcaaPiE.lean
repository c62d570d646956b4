/- no condition -/
import Derived.Test.YtichbkallidkcaaPiA
import Derived.Shelf.SlSortCmp.NoneTotal
set_option linter.all false
namespace Go.Pi
open Go Go.Proofs Go.Shelf Go.RowKit Go.Lib Go.Sort
variable {P:Program} {ρ:Ren} {w w':World}
theorem grow_of_like (h:Like w w' w.heap.size):∃q os',w'=grow (w.drewN q) os':=by
 refine ⟨w'.drawn-w.drawn,w'.heap.extract w.heap.size w'.heap.size,?_⟩;obtain ⟨h1,⟨h2,h2'⟩,h3,h4,h5⟩:=h;cases w;cases w';simp only [grow,World.drewN] at *;subst h1;subst h2;subst h3
 congr 1
 · apply Array.ext_getElem?
   intro k;rw [Array.getElem?_append];split
   · exact h5 k (by assumption) (by omega)
   · rw [Array.getElem?_extract];split
     · congr 1;omega
     · rw [Array.getElem?_eq_none];omega
 · omega
section
variable {α:Type} [Inhabited α] (enc:α→Value)
theorem like_sort (blk off m:Nat)(d:Array α)(os:Array Obj):Like w (sortWorld enc w blk off m d os) blk:=by
 refine ⟨rfl,⟨rfl,Nat.le_add_right _ _⟩,rfl,?_,fun b hb hne=>?_⟩
 · show w.heap.size≤((putRow enc (Sort.ahead w m) blk off d).heap++os).size;rw [Array.size_append,Go.Sort.size_putRow];exact Nat.le_add_right _ _
 · show ((putRow enc (Sort.ahead w m) blk off d).heap++os)[b]?=_
   rw [Array.getElem?_append,if_pos (by rw [Go.Sort.size_putRow];exact hb)]
   show (w.heap.modify blk _)[b]?=_
   rw [Array.getElem?_modify,if_neg (fun e=>hne e.symm)]
theorem row_sort {blk off m:Nat}{d:Array α}{os:Array Obj}{cur:Array Value}{e:TypeId}{fr:Nat×Nat}(hb:w.heap[blk]?=some (.cells cur e fr)):(sortWorld enc w blk off m d os).heap[blk]?=some (.cells (putCells enc off d cur) e fr):=by
 have hlt:blk<w.heap.size:=(Array.getElem?_eq_some_iff.1 hb).1;show ((putRow enc (Sort.ahead w m) blk off d).heap++os)[blk]?=_
 rw [Array.getElem?_append,if_pos (by rw [Go.Sort.size_putRow];exact hlt)]
 show (w.heap.modify blk _)[blk]?=_;rw [Array.getElem?_modify,if_pos rfl,hb];rfl
end
theorem putCells_get {α:Type}[Inhabited α](enc:α→Value)(off:Nat)(d:Array α)(cur:Array Value){t:Nat}(h:t<d.size)(hs:off+t<cur.size):(putCells enc off d cur)[off+t]?=some (enc d[t]!):=by
 unfold putCells
 rw [Array.getElem?_mapIdx,Array.getElem?_eq_getElem hs,Option.map_some,if_pos (by omega)]
 congr 3;omega
theorem swo_of {α:Type}{cf:α→α→Int}(h1:∀x,¬cf x x<0)(h2:∀x y z,cf x y<0→cf y z<0→cf x z<0)(h3:∀x y,x≠y→cf x y<0∨cf y x<0):SWO (ltOf cf):=by
 refine ⟨fun x=>by simp only [ltOf,decide_eq_false_iff_not];exact h1 x,fun x y z a b=>by simp only [ltOf,decide_eq_true_eq] at *;exact h2 x y z a b,fun x y z a b=>?_⟩
 simp only [ltOf,decide_eq_false_iff_not] at *;intro hc
 rcases Classical.em (x=y) with rfl|hxy
 · exact b hc
 rcases h3 x y hxy with k|k
 · exact a k
 · exact b (h2 y x z k hc)
theorem tot_of {α:Type}{cf:α→α→Int}(h3:∀x y,x≠y→cf x y<0∨cf y x<0):∀x y,(ltOf cf) x y=false→(ltOf cf) y x=false→x=y:=by
 intro x y a b;simp only [ltOf,decide_eq_false_iff_not] at *
 rcases Classical.em (x=y) with e|e
 · exact e
 · rcases h3 x y e with k|k
   · exact absurd k a
   · exact absurd k b
theorem fin_get (m t:Nat)(h:t<m+1):(List.finRange (m+1)).toArray[t]! = (⟨t,h⟩:Fin (m+1)):=by
 rw [getElem!_pos _ t (by simpa using h)];simp
theorem sortAt_1 (L:SlLaysF.n6 P ρ):SortAt P (ρ.f 6) false 1:=by
 refine ⟨fun A c fv w=>AnyF.slices_SortFunc_none { L with } A c fv w,?_⟩
 intro m enc cf g cb blk off cap w cur e' henc hone c1 c2 c3 heg hcalls hblk hfit hcells hbig
 have hds:((List.finRange (m+1)).toArray).size=m+1:=by simp
 have hblt:blk<w.heap.size:=(Array.getElem?_eq_some_iff.1 hblk).1
 let e1:Fin (m+1)→Value:=fun x=>argV false (enc x)
 have he1:∀x,enc x=[e1 x]:=fun x=>by
  obtain ⟨d,hd⟩:=List.length_eq_one_iff.1 (henc x);simp [e1,argV,hd]
 have hH:Holds e1 w blk off (List.finRange (m+1)).toArray:=by
  intro t ht;rw [hds] at ht;rw [fin_get m t ht]
  have:=hcells t ht 0 (e1 ⟨t,ht⟩) (by rw [he1];rfl)
  refine ⟨?_,?_⟩
  · simp only [World.cell?,hblk];simpa using this
  · unfold World.frozen?;rw [hblk];simp
 have hcmp:CmpLays1 P g cb e1 cf blk off (List.finRange (m+1)).toArray.size w:=fun n os dk hdk x y =>
  (hcalls _ (like_sort e1 blk off n dk os) x y).mono fun e w' ⟨he,hl⟩=>⟨he,grow_of_like hl⟩
 have:=Any.slices_SortFunc_total L e1 (fun x=>hone x _ (by rw [he1];simp)) cf (swo_of c1 c2 c3) g cb blk off cap (List.finRange (m+1)).toArray w heg hcmp hH hblt (by rw [hds];exact hbig) (tot_of c3)
 rw [hds] at this;refine this.mono ?_
 rintro e w' ⟨rfl,n,os,rfl⟩
 refine ⟨rfl,like_sort e1 blk off n _ os,_,row_sort e1 hblk,by simp [putCells],fun i hi j v hv=>?_⟩
 have hl:((List.finRange (m+1)).mergeSort fun x y=>!decide (cf y x<0)).length=m+1:=by simp
 have hi2:i<m+1:=by omega
 rw [he1] at hv
 have hj:j=0:=by
  have:=(List.getElem?_eq_some_iff.1 hv).1;simpa using this
 subst hj;simp only [List.getElem?_cons_zero,Option.some.injEq] at hv;subst hv
 have e0:off+i*1+0=off+i:=by omega
 rw [e0,putCells_get e1 off _ cur (by simpa using hi2) (by omega)]
 congr 2
 rw [getElem!_pos _ i (by simpa using hi2)]
 rfl
theorem agg_ofS {t:Nat}{d:TypeDesc}(h:P.underlying t=some d)(hd:isAggD d=false)(w:World):(isAgg t).run P w=.ok false w:=by
 simp only [Go.isAgg,Sem.run_bind,run_underlying h,Result.andThen_ok]
 cases d<;>simp [isAggD] at hd<;>simp
theorem agg_ofM {t:Nat}(h:(P.underlying t).map isAggD=some false)(w:World):(isAgg t).run P w=.ok false w:=by
 obtain ⟨d,h1,h2⟩:=Option.map_eq_some_iff.1 h;exact agg_ofS h1 h2 w
theorem size_ofS {t c:Nat}(h:(P.info? t).map (·.size)=some c)(w:World):(Go.sizeOf t).run P w=.ok c w:=by
 obtain ⟨i,hi,rfl⟩:=Option.map_eq_some_iff.1 h;simp [Go.sizeOf,typeInfo,program,hi,Sem.run]
theorem zero_ofS {t:Nat}{v:Value}(h:(P.info? t).bind (·.zero)=some v)(w:World):(zeroValue t).run P w=.ok v w:=by
 obtain ⟨i,hi,hz⟩:=Option.bind_eq_some_iff.1 h;simp [zeroValue,typeInfo,program,hi,hz,Sem.run]
theorem srtOk_1 (L:SlLaysF.n6 P ρ)(hd:(P.underlying (ρ.t 24)).map isAggD=some false)(hs:(P.info? (ρ.t 24)).map (·.size)=some 1):SortOk P (ρ.f 6) (ρ.t 22):=by
 intro e i0 zv ag hu hinfo hz hpos hagg;have he:=L.t22;rw [hu] at he
 injection he with he
 injection he with he
 subst he;obtain ⟨d,h1,h2⟩:=Option.map_eq_some_iff.1 hd;have aE:=agg_ofS (P:=P) h1 h2
 have hag:ag=false:=by
  have a:=hagg default;rw [aE default] at a
  injection a with a
  exact a.symm
 have h1s:i0.size=1:=by rw [hinfo] at hs;simpa using hs
 rw [hag,h1s];exact sortAt_1 L
end Go.Pi
