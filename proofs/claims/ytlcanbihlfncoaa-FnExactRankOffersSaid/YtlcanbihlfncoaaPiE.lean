/- no condition -/
import Derived.Test.YtlcanbihlfncoaaPiA
import Derived.Shelf.SlSortCmp.NoneTotal
import Derived.Shelf.SlGeneric
import Derived.Test.YtlcanbihlfncoaaPiB
import Derived.RangeFuncGives
import Derived.RangeFuncIn
import Derived.RangeFuncLeaves
import Derived.RangeFuncRecord
import Derived.OwnWalkIn
import Derived.TacticsInMore
import Derived.RegionIn
import Derived.LoopNIn
import Derived.LoopIn
import Derived.WalkKit
import Derived.Great.BuildSlice
import Derived.Deep.MidRow
import Derived.Shelf.AbstractIn
set_option linter.all false
namespace Go.Pi
open Go Go.Proofs Go.Shelf Go.RowKit Go.Lib Go.Sort
variable {P:Program} {ρ:Ren} {w w':World}
theorem grow_of_like (h:Like w w' w.heap.size):∃q os',w'=grow (w.drewN q) os':=by
 refine ⟨w'.drawn-w.drawn,w'.heap.extract w.heap.size w'.heap.size,?_⟩;obtain ⟨h1,⟨h2,h2'⟩,h3,h4,h5⟩:=h;cases w;cases w';simp only [grow,World.drewN] at *;subst h1;subst h2;subst h3
 congr 1
 · apply Array.ext_getElem?
   intro k;rw [Array.getElem?_append];split
   · exact h5 k (by assumption) (by omega)
   · rw [Array.getElem?_extract];split
     · congr 1;omega
     · rw [Array.getElem?_eq_none];omega
 · omega
section
variable {α:Type} [Inhabited α] (enc:α→Value)
theorem like_sort (blk off m:Nat)(d:Array α)(os:Array Obj):Like w (sortWorld enc w blk off m d os) blk:=by
 refine ⟨rfl,⟨rfl,Nat.le_add_right _ _⟩,rfl,?_,fun b hb hne=>?_⟩
 · show w.heap.size≤((putRow enc (Sort.ahead w m) blk off d).heap++os).size;rw [Array.size_append,Go.Sort.size_putRow];exact Nat.le_add_right _ _
 · show ((putRow enc (Sort.ahead w m) blk off d).heap++os)[b]?=_
   rw [Array.getElem?_append,if_pos (by rw [Go.Sort.size_putRow];exact hb)]
   show (w.heap.modify blk _)[b]?=_
   rw [Array.getElem?_modify,if_neg (fun e=>hne e.symm)]
theorem row_sort {blk off m:Nat}{d:Array α}{os:Array Obj}{cur:Array Value}{e:TypeId}{fr:Nat×Nat}(hb:w.heap[blk]?=some (.cells cur e fr)):(sortWorld enc w blk off m d os).heap[blk]?=some (.cells (putCells enc off d cur) e fr):=by
 have hlt:blk<w.heap.size:=(Array.getElem?_eq_some_iff.1 hb).1;show ((putRow enc (Sort.ahead w m) blk off d).heap++os)[blk]?=_
 rw [Array.getElem?_append,if_pos (by rw [Go.Sort.size_putRow];exact hlt)]
 show (w.heap.modify blk _)[blk]?=_;rw [Array.getElem?_modify,if_pos rfl,hb];rfl
end
theorem putCells_get {α:Type}[Inhabited α](enc:α→Value)(off:Nat)(d:Array α)(cur:Array Value){t:Nat}(h:t<d.size)(hs:off+t<cur.size):(putCells enc off d cur)[off+t]?=some (enc d[t]!):=by
 unfold putCells
 rw [Array.getElem?_mapIdx,Array.getElem?_eq_getElem hs,Option.map_some,if_pos (by omega)]
 congr 3;omega
theorem swo_of {α:Type}{cf:α→α→Int}(h1:∀x,¬cf x x<0)(h2:∀x y z,cf x y<0→cf y z<0→cf x z<0)(h3:∀x y,x≠y→cf x y<0∨cf y x<0):SWO (ltOf cf):=by
 refine ⟨fun x=>by simp only [ltOf,decide_eq_false_iff_not];exact h1 x,fun x y z a b=>by simp only [ltOf,decide_eq_true_eq] at *;exact h2 x y z a b,fun x y z a b=>?_⟩
 simp only [ltOf,decide_eq_false_iff_not] at *;intro hc
 rcases Classical.em (x=y) with rfl|hxy
 · exact b hc
 rcases h3 x y hxy with k|k
 · exact a k
 · exact b (h2 y x z k hc)
theorem tot_of {α:Type}{cf:α→α→Int}(h3:∀x y,x≠y→cf x y<0∨cf y x<0):∀x y,(ltOf cf) x y=false→(ltOf cf) y x=false→x=y:=by
 intro x y a b;simp only [ltOf,decide_eq_false_iff_not] at *
 rcases Classical.em (x=y) with e|e
 · exact e
 · rcases h3 x y e with k|k
   · exact absurd k a
   · exact absurd k b
theorem fin_get (m t:Nat)(h:t<m+1):(List.finRange (m+1)).toArray[t]! = (⟨t,h⟩:Fin (m+1)):=by
 rw [getElem!_pos _ t (by simpa using h)];simp
theorem sortAt_Q (L:SlLaysF0.n6 P ρ)(k:Nat)(hk0:0<k)(aE:∀w,(isAgg (ρ.t 24)).run P w=.ok true w)(zE:∀w,(Go.sizeOf (ρ.t 24)).run P w=.ok k w):SortAt P (ρ.f 6) true k:=by
 refine ⟨fun A c fv w=>AnyF.slices_SortFunc_none L A c fv w,?_⟩
 intro m enc cf g cb blk off cap w cur e' henc hone c1 c2 c3 heg hcalls hblk hfit hcells hbig
 have hds:((List.finRange (m+1)).toArray).size=m+1:=by simp
 have hblt:blk<w.heap.size:=(Array.getElem?_eq_some_iff.1 hblk).1
 have hH:HoldsK enc k w blk off (List.finRange (m+1)).toArray:=by
  intro t ht;rw [Go.Sort.size_flatK,hds] at ht;have hq:t / k<m+1:=(Nat.div_lt_iff_lt_mul hk0).2 ht;have hr:t % k<k:=Nat.mod_lt _ hk0
  rw [Go.Sort.get_flatK _ _ _ _ (by rw [hds];exact ht),fin_get m (t / k) hq]
  have hg:(enc ⟨t / k,hq⟩)[t % k]?=some ((enc ⟨t / k,hq⟩)[t % k]'(by rw [henc];exact hr)):=List.getElem?_eq_getElem _
  have:=hcells (t / k) hq (t % k) _ hg
  have e1:off+t / k*k+t % k=off+t:=by rw [Nat.add_assoc,Nat.mul_comm,Nat.div_add_mod]
  rw [e1] at this;refine ⟨?_,?_⟩
  · rw [getElem!_pos _ _ (by rw [henc];exact hr)]
    simp only [World.cell?,hblk];simpa using this
  · unfold World.frozen?;rw [hblk];simp
 have hcmp:CmpLays P g cb enc k cf blk off (List.finRange (m+1)).toArray.size w:=fun n os dk hdk x y =>
  (hcalls _ (like_sort id blk off n (flatK enc k dk) os) x y).mono fun e w' ⟨he,hl⟩=>⟨he,grow_of_like hl⟩
 have:=AnyQ.slices_SortFunc_total L k aE zE enc henc hone cf (swo_of c1 c2 c3) g cb blk off cap (List.finRange (m+1)).toArray w heg hcmp hH hblt (by rw [hds];exact hbig) (tot_of c3)
 rw [hds] at this;refine this.mono ?_
 rintro e w' ⟨rfl,n,os,rfl⟩
 refine ⟨rfl,like_sort id blk off n (flatK enc k _) os,_,row_sort id hblk,by simp [putCells],fun i hi j v hv=>?_⟩
 have hj:j<k:=by
  have:=(List.getElem?_eq_some_iff.1 hv).1;rwa [henc] at this
 have hl:((List.finRange (m+1)).mergeSort fun x y=>!decide (cf y x<0)).length=m+1:=by simp
 have hlt:i*k+j<(m+1)*k:=by
  have:(i+1)*k≤(m+1)*k:=Nat.mul_le_mul_right _ (by omega)
  rw [Nat.add_mul,Nat.one_mul] at this;omega
 rw [Nat.add_assoc,putCells_get id off _ cur (by rw [Go.Sort.size_flatK];simpa using hlt) (by omega),Go.Sort.get_flatK _ _ _ _ (by simpa using hlt)]
 have e1:(i*k+j) / k=i:=by rw [Nat.mul_comm,Nat.mul_add_div hk0,Nat.div_eq_of_lt hj];rfl
 have e2:(i*k+j) % k=j:=by rw [Nat.mul_comm,Nat.mul_add_mod,Nat.mod_eq_of_lt hj]
 rw [e1,e2]
 have hi2:i<m+1:=by omega
 have e3:(((List.finRange (m+1)).toArray.toList.mergeSort fun x y=>!ltOf cf y x).toArray)[i]! = ((List.finRange (m+1)).mergeSort fun x y=>!decide (cf y x<0))[i]:=by
  rw [getElem!_pos _ i (by simpa using hi2)]
  rfl
 rw [e3];obtain ⟨h1,h2⟩:=List.getElem?_eq_some_iff.1 hv;rw [getElem!_pos _ j h1,h2];rfl
theorem agg_ofS {t:Nat}{d:TypeDesc}(h:P.underlying t=some d)(hd:isAggD d=false)(w:World):(isAgg t).run P w=.ok false w:=by
 simp only [Go.isAgg,Sem.run_bind,run_underlying h,Result.andThen_ok]
 cases d<;>simp [isAggD] at hd<;>simp
theorem agg_ofT {t:Nat}{d:TypeDesc}(h:P.underlying t=some d)(hd:isAggD d=true)(w:World):(isAgg t).run P w=.ok true w:=by
 simp only [Go.isAgg,Sem.run_bind,run_underlying h,Result.andThen_ok]
 cases d<;>simp [isAggD] at hd<;>simp
theorem agg_ofM {t:Nat}(h:(P.underlying t).map isAggD=some false)(w:World):(isAgg t).run P w=.ok false w:=by
 obtain ⟨d,h1,h2⟩:=Option.map_eq_some_iff.1 h;exact agg_ofS h1 h2 w
theorem size_ofS {t c:Nat}(h:(P.info? t).map (·.size)=some c)(w:World):(Go.sizeOf t).run P w=.ok c w:=by
 obtain ⟨i,hi,rfl⟩:=Option.map_eq_some_iff.1 h;simp [Go.sizeOf,typeInfo,program,hi,Sem.run]
theorem zero_ofS {t:Nat}{v:Value}(h:(P.info? t).bind (·.zero)=some v)(w:World):(zeroValue t).run P w=.ok v w:=by
 obtain ⟨i,hi,hz⟩:=Option.bind_eq_some_iff.1 h;simp [zeroValue,typeInfo,program,hi,hz,Sem.run]
theorem srtOk_Q (L:SlLaysF0.n6 P ρ)(hd:(P.underlying (ρ.t 24)).map isAggD=some true):SortOk P (ρ.f 6) (ρ.t 22):=by
 intro e i0 zv ag hu hinfo hz hpos hagg;have he:=L.t22;rw [hu] at he
 injection he with he
 injection he with he
 subst he;obtain ⟨d,h1,h2⟩:=Option.map_eq_some_iff.1 hd;have aE:=agg_ofT (P:=P) h1 h2
 have hag:ag=true:=by
  have a:=hagg default;rw [aE default] at a
  injection a with a
  exact a.symm
 rw [hag]
 exact sortAt_Q L i0.size hpos aE (size_ofS (by rw [hinfo];rfl))
end Go.Pi

namespace Go.Pi
open Go Go.Proofs Go.Shelf Go.RowKit
def ColB.n1 (ρ : Ren) : Go.Func := { name := "", origin := "", params := #[(ρ.t 6)], resultTypes := #[], nfree := 1, ntmps := 16, results := #[], body := some ((Go.Code.region 0 #[{ dst := some 5, op := Go.Op.load (ρ.t 2) (Go.Operand.tmp 1), type := (ρ.t 2), pos := "iter.go:39", after := #[], guard := none }, { dst := some 6, op := Go.Op.call { callee := Go.Callee.builtin Go.Builtin.len, args := #[Go.Operand.tmp 5], argTypes := #[(ρ.t 2)] }, type := (ρ.t 3), pos := "iter.go:39", after := #[{ on := 0, ground := Go.Ground.data }], guard := none }, { dst := some 7, op := Go.Op.move (Go.Operand.const (Go.Value.int Go.IntKind.i64 0)), type := (ρ.t 3), pos := "iter.go:39", after := #[], guard := none }] false).seq (Go.Code.block 0 ((Go.Code.region 1 #[{ dst := some 8, op := Go.Op.binOp Go.BinOp.lss (ρ.t 3) (Go.Operand.tmp 7) (Go.Operand.tmp 6) (ρ.t 3), type := (ρ.t 0), pos := "iter.go:39", after := #[], guard := none }] false).seq ((Go.Code.cond (Go.Operand.tmp 8) Go.Code.skip (Go.Code.exit 0)).seq ((Go.Code.block 1 ((Go.Code.region 2 #[{ dst := some 9, op := Go.Op.indexAddr (ρ.t 2) (Go.Operand.tmp 5) (Go.Operand.tmp 7), type := (ρ.t 0), pos := "iter.go:39", after := #[], guard := none }, { dst := some 10, op := Go.Op.load (ρ.t 1) (Go.Operand.tmp 9), type := (ρ.t 1), pos := "iter.go:39", after := #[{ on := 0, ground := Go.Ground.data }], guard := none }, { dst := some 4, op := Go.Op.alloc (ρ.t 1), type := (ρ.t 0), pos := "iter.go:39", after := #[], guard := none }, { dst := none, op := Go.Op.store (ρ.t 1) (Go.Operand.tmp 4) (Go.Operand.tmp 10), type := (ρ.t 0), pos := "iter.go:39", after := #[{ on := 2, ground := Go.Ground.data }, { on := 1, ground := Go.Ground.data }, { on := 0, ground := Go.Ground.phase }, { on := 1, ground := Go.Ground.phase }, { on := 2, ground := Go.Ground.phase }], guard := none }] false).seq ((Go.Code.region 3 #[{ dst := some 11, op := Go.Op.move (Go.Operand.tmp 0), type := (ρ.t 6), pos := "iter.go:40", after := #[], guard := none }, { dst := some 12, op := Go.Op.load (ρ.t 1) (Go.Operand.tmp 4), type := (ρ.t 1), pos := "iter.go:40", after := #[], guard := none }, { dst := some 13, op := Go.Op.call { callee := Go.Callee.value (Go.Operand.tmp 11), args := #[Go.Operand.tmp 12], argTypes := #[(ρ.t 1)] }, type := (ρ.t 4), pos := "iter.go:40", after := #[{ on := 0, ground := Go.Ground.data }, { on := 1, ground := Go.Ground.data }], guard := none }, { dst := some 14, op := Go.Op.unOp Go.UnOp.not (ρ.t 4) (Go.Operand.tmp 13), type := (ρ.t 4), pos := "iter.go:40", after := #[{ on := 2, ground := Go.Ground.data }], guard := none }] false).seq (Go.Code.cond (Go.Operand.tmp 14) Go.Code.ret Go.Code.skip)))).seq (Go.Code.region 4 #[{ dst := some 15, op := Go.Op.binOp Go.BinOp.add (ρ.t 3) (Go.Operand.tmp 7) (Go.Operand.const (Go.Value.int Go.IntKind.i64 1)) (ρ.t 3), type := (ρ.t 3), pos := "iter.go:39", after := #[], guard := none }, { dst := some 7, op := Go.Op.move (Go.Operand.tmp 15), type := (ρ.t 3), pos := "iter.go:39", after := #[{ on := 0, ground := Go.Ground.data }], guard := none }] false)))).loop)), norace := false, file := "slices/iter.go", endLine := 44, tmpNames := #["yield", "", "yield", "_", "v", "", "", "", "", "", "", "", "", "", "", ""] }
@[simp,go_sem] theorem ColB.n1_ntmps (ρ:Ren):(ColB.n1 ρ).ntmps=16:=rfl
def ColB.n2 (ρ : Ren) : Go.Func := { name := "", origin := "slices.AppendSeq", targs := #[(ρ.t 2), (ρ.t 1)], params := #[(ρ.t 2), (ρ.t 5)], resultTypes := #[(ρ.t 2)], nfree := 0, ntmps := 13, results := #[Go.ResultVar.tmp 4], body := some ((Go.Code.region 0 #[{ dst := some 2, op := Go.Op.box (ρ.t 2) (Go.Operand.tmp 0), type := (ρ.t 0), pos := "iter.go:50", after := #[], guard := none }, { dst := some 4, op := Go.Op.assign (Go.Operand.const (Go.Value.slice none 0 0)), type := (ρ.t 2), pos := "iter.go:50", after := #[], guard := none }] false).seq (((Go.Code.region 1 #[{ dst := some 6, op := Go.Op.move (Go.Operand.tmp 1), type := (ρ.t 5), pos := "iter.go:51", after := #[], guard := none }] false).seq (Go.Code.block 0 (Go.Code.rangeFunc (Go.Operand.tmp 6) #[7] (Go.Code.region 2 #[{ dst := some 5, op := Go.Op.alloc (ρ.t 1), type := (ρ.t 0), pos := "iter.go:51", after := #[], guard := none }, { dst := none, op := Go.Op.store (ρ.t 1) (Go.Operand.tmp 5) (Go.Operand.tmp 7), type := (ρ.t 0), pos := "iter.go:51", after := #[{ on := 0, ground := Go.Ground.data }, { on := 0, ground := Go.Ground.phase }], guard := none }] false) (Go.Code.block 1 (Go.Code.region 3 #[{ dst := some 8, op := Go.Op.load (ρ.t 2) (Go.Operand.tmp 2), type := (ρ.t 2), pos := "iter.go:52", after := #[], guard := none }, { dst := some 9, op := Go.Op.load (ρ.t 1) (Go.Operand.tmp 5), type := (ρ.t 1), pos := "iter.go:52", after := #[], guard := none }, { dst := some 10, op := Go.Op.buildSlice (ρ.t 2) 1 #[(0, Go.Operand.tmp 9)], type := (ρ.t 2), pos := "iter.go:52", after := #[{ on := 1, ground := Go.Ground.data }], guard := none }, { dst := some 11, op := Go.Op.call { callee := Go.Callee.builtin Go.Builtin.append, args := #[Go.Operand.tmp 8, Go.Operand.tmp 10], argTypes := #[(ρ.t 2), (ρ.t 2)] }, type := (ρ.t 2), pos := "iter.go:52", after := #[{ on := 0, ground := Go.Ground.data }, { on := 2, ground := Go.Ground.data }], guard := none }, { dst := none, op := Go.Op.store (ρ.t 2) (Go.Operand.tmp 2) (Go.Operand.tmp 11), type := (ρ.t 0), pos := "iter.go:52", after := #[{ on := 3, ground := Go.Ground.data }, { on := 3, ground := Go.Ground.chain }, { on := 0, ground := Go.Ground.phase }, { on := 1, ground := Go.Ground.phase }, { on := 2, ground := Go.Ground.phase }, { on := 3, ground := Go.Ground.phase }], guard := none }] false))))).seq ((Go.Code.region 4 #[{ dst := some 12, op := Go.Op.load (ρ.t 2) (Go.Operand.tmp 2), type := (ρ.t 2), pos := "iter.go:54", after := #[], guard := none }, { dst := some 4, op := Go.Op.assign (Go.Operand.tmp 12), type := (ρ.t 2), pos := "iter.go:54", after := #[{ on := 0, ground := Go.Ground.data }, { on := 0, ground := Go.Ground.phase }], guard := none }] false).seq Go.Code.ret))), norace := false, file := "slices/iter.go", endLine := 55, tmpNames := #["s", "seq", "s", "seq", "", "v", "", "", "", "", "", "", ""] }
@[simp,go_sem] theorem ColB.n2_ntmps (ρ:Ren):(ColB.n2 ρ).ntmps=13:=rfl
def ColB.n3 (ρ : Ren) : Go.Func := { name := "", origin := "slices.Collect", targs := #[(ρ.t 1)], params := #[(ρ.t 5)], resultTypes := #[(ρ.t 2)], nfree := 0, ntmps := 5, results := #[Go.ResultVar.tmp 2], body := some ((Go.Code.region 0 #[{ dst := some 2, op := Go.Op.assign (Go.Operand.const (Go.Value.slice none 0 0)), type := (ρ.t 2), pos := "iter.go:59", after := #[], guard := none }] false).seq ((Go.Code.region 1 #[{ dst := some 3, op := Go.Op.move (Go.Operand.tmp 0), type := (ρ.t 5), pos := "iter.go:60", after := #[], guard := none }, { dst := some 4, op := Go.Op.call { callee := Go.Callee.value (Go.Operand.func (ρ.f 2)), args := #[Go.Operand.const (Go.Value.slice none 0 0), Go.Operand.tmp 3], argTypes := #[(ρ.t 2), (ρ.t 5)] }, type := (ρ.t 2), pos := "iter.go:60", after := #[{ on := 0, ground := Go.Ground.data }], guard := none }, { dst := some 2, op := Go.Op.assign (Go.Operand.tmp 4), type := (ρ.t 2), pos := "iter.go:60", after := #[{ on := 1, ground := Go.Ground.data }, { on := 1, ground := Go.Ground.chain }, { on := 0, ground := Go.Ground.phase }, { on := 1, ground := Go.Ground.phase }], guard := none }] false).seq Go.Code.ret)), norace := false, file := "slices/iter.go", endLine := 61, tmpNames := #["seq", "seq", "", "", ""] }
@[simp,go_sem] theorem ColB.n3_ntmps (ρ:Ren):(ColB.n3 ρ).ntmps=5:=rfl
def ColB.n4 (ρ : Ren) : Go.Func := { name := "", origin := "slices.Values", targs := #[(ρ.t 2), (ρ.t 1)], params := #[(ρ.t 2)], resultTypes := #[(ρ.t 5)], nfree := 0, ntmps := 4, results := #[Go.ResultVar.tmp 2], body := some ((Go.Code.region 0 #[{ dst := some 1, op := Go.Op.box (ρ.t 2) (Go.Operand.tmp 0), type := (ρ.t 0), pos := "iter.go:37", after := #[], guard := none }, { dst := some 2, op := Go.Op.assign (Go.Operand.const Go.Value.nilFunc), type := (ρ.t 5), pos := "iter.go:37", after := #[], guard := none }] false).seq ((Go.Code.region 1 #[{ dst := some 3, op := Go.Op.makeFunc (Go.Fn.func (ρ.f 1)) #[] #[Go.Operand.tmp 1], type := (ρ.t 7), pos := "iter.go:38", after := #[], guard := none }, { dst := some 2, op := Go.Op.assign (Go.Operand.tmp 3), type := (ρ.t 5), pos := "iter.go:38", after := #[{ on := 0, ground := Go.Ground.data }, { on := 0, ground := Go.Ground.phase }], guard := none }] false).seq Go.Code.ret)), norace := false, file := "slices/iter.go", endLine := 45, tmpNames := #["s", "s", "", ""] }
@[simp,go_sem] theorem ColB.n4_ntmps (ρ:Ren):(ColB.n4 ρ).ntmps=4:=rfl
def ColB.asg (ρ : Ren) : Go.Code := (Go.Code.region 2 #[{ dst := some 5, op := Go.Op.alloc (ρ.t 1), type := (ρ.t 0), pos := "iter.go:51", after := #[], guard := none }, { dst := none, op := Go.Op.store (ρ.t 1) (Go.Operand.tmp 5) (Go.Operand.tmp 7), type := (ρ.t 0), pos := "iter.go:51", after := #[{ on := 0, ground := Go.Ground.data }, { on := 0, ground := Go.Ground.phase }], guard := none }] false)
def ColB.bdy (ρ : Ren) : Go.Code := (Go.Code.block 1 (Go.Code.region 3 #[{ dst := some 8, op := Go.Op.load (ρ.t 2) (Go.Operand.tmp 2), type := (ρ.t 2), pos := "iter.go:52", after := #[], guard := none }, { dst := some 9, op := Go.Op.load (ρ.t 1) (Go.Operand.tmp 5), type := (ρ.t 1), pos := "iter.go:52", after := #[], guard := none }, { dst := some 10, op := Go.Op.buildSlice (ρ.t 2) 1 #[(0, Go.Operand.tmp 9)], type := (ρ.t 2), pos := "iter.go:52", after := #[{ on := 1, ground := Go.Ground.data }], guard := none }, { dst := some 11, op := Go.Op.call { callee := Go.Callee.builtin Go.Builtin.append, args := #[Go.Operand.tmp 8, Go.Operand.tmp 10], argTypes := #[(ρ.t 2), (ρ.t 2)] }, type := (ρ.t 2), pos := "iter.go:52", after := #[{ on := 0, ground := Go.Ground.data }, { on := 2, ground := Go.Ground.data }], guard := none }, { dst := none, op := Go.Op.store (ρ.t 2) (Go.Operand.tmp 2) (Go.Operand.tmp 11), type := (ρ.t 0), pos := "iter.go:52", after := #[{ on := 3, ground := Go.Ground.data }, { on := 3, ground := Go.Ground.chain }, { on := 0, ground := Go.Ground.phase }, { on := 1, ground := Go.Ground.phase }, { on := 2, ground := Go.Ground.phase }, { on := 3, ground := Go.Ground.phase }], guard := none }] false))
end Go.Pi

namespace Go.Pi
open Go Go.Proofs Go.Shelf Go.RowKit Go.Lib
set_option linter.all false
variable {P:Program} {ρ:Ren} {w w':World}
section ops
variable {F:Fence} {n:Nat} {ops:Array Oper} {rest:List Oper} {o:Oper} {a:Act} {Q:Exit→Act→World→Prop}
theorem wI_load (hg:o.guard=none)(t:TypeId)(x:Operand)(hop:o.op=.load t x)(v:Value)(hr:(Instr.loadAt t (a.eval x)).run P w=.ok v w)(hK:wpListIn F n P ops Q rest (a.put o.dst v) w):wpListIn F n P ops Q (o::rest) a w:=by
 refine wpListIn_plain hg fun K hK'=>?_
 unfold Oper.wpIn
 refine ⟨by simp [Oper.about,hop],?_⟩
 rw [Oper.semAt_plain F _ _ (by rw [hop];intro c hc;cases hc)]
 simp [execOp,hop,hr,Result.andThen];exact hK' _ _ hK
theorem wI_store (hg:o.guard=none)(t:TypeId)(x y:Operand)(hop:o.op=.store t x y)(w':World)(hr:(Instr.storeAt t (a.eval x) (a.eval y)).run P w=.ok () w')(hK:wpListIn F n P ops Q rest (a.put o.dst Go.undef) w'):wpListIn F n P ops Q (o::rest) a w:=by
 refine wpListIn_plain hg fun K hK'=>?_
 unfold Oper.wpIn
 refine ⟨by simp [Oper.about,hop],?_⟩
 rw [Oper.semAt_plain F _ _ (by rw [hop];intro c hc;cases hc)]
 simp [execOp,hop,hr,Result.andThen];exact hK' _ _ hK
theorem wI_alloc (hg:o.guard=none)(t:TypeId)(hop:o.op=.alloc t)(zv:Value)(hz:∀w,(zeroValue t).run P w=.ok zv w)(hK:wpListIn F n P ops Q rest (a.put o.dst (.pointer (some ⟨w.heap.size,0,none⟩))) (w.alloc (.cells zv.cells t))):wpListIn F n P ops Q (o::rest) a w:=by
 refine wpListIn_plain hg fun K hK'=>?_
 unfold Oper.wpIn
 refine ⟨by simp [Oper.about,hop],?_⟩
 rw [Oper.semAt_plain F _ _ (by rw [hop];intro c hc;cases hc)]
 have hal:(execOp a.eval o).run P w=.ok (.value (.pointer (some ⟨w.heap.size,0,none⟩))) (w.alloc (.cells zv.cells t)):=by
  simp only [execOp,hop,Instr.alloc,Sem.run_bind,hz,Result.andThen_ok,newVar,newRow,run_newObj_alloc,Sem.run_pure]
 rw [hal];exact hK' _ _ hK
theorem wI_build1 (hg:o.guard=none)(t:TypeId)(x:Operand)(hop:o.op=.buildSlice t 1 #[(0,x)])(u:Value)(hx:a.eval x=u)(v:Value)(w':World)(hr:(Instr.buildSlice t 1 #[(0,u)]).run P w=.ok v w')(hK:wpListIn F n P ops Q rest (a.put o.dst v) w'):wpListIn F n P ops Q (o::rest) a w:=by
 refine wpListIn_plain hg fun K hK'=>?_
 unfold Oper.wpIn
 refine ⟨by simp [Oper.about,hop],?_⟩
 rw [Oper.semAt_plain F _ _ (by rw [hop];intro c hc;cases hc)]
 have hal:(execOp a.eval o).run P w=.ok (.value v) w':=by
  simp only [execOp,hop,List.map_toArray,List.map_cons,List.map_nil,hx,Sem.run_bind,hr,Result.andThen_ok,Sem.run_pure]
 rw [hal];exact hK' _ _ hK
end ops
theorem agg_ofC {t:Nat}{d:TypeDesc}(h:P.underlying t=some d)(hd:isAggD d=false)(w:World):(isAgg t).run P w=.ok false w:=by
 simp only [Go.isAgg,Sem.run_bind,run_underlying h,Result.andThen_ok]
 cases d<;>simp [isAggD] at hd<;>simp
structure ColOf (P:Program) (ρ:Ren):Prop where
 mixed:P.follows .mixedOrders=true
 f1:Bears P (ρ.f 1) (ColB.n1 ρ)
 f2:Bears P (ρ.f 2) (ColB.n2 ρ)
 f3:Bears P (ρ.f 3) (ColB.n3 ρ)
 t0:P.underlying (ρ.t 0)=some (TypeDesc.tuple #[])
 t3:P.underlying (ρ.t 3)=some (TypeDesc.int IntKind.i64)
 t4:P.underlying (ρ.t 4)=some (TypeDesc.bool)
 t2:P.underlying (ρ.t 2)=some (TypeDesc.slice (ρ.t 1))
 z2:∀w,(Go.sizeOf (ρ.t 2)).run P w=.ok 1 w
structure ColE (P:Program) (e:TypeId) (i0:TypeInfo) (zv:Value):Prop where
 info:P.info? e=some i0
 zero:i0.zero=some zv
 zsize:zv.cells.size=i0.size
 pos:0<i0.size
 agg:∀w,(isAgg e).run P w=.ok true w
theorem ColE.zv0 {e:TypeId}{i0:TypeInfo}{zv:Value}(h:ColE P e i0 zv)(w:World):(zeroValue e).run P w=.ok zv w:=by simp [zeroValue,typeInfo,program,h.info,h.zero,Sem.run]
theorem ColE.load {e:TypeId}{i0:TypeInfo}{zv:Value}(h:ColE P e i0 zv){w:World}{b o:Nat}{cs:List Value}(hc:w.rangeAt b o cs)(hl:cs.length=i0.size) :
    (Instr.loadAt e (.pointer (some ⟨b,o,none⟩))).run P w=.ok (.agg cs.toArray) w:=by
 have e:=run_loadCells_list (P:=P) w ⟨b,o,none⟩ cs (fun j v hv=>by rw [Addr_add];exact hc j v hv)
 simp only [Instr.loadAt,Instr.sureAddr,Sem.run_bind,Sem.run_pure,Result.andThen_ok,loadVar,h.agg,if_true,sizeOf,typeInfo,program,h.info,Sem.run,←hl];simp [←hl,e]
theorem ColE.store {e:TypeId}{i0:TypeInfo}{zv:Value}(h:ColE P e i0 zv){w:World}{b:Nat}{cur:Array Value}{cs:List Value}{t:TypeId}(hb:w.heap[b]?=some (.cells cur t (0,0)))(hcur:cur.size=i0.size)(hl:cs.length=i0.size)(h1:∀v∈cs,v.oneCell'=true) :
    (Instr.storeAt e (.pointer (some ⟨b,0,none⟩)) (.agg cs.toArray)).run P w=.ok () (w.setRow b cs.toArray):=by
 have hst:=run_storeCells_at P b 0 t cs 0 cur w hb (by simp;omega) h1
 simp only [Nat.add_zero,Nat.zero_add] at hst;simp only [Instr.storeAt,Instr.sureAddr,Sem.run_bind,Sem.run_pure,Result.andThen_ok,storeVar,sizeOf,typeInfo,program,h.info,Sem.run,Value.cells]
 have hd:List.drop i0.size cur.toList=[]:=by rw [List.drop_eq_nil_iff];simp [hcur]
 simp [hl,hst,hcur,hd]
set_option maxRecDepth 100000 in
set_option maxHeartbeats 2000000 in
theorem val_in (L:ColOf P ρ){i0:TypeInfo}{zv:Value}(E:ColE P (ρ.t 1) i0 zv)(n:Nat)(hn:1≤n)(l:Nat)(p:Addr)(b off m c:Nat)(A:Option Addr)(hA:0<m→A=some ⟨b,off,none⟩)(xs:Nat→List Value)
    (hl:∀i,i<m→(xs i).length=i0.size) (h1:∀i,i<m→∀v∈xs i,v.oneCell'=true) (w0:World) (J:Nat→World→Prop)
    (hB:∀i W,J i W→Below w0.heap.size w0 W) (hG:∀i W W',J i W→W.grownBy W' none→W.drawn≤W'.drawn→J i W')
    (hY:∀i W,i<m→J i W→YieldAt Fence.wide (n-1) P l #[.agg (xs i).toArray] W fun e W'=>e=.returned (.bool true)∧J (i+1) W')
    (hp:w0.cell? p=some (.slice A m c)) (hpl:p.block<w0.heap.size) (hx:∀i,i<m→w0.rangeAt b (off+i*i0.size) (xs i)) (hbl:0<m→b<w0.heap.size) (hm:m≤maxLen)
    (W:World) (h0:J 0 W) :
    CallsIn Fence.wide n P (ρ.f 1) #[.func (.yield l) #[] #[],.pointer (some p)] W fun e W'=>(∃v,e=.returned v)∧J m W':=by
 have t0:=L.t0;have a0:=agg_ofC (P:=P) L.t0 rfl;have t3:=L.t3;have a3:=agg_ofC (P:=P) L.t3 rfl;have t4:=L.t4;have a4:=agg_ofC (P:=P) L.t4 rfl;have t2:=L.t2;have z2:=L.z2;have a2:=agg_ofC (P:=P) t2 rfl;have u0:=run_underlying L.t0;have u3:=run_underlying L.t3;have u4:=run_underlying L.t4;have u2:=run_underlying t2;have mixed:=L.mixed
 have zsz:∀w,(Go.sizeOf (ρ.t 1)).run P w=.ok i0.size w:=fun w=>by simp [sizeOf,typeInfo,program,E.info,Sem.run]
 have hpW:W.cell? p=some (.slice A m c):=((hB 0 W h0).cell hpl).trans hp;obtain ⟨_,_,FG⟩:=L.f1
 refine callsIn_of_wp FG rfl (by trivial) ?_ rfl
 simp only [ColB.n1_ntmps ρ,List.size_toArray,List.length_cons,List.length_nil,Nat.reduceAdd,Nat.reduceSub,Array.replicate_succ,Array.replicate_zero,List.push_toArray,List.append_toArray,List.nil_append,List.cons_append]
 gi_wp2
 gi_loopw [7] (fun v7 wr=>∃i:Nat,v7=.int .i64 (i:Int)∧i≤m∧J i wr) (fun v7 _=>m-(match v7 with | .int _ x=>x.toNat | _=>0))
 case atStart =>
  exact ⟨0,rfl,Nat.zero_le _,h0⟩
 case round =>
  obtain ⟨i,rfl,him,hJ⟩:=hrel
  by_cases hlt:i<m
  · have hlt':(i:Int)<(m:Int):=by omega
    obtain rfl:=hA (by omega)
    have hw:wrap64 ((i:Int)+1)=(i:Int)+1:=by simp only [maxLen] at hm;unfold wrap64;omega
    have hx':wr.rangeAt b (off+i*i0.size) (xs i):=fun j v hv=>((hB i wr hJ).cell (hbl (by omega))).trans (hx i hlt j v hv)
    have hix:(Instr.indexAt (ρ.t 2) (.slice (some ⟨b,off,none⟩) m c) (.int .i64 (i:Int))).run P wr=.ok (.pointer (some ⟨b,off+i*i0.size,none⟩)) wr:=by
     simp only [Instr.indexAt,Sem.run_bind,asIntOf,Sem.run_pure,Result.andThen_ok,run_underlying t2,hlt',Int.natCast_nonneg,and_self,if_true,zsz,Addr_add,Int.toNat_natCast]
    have hld1:=E.load hx' (hl i hlt);obtain ⟨W2,hW2⟩:∃W2,W2=(wr.alloc (.cells zv.cells (ρ.t 1))).setRow wr.heap.size (xs i).toArray:=⟨_,rfl⟩
    have hst:(Instr.storeAt (ρ.t 1) (.pointer (some ⟨wr.heap.size,0,none⟩)) (.agg (xs i).toArray)).run P (wr.alloc (.cells zv.cells (ρ.t 1)))=.ok () W2:=by
     rw [hW2];exact E.store (cur:=zv.cells) (World.alloc_heap_new wr _) E.zsize (hl i hlt) (h1 i hlt)
    have hr2:W2.rangeAt wr.heap.size 0 (xs i):=by
     intro j v hv
     have:W2.heap[wr.heap.size]?=some (.cells (xs i).toArray (ρ.t 1) (0,0)):=by rw [hW2];exact setRow_heap (wr.alloc _) wr.heap.size zv.cells _ (ρ.t 1) (0,0) (World.alloc_heap_new wr _)
     simp only [World.cell?,this];simp [hv]
    have hg2:wr.grownBy W2 none:=by
     rw [hW2]
     refine ⟨rfl,rfl,rfl,by simp [World.setRow],fun k hk _=>?_⟩
     have hne:wr.heap.size≠k:=by omega
     show ((wr.alloc _).heap.modify _ _)[k]?=_;rw [Array.getElem?_modify,if_neg hne];exact Below.heap_alloc wr _ k hk
    have hld2:=E.load hr2 (hl i hlt)
    obtain ⟨fn,tm,asg,bd,hy,hR⟩:=hY i W2 hlt (hG i wr W2 hJ hg2 (by rw [hW2];exact Nat.le_refl _))
    clear hW2 hx' hr2 hg2
    gi_wp2_with (first
     | (refine wI_load rfl (ρ.t 1) _ rfl _ hld1 ?_)
     | (refine wI_load rfl (ρ.t 1) _ rfl _ hld2 ?_)
     | (refine wI_alloc rfl (ρ.t 1) rfl zv E.zv0 ?_)
     | (refine wI_store rfl (ρ.t 1) _ _ rfl W2 hst ?_))
    refine hR.mono ?_
    rintro e W3 ⟨rfl,hJ3⟩
    gi_wp2
    go_roundw
    case rel=>exact ⟨i+1,by simp [hw],hlt,hJ3⟩
    case measure=>simp [hw];omega
  · have hlt':¬(i:Int)<(m:Int):=by omega
    obtain rfl:i=m:=by omega
    gi_wp2
    go_end0
    exact ⟨⟨_,rfl⟩,hJ⟩
theorem append_drawn {w:World}{base:Nat}{t ty e:TypeId}{i:TypeInfo}{z:Value}(ht:P.underlying t=some (.slice e))(hi:P.info? e=some i)(hz:i.zero=some z)
    {v:Value} {n:Nat} {xs:List Value} (hown:w.ownsRow base e i.size v n xs) {a:Addr} {m c:Nat} {news:List Value} (hm:0<m) (hl:news.length=m*i.size) (hnews:∀j u,news[j]?=some u→w.cell? (a.add j)=some u) (h1:∀u∈news,u.oneCell'=true)
    (h63:n+m≤maxLen) (hbytes:(n+m)*i.bytes≤140737488355328) {v':Value} {w':World} (hrun:(Builtin.append_ #[t,t] ty #[v,.slice (some a) m c]).run P w=.ok v' w'):w.drawn≤w'.drawn:=by
 have hsmall:n+m≤9223372036854775807:=by simp only [maxLen] at h63;omega
 rcases hown.2 with ⟨rfl,rfl⟩|⟨g,cap,cur,rfl,hbg,hg,hnc,hcm,hcs,htake⟩
 · have hr:=run_append_nil (P:=P) w t ty e i z ht hi hz a m c news hl hnews hm (by omega) (by simp only [Nat.zero_add] at hbytes;omega)
   rw [hrun] at hr
   injection hr with _ e'
   rw [e'];exact Nat.le_succ _
 · by_cases hroom:n+m≤cap
   · have hfit:n*i.size+news.length≤cur.size:=by rw [hl,hcs,←Nat.add_mul];exact Nat.mul_le_mul_right _ hroom
     have hr:=run_append_room (P:=P) w t ty e i ht hi g n cap cur hg a m c news hl hnews h1 hroom hfit;rw [hrun] at hr
     injection hr with _ e'
     rw [e'];exact Nat.le_refl _
   · have hold : ∀ j u, xs[j]? = some u → w.cell? ((⟨g, 0, none⟩ : Addr).add j) = some u := by
       intro j u hu;have hj:j<xs.length:=(List.getElem?_eq_some_iff.1 hu).1
       have:cur[j]?=some u:=by
        rw [←Array.getElem?_toList,←hu,←htake,List.getElem?_take,if_pos (by rw [hown.1] at hj;exact hj)]
       simp only [Addr_add,World.cell?,hg];simpa using this
     have hr:=run_append_grow (P:=P) w t ty e i z ht hi hz ⟨g,0,none⟩ n cap xs hown.1 hold a m c news hl hnews (by omega) (by omega) (growslice_fits (by omega) hbytes)
     rw [hrun] at hr
     injection hr with _ e'
     rw [e'];exact Nat.le_succ _
theorem wI_append {F:Fence}{n:Nat}(w:World){ops:Array Oper}{rest:List Oper}{o:Oper}{a:Act}{Q:Exit→Act→World→Prop}
    (hg:o.guard=none) (s x:Operand) (t:TypeId) (hop:o.op=Op.call { callee:=Callee.builtin Builtin.append,args:=#[s,x],argTypes:=#[t,t] })
    (base:Nat) (e:TypeId) (i:TypeInfo) (z:Value) (h1:P.underlying t=some (.slice e)) (h2:P.info? e=some i) (h3:i.zero=some z) (h6:z.cells.size=i.size) (h7:0<i.size)
    (v:Value) (k:Nat) (xs:List Value) (hs:a.eval s=v) (hown:w.ownsRow base e i.size v k xs) (ad:Addr) (m c:Nat) (news:List Value) (hx:a.eval x=.slice (some ad) m c) (hm:0<m) (hn:news.length=m*i.size)
    (hc:∀j u,news[j]?=some u→w.cell? (ad.add j)=some u) (h1c:∀u∈news,u.oneCell'=true) (b1:k+m≤maxLen) (b2:(k+m)*i.bytes≤140737488355328) (b3:base≤w.heap.size)
    (hK:∀v' w',w'.ownsRow base e i.size v' (k+m) (xs++news)→w.grownBy w' v.ownBlock→w.drawn≤w'.drawn→wpListIn F n P ops Q rest (a.put o.dst v') w') :
    wpListIn F n P ops Q (o::rest) a w:=by
 refine wpListIn_plain hg fun K hK'=>?_
 obtain ⟨v',w',hrun,r1,r2,r3⟩:=run_append_own (P:=P) w base t o.type e i z i.size i.bytes h1 h2 h3 rfl rfl h6 h7 v k xs hown ad m c news hn hc h1c b1 b2 b3;have r4:=append_drawn h1 h2 h3 hown hm hn hc h1c b1 b2 hrun;unfold Oper.wpIn;refine ⟨?_,?_⟩
 · simp [Oper.about,hop,resolve,Target.leads,Sem.run_pure]
 · rw [Oper.semAt_plain F _ _ (by rw [hop];intro c hc';cases hc')]
   simp [execOp,hop,resolve,invoke,builtin,hs,hx,hrun,Result.andThen];exact hK' _ _ (hK v' w' r1 r2 r4)
macro "gi_round_op_c" : tactic => `(tactic| (rw [Oper.semAt_eq _ _ _ (fun c h => by cases h)]; go_simp; try go_bits))
def apRec (ρ:Ren)(fn:FuncId)(sv:Value)(Bs D:Nat)(st:LoopState):Loop :=
 { state:=st,pending:=none,fn,tmps:=#[.slice none 0 0,sv,.pointer (some ⟨Bs,0,none⟩),Go.undef,.slice none 0 0,Go.undef,sv,Go.undef,Go.undef,Go.undef,Go.undef,Go.undef,Go.undef],params:=#[7],assign:=ColB.asg ρ,body:=ColB.bdy ρ,defers:=D }
def flatX (xs:Nat→List Value)(i:Nat):List Value:=((List.range i).map xs).flatten
theorem flatX_length {xs:Nat→List Value}{k m:Nat}(hl:∀i,i<m→(xs i).length=k):∀n,n≤m→(flatX xs n).length=n*k:=by
 intro n
 induction n with
 | zero=>intro _;simp [flatX]
 | succ n ih=>intro h;rw [show flatX xs (n+1)=flatX xs n++xs n by simp [flatX,List.range_succ],List.length_append,ih (by omega),hl n (by omega),Nat.add_mul,Nat.one_mul]
theorem flatX_get {xs:Nat→List Value}{k m:Nat}(hl:∀i,i<m→(xs i).length=k){i j:Nat}{v:Value}(hi:i<m)(hv:(xs i)[j]?=some v):(flatX xs m)[i*k+j]?=some v:=by
 have hj:j<(xs i).length:=(List.getElem?_eq_some_iff.1 hv).1
 have go:∀n,i<n→n≤m→(flatX xs n)[i*k+j]?=some v:=by
  intro n
  induction n with
  | zero=>intro h;omega
  | succ n ih =>
   intro h1 h2
   rw [show flatX xs (n+1)=flatX xs n++xs n by simp [flatX,List.range_succ]]
   have hn:=flatX_length hl n (by omega)
   by_cases hin:i<n
   · have hk:i*k+j<n*k:=idx_lt hin (by rw [←hl i hi];exact hj)
     rw [List.getElem?_append_left (by omega)]
     exact ih hin (by omega)
   · obtain rfl:i=n:=by omega
     rw [List.getElem?_append_right (by omega),hn]
     simpa using hv
 exact go m hi (Nat.le_refl _)
theorem flatX_succ (xs:Nat→List Value)(i:Nat):flatX xs (i+1)=flatX xs i++xs i:=by simp [flatX,List.range_succ]
structure ApAt (ρ:Ren) (k:Nat) (xs:Nat→List Value) (w0:World) (fn:FuncId) (sv:Value) (Bs l D:Nat) (i:Nat) (W:World):Prop where
 box:∃v,W.heap[Bs]?=some (.cells #[v] (ρ.t 2) (0,0))∧W.ownsRow w0.heap.size (ρ.t 1) k v i (flatX xs i)
 L:W.heap[l]?=some (.loop (apRec ρ fn sv Bs D .ready))
 K:W.heap[D]?=some (.deferred (some []))
 below:Below w0.heap.size w0 W
 drw:w0.drawn≤W.drawn
theorem lt_of_some {W:World}{k:Nat}{o:Obj}(h:W.heap[k]?=some o):k<W.heap.size:=(Array.getElem?_eq_some_iff.1 h).1
theorem gnone {W W':World}(hg:W.grownBy W' none){k:Nat}{o:Obj}(h:W.heap[k]?=some o):W'.heap[k]?=some o:=(hg.block k (lt_of_some h) (by simp)).trans h
theorem ownsRow_none {W W':World}{base:Nat}{e:TypeId}{size:Nat}{v:Value}{k:Nat}{xs:List Value}(h:W.ownsRow base e size v k xs)(hg:W.grownBy W' none):W'.ownsRow base e size v k xs:=by
 refine ⟨h.1,?_⟩
 rcases h.2 with ⟨rfl,h0⟩|⟨g,cap,cur,rfl,hb,hgb,rest⟩
 · exact .inl ⟨rfl,h0⟩
 · exact .inr ⟨g,cap,cur,rfl,hb,gnone hg hgb,rest⟩
theorem ApAt.grow {k:Nat}{xs:Nat→List Value}{w0:World}{fn:FuncId}{sv:Value}{Bs l D i:Nat}{W W':World}(h:ApAt ρ k xs w0 fn sv Bs l D i W)(hg:W.grownBy W' none)(hd:W.drawn≤W'.drawn):ApAt ρ k xs w0 fn sv Bs l D i W':=by
 obtain ⟨v,hv,hr⟩:=h.box
 exact ⟨⟨v,gnone hg hv,ownsRow_none hr hg⟩,gnone hg h.L,gnone hg h.K,h.below.grown hg h.below.size (fun k e=>by cases e),Nat.le_trans h.drw hd⟩
theorem grownBy_putObj_c (W:World)(l:Nat)(o:Obj):W.grownBy (W.putObj l o) (some l) :=
 ⟨rfl,rfl,rfl,by simp,fun k _ hk=>World.putObj_heap_other (fun e=>hk (by rw [e]))⟩
theorem grownBy_setCell0_c (W:World)(b:Nat)(v:Value):W.grownBy (W.setCell ⟨b,0,none⟩ v) (some b) :=
 ⟨rfl,rfl,rfl,(KeepsWalks.setCell W _ v).size,fun k _ hk=>Below.heap_setCell _ _ _ k (fun e=>hk (by rw [e]))⟩
theorem ownsRow_ne_c {W:World}{base:Nat}{e:TypeId}{size:Nat}{v:Value}{k:Nat}{xs:List Value}(h:W.ownsRow base e size v k xs){j:Nat}{o:Obj}(hj:W.heap[j]?=some o)(hno:∀cur,o≠.cells cur e (0,0)) :
    v.ownBlock=none∨v.ownBlock≠some j:=by
 rcases h.2 with ⟨rfl,_⟩|⟨g,cap,cur,rfl,_,hgb,_⟩
 · exact .inl rfl
 · refine .inr fun e'=>?_
   have:g=j:=by simpa [Value.ownBlock] using e'
   subst this;rw [hgb] at hj;cases hj;exact hno cur rfl
theorem cell_of_box_c {W:World}{B:Nat}{v:Value}{t:TypeId}(h:W.heap[B]?=some (.cells #[v] t (0,0))):W.cell? ⟨B,0,none⟩=some v∧W.frozen? ⟨B,0,none⟩=false:=by
 constructor<;>simp [World.cell?,World.frozen?,h]
theorem heap_setCell_box_c {W:World}{B:Nat}{v:Value}{t:TypeId}(v':Value)(h:W.heap[B]?=some (.cells #[v] t (0,0))):(W.setCell ⟨B,0,none⟩ v').heap[B]?=some (.cells #[v'] t (0,0)):=by
 obtain ⟨hlt,hk⟩:=Array.getElem?_eq_some_iff.1 h;show (W.heap.modify B _)[B]?=_
 rw [Array.getElem?_eq_getElem (by rw [Array.size_modify];exact hlt),Array.getElem_modify_self,hk]
 rfl
theorem laid_c {i0:TypeInfo}{zv:Value}{e:TypeId}(E:ColE P e i0 zv)(W:World)(cs:List Value)(hl:cs.length=i0.size)(h1:∀v∈cs,v.oneCell'=true) :
    ∃W2,(Instr.storeAt e (.pointer (some ⟨W.heap.size,0,none⟩)) (.agg cs.toArray)).run P (W.alloc (.cells zv.cells e))=.ok () W2∧W2.rangeAt W.heap.size 0 cs∧W.grownBy W2 none∧W.heap.size<W2.heap.size∧W.drawn≤W2.drawn:=by
 refine ⟨(W.alloc (.cells zv.cells e)).setRow W.heap.size cs.toArray,E.store (cur:=zv.cells) (World.alloc_heap_new W _) E.zsize hl h1,?_,?_,by simp [World.setRow],Nat.le_refl _⟩
 · intro j v hv;have:((W.alloc (.cells zv.cells e)).setRow W.heap.size cs.toArray).heap[W.heap.size]?=some (.cells cs.toArray e (0,0)):=setRow_heap (W.alloc _) W.heap.size zv.cells _ e (0,0) (World.alloc_heap_new W _);simp only [World.cell?,this];simp [hv]
 · refine ⟨rfl,rfl,rfl,by simp [World.setRow],fun k hk _=>?_⟩
   have hne:W.heap.size≠k:=by omega
   show ((W.alloc _).heap.modify _ _)[k]?=_;rw [Array.getElem?_modify,if_neg hne];exact Below.heap_alloc W _ k hk
theorem cells_new (W:World)(cs:List Value)(e:TypeId):∀j u,cs[j]?=some u→(W.alloc (.cells cs.toArray e)).cell? ((⟨W.heap.size,0,none⟩:Addr).add j)=some u:=by
 intro j u hu;simp only [Addr_add,World.cell?,World.alloc_heap_new];simp [hu]
theorem foldl_setC:∀(cs:List Value) (arr:Array Value) (s:Nat),arr.size=s+cs.length→(cs.zipIdx s).foldl (fun a x=>a.setIfInBounds x.2 x.1) arr=(arr.toList.take s++cs).toArray:=by
 intro cs
 induction cs with
 | nil=>intro arr s h;simp at h;subst h;simp [←Array.length_toList,List.take_length]
 | cons c cs ih =>
  intro arr s h;simp only [List.length_cons] at h
  rw [List.zipIdx_cons,List.foldl_cons,ih _ _ (by simp;omega)]
  congr 1
  have e:(arr.toList.set s c).take (s+1)=arr.toList.take s++[c]:=by
   apply List.ext_getElem?
   intro j
   have hz:arr.toList.length=arr.size:=by simp
   rw [List.getElem?_take,List.getElem?_append,List.length_take,List.getElem?_set,List.getElem?_take]
   have hm:min s arr.toList.length=s:=by omega
   rw [hm]
   by_cases h1:j<s
   · have:s≠j:=by omega
     simp [h1,this,Nat.lt_succ_of_lt h1]
   · by_cases h2:j=s
     · subst h2;simp;omega
     · have h3:¬j<s+1:=by omega
       have h4:¬j-s=0:=by omega
       simp [h1,h3,h4]
  simp [e]
theorem build_c {i0:TypeInfo}{zv:Value}{t e:TypeId}(t2:P.underlying t=some (.slice e))(E:ColE P e i0 zv)(W:World)(cs:List Value)(hl:cs.length=i0.size)(hs:i0.size≤1024) :
    (Instr.buildSlice t 1 #[(0,.agg cs.toArray)]).run P W=.ok (.slice (some ⟨W.heap.size,0,none⟩) 1 1) (W.alloc (.cells cs.toArray e)):=by
 have hp:=E.pos
 refine run_buildSlice W t e 1 _ cs.toArray i0 zv t2 E.info E.zero (by omega) (by omega) ?_
 have hf:=foldl_setC cs ((Array.range (1*i0.size)).map (zv.cells[· % zv.cells.size]!)) 0 (by simp [hl])
 simp only [List.take_zero,List.nil_append] at hf;have hcs:(Value.agg cs.toArray).cells=cs.toArray:=rfl;simp only [Instr.fill,hcs];simp [hl,hp];simpa using hf
set_option maxRecDepth 100000 in
set_option maxHeartbeats 400000 in
theorem ap_yield (L:ColOf P ρ){i0:TypeInfo}{zv:Value}(E:ColE P (ρ.t 1) i0 zv)(n:Nat)(w0:World)(fn:FuncId)(sv:Value)(Bs l D:Nat)(hBl:Bs≠l)(hDl:D≠l)(hDB:D≠Bs)(h0B:w0.heap.size≤Bs)(h0l:w0.heap.size≤l)
    (m:Nat) (hm:m≤maxLen) (hmb:m*i0.bytes≤140737488355328) (hs:i0.size≤1024) (xs:Nat→List Value) (i:Nat) (hi:i<m) (hl:(xs i).length=i0.size) (h1:∀v∈xs i,v.oneCell'=true) (W:World) (h:ApAt ρ i0.size xs w0 fn sv Bs l D i W) :
    YieldAt Fence.wide n P l #[.agg (xs i).toArray] W fun e W'=>e=.returned (.bool true)∧ApAt ρ i0.size xs w0 fn sv Bs l D (i+1) W':=by
 have t0:=L.t0;have a0:=agg_ofC (P:=P) L.t0 rfl;have t3:=L.t3;have a3:=agg_ofC (P:=P) L.t3 rfl;have t4:=L.t4;have a4:=agg_ofC (P:=P) L.t4 rfl;have t2:=L.t2;have z2:=L.z2;have a2:=agg_ofC (P:=P) t2 rfl;have u0:=run_underlying L.t0;have u3:=run_underlying L.t3;have u4:=run_underlying L.t4;have u2:=run_underlying t2;have mixed:=L.mixed
 have hne:ρ.t 2≠ρ.t 1:=fun e=>by have h1:=a2 w0;rw [e,E.agg w0] at h1;injection h1 with h1;cases h1
 have hmi:(i+1)*i0.bytes≤140737488355328:=Nat.le_trans (Nat.mul_le_mul_right _ hi) hmb
 refine ⟨fn,#[.slice none 0 0,sv,.pointer (some ⟨Bs,0,none⟩),Go.undef,.slice none 0 0,Go.undef,sv,.agg (xs i).toArray,Go.undef,Go.undef,Go.undef,Go.undef,Go.undef],ColB.asg ρ,ColB.bdy ρ,by simpa [apRec] using run_yield (P:=P) (args:=#[.agg (xs i).toArray]) h.L rfl,roundIn_of_wpIn (by trivial) ?_⟩
 obtain ⟨Wa,hst,hra,hga,hsa,hda⟩:=laid_c E W (xs i) hl h1;have ha:=h.grow hga hda;obtain ⟨v,hv,hrow⟩:=ha.box;have hl':l<Wa.heap.size:=lt_of_some ha.L;have hbr:=run_beginRound (P:=P) ha.L rfl
 obtain ⟨W2,hW2⟩:∃W2,Wa.putObj l (.loop { apRec ρ fn sv Bs D .ready with state:=.busy })=W2:=⟨_,rfl⟩
 rw [hW2] at hbr
 have hg2:Wa.grownBy W2 (some l):=by rw [←hW2];exact grownBy_putObj_c _ _ _
 have hv2:W2.heap[Bs]?=some (.cells #[v] (ρ.t 2) (0,0)):=by rw [←hW2];exact (World.putObj_heap_other hBl).trans hv
 have hK2:W2.heap[D]?=some (.deferred (some [])):=by rw [←hW2];exact (World.putObj_heap_other hDl).trans ha.K
 have hL2:W2.heap[l]?=some (.loop { apRec ρ fn sv Bs D .ready with state:=.busy }):=by rw [←hW2];exact World.putObj_heap_same hl'
 have hrow2:W2.ownsRow w0.heap.size (ρ.t 1) i0.size v i (flatX xs i):=hrow.kept hg2 (ownsRow_ne_c hrow ha.L (fun cur e=>by cases e))
 have hb2:Below w0.heap.size w0 W2:=ha.below.grown hg2 ha.below.size (fun k e=>by cases e;exact h0l)
 have hlW:l<W.heap.size:=lt_of_some h.L
 have hr2:W2.rangeAt W.heap.size 0 (xs i):=fun j u hu=>by
  have:=hra j u hu;rw [←hW2];simp only [World.cell?] at this ⊢
  rw [World.putObj_heap_other (by simp;omega)]
  exact this
 have hld:=E.load hr2 hl;obtain ⟨hc2,hf2⟩:=cell_of_box_c hv2;have hBlt:Bs<W2.heap.size:=lt_of_some hv2;have hl2:l<W2.heap.size:=lt_of_some hL2;have hDlt:D<W2.heap.size:=lt_of_some hK2
 have ne_of:∀ {j:Nat} {o:Obj},W2.heap[j]?=some o→(∀cur,o≠.cells cur (ρ.t 1) (0,0))→some j≠v.ownBlock:=fun hj hno=>by
  rcases ownsRow_ne_c hrow2 hj hno with e|e
  · rw [e];simp
  · exact fun e'=>e e'.symm
 have hnl:(xs i).length=1*i0.size:=by rw [hl,Nat.one_mul]
 have hi1:i+1≤maxLen:=by omega
 have hbb:w0.heap.size≤(W2.alloc (.cells (xs i).toArray (ρ.t 1))).heap.size:=by have:=hb2.size;simp;omega
 have hd2:w0.drawn≤W2.drawn:=by rw [←hW2];exact ha.drw
 clear hW2;have hbd:=build_c t2 E W2 (xs i) hl hs;obtain ⟨W5,hW5⟩:∃W5,W5=W2.alloc (.cells (xs i).toArray (ρ.t 1)):=⟨_,rfl⟩;rw [←hW5] at hbd hbb
 have hrow5:W5.ownsRow w0.heap.size (ρ.t 1) i0.size v i (flatX xs i):=by rw [hW5];exact hrow2.alloc _
 have hcn5:=cells_new W2 (xs i) (ρ.t 1);rw [←hW5] at hcn5;unfold ColB.asg
 gi_wp2_with (first
  | (refine wI_alloc rfl (ρ.t 1) rfl zv E.zv0 ?_)
  | (refine wI_store rfl (ρ.t 1) _ _ rfl Wa hst ?_)
  | gi_round_op_c)
 unfold ColB.bdy
 gi_wp2_with (first
  | (refine wI_load rfl (ρ.t 1) _ rfl _ hld ?_;simp only [Act.put,List.setIfInBounds_toArray,List.set_cons_succ,List.set_cons_zero])
  | (refine wI_build1 rfl (ρ.t 2) (.tmp 9) rfl (.agg (xs i).toArray) (by simp [Act.put,Act.eval]) (.slice (some ⟨W2.heap.size,0,none⟩) 1 1) W5 hbd ?_;simp only [Act.put,List.setIfInBounds_toArray,List.set_cons_succ,List.set_cons_zero])
  | (gi_at_builtin; refine wI_append _ rfl _ _ (ρ.t 2) rfl w0.heap.size (ρ.t 1) i0 zv t2 E.info E.zero E.zsize E.pos _ _ _ rfl hrow5 ⟨W2.heap.size, 0, none⟩ 1 1 (xs i) rfl Nat.one_pos hnl hcn5 h1 hi1 hmi hbb ?_; intro v' w3 hown' hg3 hd3
     have hv5:W5.heap[Bs]?=some (.cells #[v] (ρ.t 2) (0,0)):=by rw [hW5];exact (Below.heap_alloc _ _ Bs hBlt).trans hv2
     have hv3:w3.heap[Bs]?=some (.cells #[v] (ρ.t 2) (0,0)):=(hg3.block Bs (lt_of_some hv5) (ne_of hv2 (fun cur e=>hne (Obj.cells.inj e).2.1))).trans hv5
     obtain ⟨hc3,hf3⟩:=cell_of_box_c hv3
     obtain ⟨g',cap',cur',rfl,hbase',hgb',hr1,hr2',hr3,hr4⟩:∃g' cap' cur',v'=.slice (some ⟨g',0,none⟩) (i+1) cap'∧w0.heap.size≤g'∧w3.heap[g']?=some (.cells cur' (ρ.t 1) (0,0))∧i+1≤cap'∧cap'≤maxLen∧cur'.size=cap'*i0.size∧cur'.toList.take ((i+1)*i0.size)=flatX xs i++xs i:=by
      rcases hown'.2 with ⟨_,h0⟩|h'
      · exact absurd h0 (by omega)
      · exact h'
     simp only [Act.put,List.setIfInBounds_toArray,List.set_cons_succ,List.set_cons_zero])
  | gi_round_op_c)
 have hd5:w0.drawn≤W5.drawn:=by rw [hW5];exact hd2
 have hg5:W2.grownBy W5 none:=by rw [hW5];exact World.grownBy_alloc _ _ none
 have hL3:w3.heap[l]?=some (.loop { apRec ρ fn sv Bs D .ready with state:=.busy }):=(hg3.block l (lt_of_some (gnone hg5 hL2)) (ne_of hL2 (fun cur e=>by cases e))).trans (gnone hg5 hL2)
 have hK3:w3.heap[D]?=some (.deferred (some [])):=(hg3.block D (lt_of_some (gnone hg5 hK2)) (ne_of hK2 (fun cur e=>by cases e))).trans (gnone hg5 hK2)
 obtain ⟨w4,hw4⟩:∃w4,w3.setCell ⟨Bs,0,none⟩ (.slice (some ⟨g',0,none⟩) (i+1) cap')=w4:=⟨_,rfl⟩;rw [hw4]
 have hg4:w3.grownBy w4 (some Bs):=by rw [←hw4];exact grownBy_setCell0_c _ _ _
 have hv4:w4.heap[Bs]?=some (.cells #[.slice (some ⟨g',0,none⟩) (i+1) cap'] (ρ.t 2) (0,0)):=by rw [←hw4];exact heap_setCell_box_c _ hv3
 have hL4:w4.heap[l]?=some (.loop { apRec ρ fn sv Bs D .ready with state:=.busy }):=(hg4.block l (lt_of_some hL3) (fun e=>hBl (by cases e;rfl))).trans hL3
 have hK4:w4.heap[D]?=some (.deferred (some [])):=(hg4.block D (lt_of_some hK3) (fun e=>hDB (by cases e;rfl))).trans hK3
 have hrow4:=hown'.kept hg4 (ownsRow_ne_c hown' hv3 (fun cur e=>hne (Obj.cells.inj e).2.1))
 have hl4:l<w4.heap.size:=lt_of_some hL4
 have hb5:Below w0.heap.size w0 W5:=hb2.grown hg5 hb2.size (fun k e=>by cases e)
 have hb3:Below w0.heap.size w0 w3:=hb5.grown hg3 hb5.size (fun k e=>(hrow2.lt k e).1)
 have hb4:Below w0.heap.size w0 w4:=hb3.grown hg4 hb3.size (fun k e=>by cases e;exact h0B)
 have hd4:w0.drawn≤w4.drawn:=by rw [←hw4];exact Nat.le_trans hd5 hd3
 clear hw4
 refine ⟨_,_,run_endRound none hL4,rfl,⟨⟨_,(World.putObj_heap_other hBl).trans hv4,?_⟩,World.putObj_heap_same hl4,(World.putObj_heap_other hDl).trans hK4,hb4.grown (grownBy_putObj_c _ _ _) hb4.size (fun k e=>by cases e;exact h0l),hd4⟩⟩
 rw [flatX_succ]
 exact hrow4.kept (grownBy_putObj_c w4 l _) (ownsRow_ne_c hrow4 hL4 (fun cur e=>by cases e))
set_option maxRecDepth 100000 in
set_option maxHeartbeats 2000000 in
theorem app_in (L:ColOf P ρ){i0:TypeInfo}{zv:Value}(E:ColE P (ρ.t 1) i0 zv)(n:Nat)(hn:2≤n)(p:Addr)(b off m c:Nat)(A:Option Addr)(hA:0<m→A=some ⟨b,off,none⟩)(xs:Nat→List Value)
    (hl:∀i,i<m→(xs i).length=i0.size) (h1:∀i,i<m→∀v∈xs i,v.oneCell'=true) (w:World)
    (hp:w.cell? p=some (.slice A m c)) (hpl:p.block<w.heap.size) (hx:∀i,i<m→w.rangeAt b (off+i*i0.size) (xs i)) (hbl:0<m→b<w.heap.size) (hm:m≤maxLen) (hmb:m*i0.bytes≤140737488355328) (hs:i0.size≤1024) :
    CallsIn Fence.wide n P (ρ.f 2) #[.slice none 0 0,.func (.func (ρ.f 1)) #[] #[.pointer (some p)]] w fun e w'=>∃v,e=.returned v∧w'.ownsRow w.heap.size (ρ.t 1) i0.size v m (flatX xs m)∧Below w.heap.size w w'∧w.drawn≤w'.drawn:=by
 have h1n:1≤n:=by omega
 have e1:∀args w,(callFunc (ρ.f 1) args).run P w=.ok (.enter (ρ.f 1) args) w:=L.f1.enters rfl;have t0:=L.t0;have a0:=agg_ofC (P:=P) L.t0 rfl;have t3:=L.t3;have a3:=agg_ofC (P:=P) L.t3 rfl;have t4:=L.t4;have a4:=agg_ofC (P:=P) L.t4 rfl;have t2:=L.t2;have z2:=L.z2;have a2:=agg_ofC (P:=P) t2 rfl;have u0:=run_underlying L.t0;have u3:=run_underlying L.t3;have u4:=run_underlying L.t4;have u2:=run_underlying t2;have mixed:=L.mixed;obtain ⟨_,_,FG⟩:=L.f2
 refine callsIn_of_wp_marks FG rfl (by trivial) ?_ rfl
 simp only [ColB.n2_ntmps ρ,List.size_toArray,List.length_cons,List.length_nil,Nat.reduceAdd,Nat.reduceSub,Array.replicate_succ,Array.replicate_zero,List.push_toArray,List.append_toArray,List.nil_append,List.cons_append]
 gi_wp2
 refine wpIn_rangeFunc ?_;intro fn hfn
 rw [show Fence.wide.round=none from rfl]
 obtain ⟨W0,hW0⟩:∃W0,w.alloc (.cells #[.slice none 0 0] (ρ.t 2))=W0:=⟨_,rfl⟩
 have hs0:W0.heap.size=w.heap.size+1:=by rw [←hW0];simp
 have hv0:W0.heap[w.heap.size]?=some (.cells #[.slice none 0 0] (ρ.t 2) (0,0)):=by rw [←hW0];exact World.alloc_heap_new w _
 have hb0:Below w.heap.size w W0:=by rw [←hW0];exact (Below.refl _ w).alloc (Nat.le_refl _) _
 rw [hW0];obtain ⟨W1,hW1⟩:∃W1,(W0.alloc (.deferred (some []))).alloc (.loop (apRec ρ fn (.func (.func (ρ.f 1)) #[] #[.pointer (some p)]) w.heap.size W0.heap.size .ready))=W1:=⟨_,rfl⟩
 have hold:∀k,k<W0.heap.size→W1.heap[k]?=W0.heap[k]?:=fun k hk=>by
  rw [←hW1];exact (Below.heap_alloc _ _ k (by simp;omega)).trans (Below.heap_alloc _ _ k hk)
 have hb1:Below w.heap.size w W1:=by rw [←hW1];exact (hb0.alloc hb0.size _).alloc (by have:=hb0.size;simp;omega) _
 have hs1:W1.heap.size=W0.heap.size+2:=by rw [←hW1];simp
 have hM:ApAt ρ i0.size xs w fn (.func (.func (ρ.f 1)) #[] #[.pointer (some p)]) w.heap.size (W0.heap.size+1) W0.heap.size 0 W1 :=
  ⟨⟨_,(hold w.heap.size (by omega)).trans hv0,⟨by simp [flatX],.inl ⟨rfl,rfl⟩⟩⟩,
   by rw [←hW1];have:=World.alloc_heap_new (W0.alloc (.deferred (some []))) (.loop (apRec ρ fn (.func (.func (ρ.f 1)) #[] #[.pointer (some p)]) w.heap.size W0.heap.size .ready));rwa [World.size_alloc] at this,
   by rw [←hW1];exact (Below.heap_alloc _ _ _ (by simp)).trans (World.alloc_heap_new W0 _),hb1,by rw [←hW1,←hW0];exact Nat.le_refl _⟩
 refine ⟨W0.heap.size+1,[{ target:=.collected W0.heap.size,args:=#[] }],W1,{ target:=.fn (.func (ρ.f 1)) #[.pointer (some p)],args:=#[.func (.yield (W0.heap.size+1)) #[] #[]] },W1,ρ.f 1,
  #[.func (.yield (W0.heap.size+1)) #[] #[],.pointer (some p)],W1,?_,?_,?_,?_,fun _=>h1n,?_⟩
 · rw [←hW1];exact run_enterLoop_outer _ _ _ _ _
 · simp [resolve,go_sem]
 · intro f' hf';trivial
 · simp [invoke,go_sem,e1]
 · refine (val_in L E (n - 1) (by omega) (W0.heap.size + 1) p b off m c A hA xs hl h1 w (ApAt ρ i0.size xs w fn (.func (.func (ρ.f 1)) #[] #[.pointer (some p)]) w.heap.size (W0.heap.size + 1) W0.heap.size)
     (fun i W h=>h.below) (fun i W W' h hg hd=>h.grow hg hd)
     (fun i W hi h=>ap_yield L E (n-1-1) w fn _ w.heap.size (W0.heap.size+1) W0.heap.size (by omega) (by omega) (by omega) (Nat.le_refl _) (by omega) m hm hmb hs xs i hi (hl i hi) (h1 i hi) W h)
     hp hpl hx hbl hm W1 hM).mono ?_
   rintro e W2 ⟨⟨v0,rfl⟩,h2⟩
   obtain ⟨v,hv,hrow⟩:=h2.box
   have hend:=run_endLoop (P:=P) h2.L (by simp [apRec])
   obtain ⟨W3,hW3⟩:∃W3,W2.putObj (W0.heap.size+1) (.loop { apRec ρ fn (.func (.func (ρ.f 1)) #[] #[.pointer (some p)]) w.heap.size W0.heap.size .ready with state:=.exhausted })=W3:=⟨_,rfl⟩
   rw [hW3] at hend
   have hg3:W2.grownBy W3 (some (W0.heap.size+1)):=by rw [←hW3];exact grownBy_putObj_c _ _ _
   have hv3:W3.heap[w.heap.size]?=some (.cells #[v] (ρ.t 2) (0,0)):=by rw [←hW3];exact (World.putObj_heap_other (by omega)).trans hv
   have hK3:W3.heap[W0.heap.size]?=some (.deferred (some [])):=by rw [←hW3];exact (World.putObj_heap_other (by omega)).trans h2.K
   have hrow3:=hrow.kept hg3 (ownsRow_ne_c hrow h2.L (fun cur e=>by cases e))
   have hb3:Below w.heap.size w W3:=h2.below.grown hg3 h2.below.size (fun k e=>by cases e;omega)
   obtain ⟨hc3,hf3⟩:=cell_of_box_c hv3
   have hd3:w.drawn≤W3.drawn:=by rw [←hW3];exact h2.drw
   clear hW3;refine ⟨none,W3,hend,?_⟩
   gi_wp2
   rw [←hs0]
   refine ⟨by simp,.inl ⟨_,_,rfl,run_takeDeferred hK3,?_⟩⟩
   exact ⟨_,results_tmp rfl _ _ _,v,rfl,hrow3.kept (grownBy_putObj_c _ _ _) (ownsRow_ne_c hrow3 hK3 (fun cur e=>by cases e)),hb3.grown (grownBy_putObj_c _ _ _) hb3.size (fun k e=>by cases e;omega),hd3⟩
set_option maxHeartbeats 1000000 in
theorem col_in (L:ColOf P ρ){i0:TypeInfo}{zv:Value}(E:ColE P (ρ.t 1) i0 zv)(p:Addr)(b off m c:Nat)(A:Option Addr)(hA:0<m→A=some ⟨b,off,none⟩)(xs:Nat→List Value)
    (hl:∀i,i<m→(xs i).length=i0.size) (h1:∀i,i<m→∀v∈xs i,v.oneCell'=true) (w:World)
    (hp:w.cell? p=some (.slice A m c)) (hpl:p.block<w.heap.size) (hx:∀i,i<m→w.rangeAt b (off+i*i0.size) (xs i)) (hbl:0<m→b<w.heap.size) (hm:m≤maxLen) (hmb:m*i0.bytes≤140737488355328) (hs:i0.size≤1024) :
    Calls P (ρ.f 3) #[.func (.func (ρ.f 1)) #[] #[.pointer (some p)]] w fun e w'=>∃v,e=.returned v∧w'.ownsRow w.heap.size (ρ.t 1) i0.size v m (flatX xs m)∧Like w w' w.heap.size:=by
 refine CallsIn.calls (F:=Fence.wide) (n:=3) ?_ room_wide;have e2:∀args w,(callFunc (ρ.f 2) args).run P w=.ok (.enter (ρ.f 2) args) w:=L.f2.enters rfl;have t0:=L.t0;have a0:=agg_ofC (P:=P) L.t0 rfl;have t3:=L.t3;have a3:=agg_ofC (P:=P) L.t3 rfl;have t4:=L.t4;have a4:=agg_ofC (P:=P) L.t4 rfl;have t2:=L.t2;have z2:=L.z2;have a2:=agg_ofC (P:=P) t2 rfl;have u0:=run_underlying L.t0;have u3:=run_underlying L.t3;have u4:=run_underlying L.t4;have u2:=run_underlying t2;have mixed:=L.mixed;obtain ⟨_,_,FG⟩:=L.f3
 refine callsIn_of_wp FG rfl (by trivial) ?_ rfl
 simp only [ColB.n3_ntmps ρ,List.size_toArray,List.length_cons,List.length_nil,Nat.reduceAdd,Nat.reduceSub,Array.replicate_succ,Array.replicate_zero,List.push_toArray,List.append_toArray,List.nil_append,List.cons_append]
 gi_wp2
 refine ⟨trivial,(app_in L E 2 (Nat.le_refl _) p b off m c A hA xs hl h1 w hp hpl hx hbl hm hmb hs).mono ?_⟩
 rintro e w' ⟨v,rfl,hrow,hb,hd⟩
 gi_wp2
 go_ret
 exact ⟨v,rfl,hrow,hb.os,⟨hb.tape,hd⟩,hb.output,hb.size,fun b hb' _=>hb.block b hb'⟩
theorem collOk_of (L:ColOf P ρ):CollOk P (ρ.f 3) (ρ.f 1) (ρ.t 2):=by
 intro e i0 zv hu hinfo hz hzl hpos hag p b off m c A xs w hA hl h1 hp hpl hx hbl hm hmb hs
 obtain rfl:ρ.t 1=e:=by
  have:=L.t2;rw [hu] at this;injection this with this;injection this with this;exact this.symm
 refine (col_in L ⟨hinfo,hz,hzl,hpos,hag⟩ p b off m c A hA xs hl h1 w hp hpl (fun i hi j v hv=>hx i hi j v hv) hbl hm hmb hs).mono ?_
 rintro r w' ⟨v,rfl,hrow,hlike⟩
 refine ⟨hlike,?_⟩
 rcases hrow.2 with ⟨rfl,h0⟩|⟨g,cap,cur,rfl,hb,hgb,hmc,hcm,hcs,htake⟩
 · exact .inl ⟨h0,rfl⟩
 · refine .inr ⟨g,cap,cur,rfl,hb,hgb,hmc,hcm,hcs,fun i hi j v hv=>?_⟩
   have hj:j<i0.size:=by rw [←hl i hi];exact (List.getElem?_eq_some_iff.1 hv).1
   have hk:i*i0.size+j<m*i0.size:=idx_lt hi hj;have hf:=flatX_get hl hi hv;rw [←htake,List.getElem?_take,if_pos hk,Array.getElem?_toList] at hf;exact hf
structure ValOf (P:Program) (ρ:Ren):Prop where
 mixed:P.follows .mixedOrders=true
 f4:Bears P (ρ.f 4) (ColB.n4 ρ)
 t2:P.underlying (ρ.t 2)=some (TypeDesc.slice (ρ.t 1))
 z2:∀w,(Go.sizeOf (ρ.t 2)).run P w=.ok 1 w
set_option maxHeartbeats 1000000 in
theorem valsOk_of (L:ValOf P ρ):ValsOk P (ρ.f 4) (ρ.f 1) (ρ.t 2):=by
 intro A n c w;have t2:=L.t2;have z2:=L.z2;have a2:=agg_ofC (P:=P) t2 rfl;have u2:=run_underlying t2;have mixed:=L.mixed;obtain ⟨_,_,FG⟩:=L.f4
 go_enter FG,ColB.n4_ntmps ρ
 go_wp2
 go_ret
 exact ⟨rfl,rfl⟩
end Go.Pi
