/- no condition -/
import Derived.Test.YthidbgihjhkjaaaGreatPiA
import Derived.Shelf.Spec.SlicesInsertGrow
set_option linter.all false
namespace Go.Pi
open Go Go.Proofs Go.Shelf Go.RowKit Go.Lib
set_option linter.all false
variable {P:Program} {w w':World}
structure InsL (P:Program) (ρ:Ren) (nm og:String) (ta:Array TypeId) (e:TypeId) (i0:TypeInfo) (zv:Value):Prop where
 mixed:P.follows .mixedOrders=true
 f21:P.funcs[ρ.f 21]?=some { Body2.n21 ρ with name:=nm,origin:=og,targs:=ta }
 f27 : ∃ fn : Func, P.funcs[ρ.f 27]? = some fn ∧ (fn.name == "runtime.NumGoroutine") = false ∧ fn.body.isNone = true ∧ Extern.findNext fn = none ∧ Extern.find fn = some (Extern.SlicesOverlaps.overlaps #[(ρ.t 22), (ρ.t 22)] #[(ρ.t 4)])
 t0:P.underlying (ρ.t 0)=some (TypeDesc.tuple #[])
 a0:∀w,(isAgg (ρ.t 0)).run P w=.ok false w
 t3:P.underlying (ρ.t 3)=some (TypeDesc.int IntKind.i64)
 a3:∀w,(isAgg (ρ.t 3)).run P w=.ok false w
 t4:P.underlying (ρ.t 4)=some (TypeDesc.bool)
 a4:∀w,(isAgg (ρ.t 4)).run P w=.ok false w
 t22:P.underlying (ρ.t 22)=some (TypeDesc.slice e)
 a22:∀w,(isAgg (ρ.t 22)).run P w=.ok false w
 ie:P.info? e=some i0
 zz:i0.zero=some zv
 zs:zv.cells.size=i0.size
 pos:0<i0.size
 by_:i0.bytes≤1024
theorem run_copy_row {t ty e:Nat}{i:TypeInfo}(ht:P.underlying t=some (.slice e))(hi:P.info? e=some i)(w:World)(g p n dc:Nat)(cur:Array Value)(e':TypeId)(hg:w.heap[g]?=some (.cells cur e' (0,0)))
    (a:Addr) (m sc k:Nat) (hk:min m n=k) (news:List Value) (hl:news.length=k*i.size) (hnews:∀j u,news[j]?=some u→w.cell? (a.add j)=some u) (h1:∀u∈news,u.oneCell'=true) (hfit:p+news.length≤cur.size) :
    (Builtin.copy_ #[t,t] ty #[.slice (some ⟨g,p,none⟩) n dc,.slice (some a) m sc]).run P w=.ok (goInt k) (w.setRow g (cur.toList.take p++news++cur.toList.drop (p+news.length)).toArray):=by
 have hld:=run_loadCells_list (P:=P) w a news hnews
 have hst:=run_storeCells_at P g p e' news 0 cur w hg (by simpa using hfit) h1
 simp only [Nat.add_zero] at hst;have hmin:Nat.min m n=k:=hk;rw [hl] at hld;simp [Builtin.copy_,run_underlying ht,Builtin.lenOf,Builtin.firstCells,sizeOf,typeInfo,hi,hmin,hk,hld,hst]
variable {ρ:Ren} {nm og:String} {ta:Array TypeId} {e:TypeId} {i0:TypeInfo} {zv:Value}
theorem ins_over (L:InsL P ρ nm og ta e i0 zv)(b vb voff m vc o2 lb cb:Nat)(cur vcur:Array Value)(eb ev:TypeId)(w:World)(hvb:vb≠b)
    (hb:w.heap[b]?=some (.cells cur eb (0,0))) (hv:w.heap[vb]?=some (.cells vcur ev (0,0))) (hc:cur.size≠0) :
    (callFunc (ρ.f 27) #[.slice (some ⟨vb,voff,none⟩) m vc,.slice (some ⟨b,o2,none⟩) lb cb]).run P w=.ok (.value (.bool false)) w:=by
 obtain ⟨fn,h27,k1,k2,k3,k4⟩:=L.f27;have hie:=L.ie
 have zsz:∀w,(Go.sizeOf e).run P w=.ok i0.size w:=fun w=>by simp [sizeOf,typeInfo,program,hie,Sem.run]
 have hsa:w.shape? vb=some (ev,vcur.size):=by unfold World.shape?;rw [hv]
 have hsb:w.shape? b=some (eb,cur.size):=by unfold World.shape?;rw [hb]
 have hfr:∀o,w.frozen? ⟨vb,o,none⟩=false:=fun o=>by unfold World.frozen?;rw [hv];simp
 rw [run_callFunc_extern h27 k1 k2 k3 k4,
  Lib.run_overlaps_apart w (ρ.t 22) (ρ.t 4) e L.t22 i0.size zsz ⟨vb,voff,none⟩ ⟨b,o2,none⟩ m vc lb cb hvb ev eb vcur.size cur.size hsa hsb hc (hfr _) (hfr _)]
 rfl
set_option maxHeartbeats 4000000 in
set_option maxRecDepth 100000 in
theorem ins_shift (L:InsL P ρ nm og ta e i0 zv)(b off n c i vb voff m vc:Nat)(cur vcur:Array Value)(eb ev:TypeId)(w:World)(hi:i<n)(hm:0<m)(hroom:n+m≤c)(hc63:c≤9223372036854775807)(hvb:vb≠b)
    (hb:w.heap[b]?=some (.cells cur eb (0,0))) (hv:w.heap[vb]?=some (.cells vcur ev (0,0)))
    (hbs:off+c*i0.size≤cur.size) (cs vs:List Value) (hcl:cs.length=n*i0.size) (hvl:vs.length=m*i0.size)
    (hcs:∀j v,cs[j]?=some v→w.cell? ⟨b,off+j,none⟩=some v) (hvs:∀j v,vs[j]?=some v→w.cell? ⟨vb,voff+j,none⟩=some v) (h1c:∀v∈cs,v.oneCell'=true) (h1v:∀v∈vs,v.oneCell'=true) :
    Calls P (ρ.f 21) #[.slice (some ⟨b,off,none⟩) n c,.int .i64 i,.slice (some ⟨vb,voff,none⟩) m vc] w fun e w' =>
     e=.returned (.slice (some ⟨b,off,none⟩) (n+m) c)∧w'=(w.drew.setRow b (rowA cur off i n m i0.size cs)).setRow b (rowB (rowA cur off i n m i0.size cs) off i m i0.size vs):=by
 have t0:=L.t0;have a0:=L.a0;have t3:=L.t3;have a3:=L.a3;have t4:=L.t4;have a4:=L.a4;have t22:=L.t22;have a22:=L.a22;have u0:=run_underlying L.t0;have u3:=run_underlying L.t3;have u4:=run_underlying L.t4;have u22:=run_underlying L.t22;have mixed:=L.mixed;have hie:=L.ie
 have zsz:∀w,(Go.sizeOf e).run P w=.ok i0.size w:=fun w=>by simp [sizeOf,typeInfo,program,hie,Sem.run]
 have hz1:¬((m:Int)=0):=by omega
 have hz2:¬((i:Int)=(n:Int)):=by omega
 have hw1:IntKind.i64.wrap ((i:Int)+(m:Int))=(i:Int)+(m:Int):=by rw [IntKind.wrap_i64];omega
 have hb1:(0:Int)≤(i:Int)+(m:Int):=by omega
 have hin:i≤n:=by omega
 have htn:((i:Int)+(m:Int)).toNat=i+m:=by omega
 have hb2:¬(c=i+m):=by omega
 have hb3:(i:Int)≤(n:Int)+(m:Int):=by omega
 have hb4:¬(c=i):=by omega
 have hov:∀o2 lb cb,(callFunc (ρ.f 27) #[.slice (some ⟨vb,voff,none⟩) m vc,.slice (some ⟨b,o2,none⟩) lb cb]).run P w=.ok (.value (.bool false)) w:=fun o2 lb cb=>ins_over L b vb voff m vc o2 lb cb cur vcur eb ev w hvb hb hv (by have:=L.pos;have:1*1≤c*i0.size:=Nat.mul_le_mul (by omega) this;omega)
 have hdl:(cs.drop (i*i0.size)).length=(n-i)*i0.size:=by rw [List.length_drop,hcl,Nat.sub_mul]
 have e1:(n+m)*i0.size=(i+m)*i0.size+(n-i)*i0.size:=by rw [←Nat.add_mul];congr 1;omega
 have e2:(n+m)*i0.size≤c*i0.size:=Nat.mul_le_mul_right _ hroom;have e3:(i+m)*i0.size=i*i0.size+m*i0.size:=Nat.add_mul _ _ _
 have hcp1:∀ty dc sc,(Builtin.copy_ #[(ρ.t 22),(ρ.t 22)] ty #[.slice (some ⟨b,off+(i+m)*i0.size,none⟩) (n+m-(i+m)) dc,.slice (some ⟨b,off+i*i0.size,none⟩) (n+m-i) sc]).run P w.drew=.ok (goInt (n-i:Nat)) (w.drew.setRow b (rowA cur off i n m i0.size cs)):=fun ty dc sc =>
  run_copy_row L.t22 L.ie w.drew b (off+(i+m)*i0.size) (n+m-(i+m)) dc cur eb hb ⟨b,off+i*i0.size,none⟩ (n+m-i) sc (n-i) (by omega) (cs.drop (i*i0.size)) hdl
   (fun j v hj=>by rw [Addr.add_lit,Nat.add_assoc];exact hcs (i*i0.size+j) v (by rwa [List.getElem?_drop] at hj)) (fun v hv=>h1c v (List.mem_of_mem_drop hv)) (by rw [hdl];omega)
 obtain ⟨RA,hRA⟩:∃RA,RA=rowA cur off i n m i0.size cs:=⟨_,rfl⟩
 have hRs:RA.size=cur.size:=by rw [hRA];simp only [rowA,List.size_toArray,List.length_append,List.length_take,List.length_drop,Array.length_toList,hcl];rw [Nat.sub_mul] at hdl e1;omega
 have hRh:(w.drew.setRow b RA).heap[b]?=some (.cells RA eb (0,0)):=setRow_heap w.drew b cur RA eb (0,0) hb
 have hcp2:∀(W:World),W.heap=(w.drew.setRow b RA).heap→∀ty dc,(Builtin.copy_ #[(ρ.t 22),(ρ.t 22)] ty #[.slice (some ⟨b,off+i*i0.size,none⟩) (n+m-i) dc,.slice (some ⟨vb,voff,none⟩) m vc]).run P W=.ok (goInt m) (W.setRow b (rowB RA off i m i0.size vs)):=fun W hWc ty dc =>
  run_copy_row L.t22 L.ie W b (off+i*i0.size) (n+m-i) dc RA eb (by rw [hWc];exact hRh) ⟨vb,voff,none⟩ m vc m (by omega) vs hvl
   (fun j v hj=>by
    rw [Addr.add_lit,World.cell?_heap (w:=w) (by rw [hWc];exact setRow_other w.drew b vb RA hvb)]
    exact hvs j v hj) h1v (by rw [hvl,hRs];omega)
 rw [←hRA] at hcp1;clear e1 e2 e3 hdl hRs hRh hbs hcl hvl
 go_enter L.f21,Body2.n21_ntmps ρ
 go_wp2_with (simp only [hov])
 go_region_law_o (refine step_copy_runI rfl _ _ (ρ.t 22) (ρ.t 22) rfl _ _ (by simp [Act.eval,Act.put]) (by simp [Act.eval,Act.put]) (hcp1 _ _ _) ?_)
 go_wp2_with (at_builtin;refine wpList_copy_runI _ rfl _ _ (ρ.t 22) (ρ.t 22) rfl _ _ rfl rfl (hcp2 _ rfl _ _) ?_)
 go_ret
 first | exact ⟨rfl,rfl⟩ | exact ⟨rfl,by rw [hW1]⟩
set_option maxHeartbeats 4000000 in
set_option maxRecDepth 100000 in
theorem ins_end (L:InsL P ρ nm og ta e i0 zv)(A:Option Addr)(n c vb voff m vc:Nat)(w W:World)(v':Value)(hm:0<m)(hnc:n≤c)(hc63:c≤9223372036854775807)(hnil:A=none→n=0∧c=0)
    (hrun:∀ty,(Builtin.append_ #[(ρ.t 22),(ρ.t 22)] ty #[.slice A n c,.slice (some ⟨vb,voff,none⟩) m vc]).run P w=.ok v' W) :
    Calls P (ρ.f 21) #[.slice A n c,.int .i64 n,.slice (some ⟨vb,voff,none⟩) m vc] w fun e w'=>e=.returned v'∧w'=W:=by
 have t0:=L.t0;have a0:=L.a0;have t3:=L.t3;have a3:=L.a3;have t4:=L.t4;have a4:=L.a4;have t22:=L.t22;have a22:=L.a22;have u0:=run_underlying L.t0;have u3:=run_underlying L.t3;have u4:=run_underlying L.t4;have u22:=run_underlying L.t22;have mixed:=L.mixed;have hie:=L.ie
 have zsz:∀w,(Go.sizeOf e).run P w=.ok i0.size w:=fun w=>by simp [sizeOf,typeInfo,program,hie,Sem.run]
 have hz1:¬((m:Int)=0):=by omega
 go_enter L.f21,Body2.n21_ntmps ρ
 cases A with
 | none =>
  obtain ⟨h0,h1⟩:=hnil rfl;subst h0;subst h1
  go_wp2_with (at_builtin;refine Lib.wpList_append_run _ rfl _ _ _ _ rfl _ _ rfl rfl _ _ (hrun _) ?_)
  go_ret
  exact ⟨rfl,rfl⟩
 | some a =>
  obtain ⟨ab,ao,asp⟩:=a
  go_wp2_with (at_builtin;refine Lib.wpList_append_run _ rfl _ _ _ _ rfl _ _ rfl rfl _ _ (hrun _) ?_)
  all_goals (go_ret;exact ⟨rfl,rfl⟩)
set_option maxHeartbeats 4000000 in
set_option maxRecDepth 100000 in
theorem ins_grow (L:InsL P ρ nm og ta e i0 zv)(b off n c i vb voff m vc:Nat)(w:World)(hi:i<n)(hm:0<m)(hnc:n≤c)(hroom:c<n+m)(hbig:(n+m)*i0.bytes≤140737488355328)(hc63:n+m≤maxLen)
    (cs vs:List Value) (hcl:cs.length=n*i0.size) (hvl:vs.length=m*i0.size)
    (hcs:∀j v,cs[j]?=some v→w.cell? ⟨b,off+j,none⟩=some v) (hvs:∀j v,vs[j]?=some v→w.cell? ⟨vb,voff+j,none⟩=some v) (h1c:∀v∈cs,v.oneCell'=true) (h1v:∀v∈vs,v.oneCell'=true) :
    Calls P (ρ.f 21) #[.slice (some ⟨b,off,none⟩) n c,.int .i64 i,.slice (some ⟨vb,voff,none⟩) m vc] w fun r w' =>
     r=.returned (.slice (some ⟨w.heap.size,0,none⟩) (n+m) (grownCap w (n+m) c e)) ∧
     w'=(((w.alloc (.cells (rowZ i n m i0.size (grownCap w (n+m) c e) cs zv) e)).drew.setRow w.heap.size (rowB (rowZ i n m i0.size (grownCap w (n+m) c e) cs zv) 0 i m i0.size vs)).drew).setRow w.heap.size
      (rowA (rowB (rowZ i n m i0.size (grownCap w (n+m) c e) cs zv) 0 i m i0.size vs) 0 i n m i0.size cs):=by
 have t0:=L.t0;have a0:=L.a0;have t3:=L.t3;have a3:=L.a3;have t4:=L.t4;have a4:=L.a4;have t22:=L.t22;have a22:=L.a22;have u0:=run_underlying L.t0;have u3:=run_underlying L.t3;have u4:=run_underlying L.t4;have u22:=run_underlying L.t22;have mixed:=L.mixed;have hie:=L.ie
 have zsz:∀w,(Go.sizeOf e).run P w=.ok i0.size w:=fun w=>by simp [sizeOf,typeInfo,program,hie,Sem.run]
 have hpos:=L.pos
 have hbw:b<w.heap.size:=cell_lt (hcs 0 _ (List.getElem?_eq_getElem (by rw [hcl];have:1*1≤n*i0.size:=Nat.mul_le_mul (by omega) hpos;omega)))
 have hvw:vb<w.heap.size:=cell_lt (hvs 0 _ (List.getElem?_eq_getElem (by rw [hvl];have:1*1≤m*i0.size:=Nat.mul_le_mul (by omega) hpos;omega)))
 have hz1:¬((m:Int)=0):=by omega
 have hz2:¬((i:Int)=(n:Int)):=by omega
 have hz3:(c:Int)<(n:Int)+(m:Int):=by omega
 have hkk:(n:Int)+(m:Int)-(i:Int)=((n+m-i:Nat):Int):=by omega
 have hik:i+(n+m-i)=n+m:=by omega
 have e1:(n+m)*i0.size=(i+m)*i0.size+(n-i)*i0.size:=by rw [←Nat.add_mul];congr 1;omega
 have e3:(i+m)*i0.size=i*i0.size+m*i0.size:=Nat.add_mul _ _ _
 have e4:i*i0.size≤n*i0.size:=Nat.mul_le_mul_right _ (by omega)
 have hold:(Builtin.firstCells i0.size i (.slice (some ⟨b,off,none⟩) i c)).run P w.drew=.ok (cs.take (i*i0.size)).toArray w.drew:=by
  exact run_firstCells_some w.drew i0.size i ⟨b,off,none⟩ i c (cs.take (i*i0.size)) (by rw [List.length_take,hcl];omega) (fun j v hj=>by
   rw [Addr.add_lit];rw [List.getElem?_take] at hj;split at hj
   · exact hcs j v hj
   · cases hj)
 have hrz : ∀ ty, (Builtin.append_ #[(ρ.t 22), (ρ.t 3)] ty #[.slice (some ⟨b, off, none⟩) i c, .int .i64 ((n : Int) + (m : Int) - (i : Int))]).run P w =
     .ok (.slice (some ⟨w.heap.size,0,none⟩) (n+m) (grownCap w (n+m) c e)) (w.drew.alloc (.cells (rowZ i n m i0.size (grownCap w (n+m) c e) cs zv) e)):=fun ty=>by
  have h:=Lib.run_append_grow_zeros w (ρ.t 22) (ρ.t 3) ty e i0 zv .i64 .i64 L.t22 L.t3 L.ie L.zz (some ⟨b,off,none⟩) i c (cs.take (i*i0.size)) hold (n+m-i) (by omega) L.pos (by omega) (by unfold maxLen at hc63;omega) (by
   have:(n+m-i)*i0.bytes≤(n+m)*i0.bytes:=Nat.mul_le_mul_right _ (by omega)
   omega) (by rw [hik];exact growslice_fits hroom hbig)
  rw [hik] at h;rw [hkk];exact h
 obtain ⟨G,hG⟩:∃G,G=grownCap w (n+m) c e:=⟨_,rfl⟩
 have hGn:n+m≤G:=by rw [hG];exact grownCap_ge w _ _ _
 have hG63:G≤9223372036854775807:=by
  have:=grownCap_le_maxLen w (n+m) c e hc63;rw [←hG] at this;unfold maxLen at this;omega
 rw [←hG] at hrz ⊢;obtain ⟨ROW,hROW⟩:∃ROW,ROW=rowZ i n m i0.size G cs zv:=⟨_,rfl⟩
 have hRl:ROW.size=G*i0.size:=by
  have hzs:=L.zs;rw [hROW];simp only [rowZ,Array.size_append,List.size_toArray,List.length_take,hcl,size_zeroCells];rw [hzs];rw [Nat.min_eq_left e4,←Nat.add_mul,←Nat.add_mul]
  congr 1;omega
 have e5:(n+m)*i0.size≤G*i0.size:=Nat.mul_le_mul_right _ hGn;rw [←hROW] at hrz ⊢;obtain ⟨RB,hRB⟩:∃RB,RB=rowB ROW 0 i m i0.size vs:=⟨_,rfl⟩
 have hRBl:RB.size=ROW.size:=by rw [hRB];simp only [rowB,List.size_toArray,List.length_append,List.length_take,List.length_drop,Array.length_toList,hvl];omega
 rw [←hRB]
 have hdl:(cs.drop (i*i0.size)).length=(n-i)*i0.size:=by rw [List.length_drop,hcl,Nat.sub_mul]
 have hN:∀X:World,X.heap=(w.drew.alloc (.cells ROW e)).heap→X.heap[w.heap.size]?=some (.cells ROW e (0,0)):=fun X h=>by rw [h];show (w.heap.push _)[w.heap.size]?=_;exact Array.getElem?_push_size
 have hcpA:∀(W:World),W.heap=(w.drew.alloc (.cells ROW e)).heap→∀ty dc,(Builtin.copy_ #[(ρ.t 22),(ρ.t 22)] ty #[.slice (some ⟨w.heap.size,i*i0.size,none⟩) (n+m-i) dc,.slice (some ⟨vb,voff,none⟩) m vc]).run P W=.ok (goInt m) (W.setRow w.heap.size RB):=fun W hW ty dc=>by
  have:=run_copy_row (ty:=ty) L.t22 L.ie W w.heap.size (i*i0.size) (n+m-i) dc ROW e (hN W hW) ⟨vb,voff,none⟩ m vc m (by omega) vs hvl
   (fun j v hj=>by
    rw [Addr.add_lit,World.cell?_heap (w:=w) (by rw [hW];exact Below.heap_alloc w.drew _ vb hvw)]
    exact hvs j v hj) h1v (by rw [hvl];omega)
  rw [this,hRB];simp only [rowB,Nat.zero_add]
 have hcpB:∀(W:World),W.heap=((w.drew.alloc (.cells ROW e)).setRow w.heap.size RB).heap→∀ty dc sc,(Builtin.copy_ #[(ρ.t 22),(ρ.t 22)] ty #[.slice (some ⟨w.heap.size,(i+m)*i0.size,none⟩) (n+m-(i+m)) dc,.slice (some ⟨b,off+i*i0.size,none⟩) (n-i) sc]).run P W=.ok (goInt (n-i:Nat)) (W.setRow w.heap.size (rowA RB 0 i n m i0.size cs)):=fun W hW ty dc sc=>by
  have:=run_copy_row (ty:=ty) L.t22 L.ie W w.heap.size ((i+m)*i0.size) (n+m-(i+m)) dc RB e (by rw [hW];exact setRow_heap _ _ ROW RB e (0,0) (hN _ rfl)) ⟨b,off+i*i0.size,none⟩ (n-i) sc (n-i) (by omega) (cs.drop (i*i0.size)) hdl
   (fun j v hj=>by
    rw [Addr.add_lit,World.cell?_heap (w:=w) (by rw [hW,setRow_other _ _ b _ (by omega)];exact Below.heap_alloc w.drew _ b hbw),Nat.add_assoc]
    exact hcs (i*i0.size+j) v (by rwa [List.getElem?_drop] at hj)) (fun v hv=>h1c v (List.mem_of_mem_drop hv)) (by rw [hdl,hRBl];omega)
  rw [this];simp only [rowA,Nat.zero_add]
 have hE:((w.alloc (.cells ROW e)).drew).heap=(w.drew.alloc (.cells ROW e)).heap:=rfl;have hF:(((w.alloc (.cells ROW e)).drew.setRow w.heap.size RB).drew).heap=((w.drew.alloc (.cells ROW e)).setRow w.heap.size RB).heap:=rfl
 have hGi:¬(G=i):=by omega
 have hGim:¬(G=i+m):=by omega
 have hci:¬(c=i):=by omega
 have hw1:IntKind.i64.wrap ((i:Int)+(m:Int))=(i:Int)+(m:Int):=by rw [IntKind.wrap_i64];unfold maxLen at hc63;omega
 have hb1:(0:Int)≤(i:Int)+(m:Int):=by omega
 have hin:i≤n:=by omega
 have htn:((i:Int)+(m:Int)).toNat=i+m:=by omega
 have hb3:(i:Int)≤(n:Int):=by omega
 clear hkk hik hold hROW hG hRl e1 e3 e4 e5 hRB hRBl hdl hN hcl hvl
 go_enter L.f21,Body2.n21_ntmps ρ
 go_wp2_with (first
  | (at_builtin;refine Lib.wpList_append_run _ rfl _ _ _ _ rfl _ _ rfl rfl _ _ (hrz _) ?_)
  | (at_builtin;refine wpList_copy_runI _ rfl _ _ (ρ.t 22) (ρ.t 22) rfl _ _ rfl rfl (hcpA _ hE _ _) ?_)
  | (at_builtin;refine wpList_copy_runI _ rfl _ _ (ρ.t 22) (ρ.t 22) rfl _ _ rfl rfl (hcpB _ hF _ _ _) ?_))
 go_region_law_o (refine step_copy_runI rfl _ _ (ρ.t 22) (ρ.t 22) rfl (.slice (some ⟨w.heap.size,(i+m)*i0.size,none⟩) (n+m-(i+m)) (G-(i+m))) (.slice (some ⟨b,off+i*i0.size,none⟩) (n-i) (c-i)) (by simp [Act.eval,Act.put]) (by simp [Act.eval,Act.put]) (hcpB _ hF (ρ.t 3) (G-(i+m)) (c-i)) ?_)
 go_wp2
 go_ret
 exact ⟨rfl,rfl⟩
theorem agg_of {t:Nat}{d:TypeDesc}(h:P.underlying t=some d)(hd:isAggD d=false)(w:World):(isAgg t).run P w=.ok false w:=by
 simp only [Go.isAgg,Sem.run_bind,run_underlying h,Result.andThen_ok]
 cases d<;>simp [isAggD] at hd<;>simp
structure InsB (P:Program) (ρ:Ren) (nm og:String) (ta:Array TypeId):Prop where
 mixed:P.follows .mixedOrders=true
 f21:P.funcs[ρ.f 21]?=some { Body2.n21 ρ with name:=nm,origin:=og,targs:=ta }
 f27 : ∃ fn : Func, P.funcs[ρ.f 27]? = some fn ∧ (fn.name == "runtime.NumGoroutine") = false ∧ fn.body.isNone = true ∧ Extern.findNext fn = none ∧ Extern.find fn = some (Extern.SlicesOverlaps.overlaps #[(ρ.t 22), (ρ.t 22)] #[(ρ.t 4)])
 t0:P.underlying (ρ.t 0)=some (TypeDesc.tuple #[])
 t3:P.underlying (ρ.t 3)=some (TypeDesc.int IntKind.i64)
 t4:P.underlying (ρ.t 4)=some (TypeDesc.bool)
theorem insOk_of (B:InsB P ρ nm og ta):InsOk P (ρ.f 21) (ρ.t 22):=fun e i0 zv h1 h2 h3 h4 h5 h6 =>
 have L:InsL P ρ nm og ta e i0 zv:=⟨B.mixed,B.f21,B.f27,B.t0,agg_of B.t0 rfl,B.t3,agg_of B.t3 rfl,B.t4,agg_of B.t4 rfl,h1,agg_of h1 rfl,h2,h3,h4,h5,h6⟩
 ⟨fun A n c vb voff m vc w W v' hm hn hc hA hr=>ins_end L A n c vb voff m vc w W v' hm hn hc hA (fun _=>hr),
  fun b off n c i vb voff m vc cur vcur eb ev w a1 a2 a3 a4 a5 a6 a7 a8 cs vs a9 a10 a11 a12 a13 a14=>ins_shift L b off n c i vb voff m vc cur vcur eb ev w a1 a2 a3 a4 a5 a6 a7 a8 cs vs a9 a10 a11 a12 a13 a14,
  fun b off n c i vb voff m vc w a1 a2 a3 a4 a5 a6 cs vs a7 a8 a9 a10 a11 a12=>ins_grow L b off n c i vb voff m vc w a1 a2 a3 a4 a5 a6 cs vs a7 a8 a9 a10 a11 a12⟩
def insRen (f21 f27 f28 t0 t3 t4 t22:Nat):Ren where
 f x:=if x=21 then f21 else if x=27 then f27 else f28
 t x:=if x=0 then t0 else if x=3 then t3 else if x=4 then t4 else t22
 g x:=x
end Go.Pi
