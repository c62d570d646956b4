/- no condition -/
import Derived.Test.YtlcanbihlfncoaaPiB
set_option linter.all false
namespace Go.Pi
open Go
variable {P:Program} {T:Tab} {w w':World} {X X':Cx} {S S':St} {v:AV}
def Cx.reloc (X:Cx)(id:Nat)(ρ:Nat×Nat→Nat×Nat):Cx :=
 { X with par:=fun b=>if X.root b=some id then (X.par b).map ρ else X.par b }
theorem Like.refl (w:World)(blk:Nat):Like w w blk:=⟨rfl,TapeLe.refl w,rfl,Nat.le_refl _,fun _ _ _=>rfl⟩
theorem lay_ok (hS:SR T w X S){id:Nat}{ob:Ob}{I:Info}(hob:getOb S id=some ob)(hkd:ob.kd≠.box)(hI:X.φ id=some I)(hl:Like w w' I.g){R:Array Value}{e:TypeId}
    (hrow:w'.heap[I.g]?=some (.cells R e (0,0))) (hR:R.size=I.size)
    (ρ:Nat×Nat→Nat×Nat) (hρ:∀b off,b≠I.g→ρ (b,off)=(b,off)) {els:List (List AV)} {c:Nat→Nat→Value} (hrows:∀r∈els,r.length=ob.sz) (hfit:I.o+els.length*ob.sz≤I.size)
    (hcell:∀i j,i<els.length→j<ob.sz→R[I.o+i*ob.sz+j]?=some (c i j))
    (hval:∀i j,i<els.length→j<ob.sz→∃loc,CR w X id loc (at2 els i j) (c i j)∧ρ loc=(I.g,I.o+i*ob.sz+j)) :
    ∃X',Stn w X w' X'∧SR T w' X' (S.set id (some { ob with els:=els })):=by
 obtain ⟨co,hor⟩:=row_of hS hob hI;have hN:=hS.n;have hsz:=hor.sz
 have s:Stn w X w' (X.reloc id ρ):=by
  refine ⟨⟨hl.os,hl.tape,hl.output,hl.size,fun b hb hr=>⟨?_,?_⟩,fun b hb hr=>hr,rfl,rfl⟩,Nat.le_refl _,fun i hi=>rfl⟩
  · have:b≠I.g:=by rintro rfl;exact hr ⟨by rw [hor.root];simp,.inl hor.par⟩
    exact hl.keep b hb this
  · rintro ⟨k1,k2⟩
    refine hr ⟨k1,?_⟩
    rcases k2 with k2|k2
    · refine .inl ?_;simp only [Cx.reloc] at k2;split at k2
      · simpa using k2
      · exact k2
    · exact .inr k2
 refine ⟨_,s,⟨by simp [Cx.reloc,hN],fun b hb=>Nat.lt_of_lt_of_le (hS.lab b hb) hl.size,fun b hb=>Nat.lt_of_lt_of_le (hS.pro b hb) hl.size,fun id' ob' h=>?_,hS.sft⟩⟩
 rcases getOb_set h with ⟨rfl,rfl⟩|⟨hne',h''⟩
 · unfold OK;have e1:(X.reloc id' ρ).φ id'=some I:=hI;rw [e1]
   refine ⟨c,hsz,hrows,hor.root,by simp [Cx.reloc,hor.root,hor.par],hor.npro,⟨R,e,hrow,hR⟩,by rw [hsz];exact hfit,fun i j hi hj=>?_,fun i j hi hj=>?_⟩
   · have:=hcell i j hi hj;rw [hsz];simp only [World.cell?,hrow];simpa using this
   · show if ob.kd=.box then _ else _
     rw [if_neg hkd,hsz];obtain ⟨loc,h0,hl0⟩:=hval i j hi hj
     have:=h0.reloc s.toStp (rid:=id') ρ (fun b off hp=>hρ b off (by rintro rfl;exact hp hor.par)) (fun b _ hr _=>by simp [Cx.reloc,hr]) (fun _ b hb _ hp=>hl.keep b hb (by rintro rfl;exact hp hor.par))
     rw [hl0] at this;exact this
 · refine (hS.obs id' ob' h'').keep s (by rw [hN];exact getOb_lt h'') (fun b hb hr=>by simp [Cx.reloc,hr,hne']) (fun I' hI'=>?_) (fun _ b hb _ hp=>hl.keep b hb (by rintro rfl;exact hp hor.par))
   obtain ⟨c',hor'⟩:=row_of hS h'' hI';obtain ⟨cur',e',hb',_⟩:=hor'.blk;refine hl.keep I'.g (Array.getElem?_eq_some_iff.1 hb').1 ?_;intro he;have:=hor'.root;rw [he,hor.root] at this
   injection this with this
   exact hne' this.symm
theorem del_at2 (E:List (List AV))(i j:Nat)(hi:i≤j)(hj:j≤E.length)(a b:Nat):at2 (E.take i++E.drop j) a b=if a<i then at2 E a b else at2 E (a+(j-i)) b:=by
 have hl:(E.take i).length=i:=by rw [List.length_take];omega
 rw [at2_append,hl]
 by_cases h1:a<i
 · rw [if_pos h1,if_pos h1];simp [at2,List.getD_eq_getElem?_getD,h1]
 · rw [if_neg h1,if_neg h1];simp only [at2,List.getD_eq_getElem?_getD,List.getElem?_drop]
   have e:j+(a-i)=a+(j-i):=by omega
   rw [e]
theorem del_ok (hT:TabOk P T){f t:Nat}(hd:DelOk P f t)(hS:SR T w X S){args:List AV}{us:List Value}(hl:args.length=us.length)(hv:∀i,i<args.length→VR w X (args.getD i .undef) (us.getD i Go.undef))
    (h:evDel T t args S=some (v,S')):Calls P f us.toArray w (fun e w'=>∃v' X',e=.returned v'∧Stn w X w' X'∧SR T w' X' S'∧VR w' X' v v'):=by
 unfold evDel at h;split at h
 rotate_left
 · cases h
 rename_i te id n i j hte
 match us,hl,hv with
 | [u0,u1,u2],hl',hv =>
 clear hl'
 have h0:VR w X (.sl id 0 n) u0:=by simpa using hv 0 (by simp)
 have h1:VR w X (.int .i64 i) u1:=by simpa using hv 1 (by simp)
 have h2:VR w X (.int .i64 j) u2:=by simpa using hv 2 (by simp)
 cases h1;cases h2;clear hv;obtain ⟨e,hu,hok,hpos,hby⟩:=hT.elemSlice hte;obtain ⟨i0,zv,hinfo,hsz,hb,hz,hzc,_,_⟩:=hok.run_info
 have hzs:zv.cells.size=i0.size:=by rw [←Array.length_toList,hzc,hsz];simp [hok.zlen]
 have A:=hd e i0 zv hu hinfo hz hzs (by omega)
 split at h
 · cases h
 rename_i ob hrow;split at h
 rotate_left
 · cases h
 rename_i hc;obtain ⟨hobsz,hn,hi0,hij,hjn⟩:=hc;cases h;obtain ⟨hob,hkd⟩:=isRow_ob hrow;obtain ⟨i,rfl⟩:=Int.eq_ofNat_of_zero_le hi0
 obtain ⟨j,rfl⟩:=Int.eq_ofNat_of_zero_le (show 0≤j by omega)
 have hij:i<j:=by omega
 have hjn:j≤n:=by omega
 simp only [Int.toNat_natCast]
 cases h0 with
 | slz id lo A' hid=>omega
 | sl id' lo n' cap I hid hI hnc hcap hmax =>
 obtain ⟨c,hor⟩:=row_of hS hob hI;obtain ⟨cur,eb,hblk,hcs⟩:=hor.blk;have hIsz:=hor.sz
 have hmax':cap≤9223372036854775807:=by unfold maxLen at hmax;omega
 have e0:I.o+0*I.sz=I.o:=by omega
 rw [e0]
 have hIs:I.sz=i0.size:=by omega
 have hone:∀v∈(Builtin.zeroCells zv.cells (j-i)).toList,v.oneCell'=true:=by
  intro v hv;simp only [Builtin.zeroCells,Array.toList_map,List.mem_map] at hv;obtain ⟨k,_,rfl⟩:=hv
  have hlt:k % zv.cells.size<zv.cells.size:=Nat.mod_lt _ (by omega)
  have hm:zv.cells[k % zv.cells.size]! ∈ zv.cells.toList:=by
   rw [getElem!_pos zv.cells _ hlt];exact Array.getElem_mem_toList hlt
  rw [hzc] at hm;obtain ⟨z,hz1,hz2⟩:=List.mem_map.1 hm;rw [←hz2];have:=List.all_eq_true.1 hok.zok z hz1
  exact (zOf_ok w X this).one (by cases z<;>simp [zOk] at this<;>simp) (by cases z<;>simp [zOk] at this<;>simp)
 have hel:n=ob.els.length:=hn
 have hval:∀a b,a<n→b<ob.sz→CR w X id (I.g,I.o+a*I.sz+b) (at2 ob.els a b) (c a b):=fun a b ha hb=>by
  have:=hor.val a b (by omega) hb
  rwa [if_neg hkd] at this
 have hcell:=hor.cell;have hcl:(flat n i0.size c).length=n*i0.size:=flat_length _ _ _
 have hfl:∀k v,(flat n i0.size c)[k]?=some v→w.cell? ⟨I.g,I.o+k,none⟩=some v:=by
  have:=flat_read (w:=w) (n:=n) (sz:=i0.size) (c:=c) (g:=I.g) (p:=I.o) (fun a b ha hb=>by have:=hcell a b (by omega) (by omega);rw [hIs] at this;exact this)
  intro k v hk;have:=this k v hk;rwa [Addr_add] at this
 have hone2:∀v∈flat n i0.size c,v.oneCell'=true:=by
  intro u hu';simp only [flat,List.mem_map,List.mem_range] at hu';obtain ⟨k,hk,rfl⟩:=hu';obtain ⟨h1,h2,h3⟩:=flat_split hk
  exact (hval _ _ h1 (by omega)).one
 have hcapf:I.o+cap*i0.size≤cur.size:=by rw [hcs,←hIs];simpa using hcap
 refine (A I.g I.o n cap i j cur eb w hij hjn hnc hmax' hblk hcapf (flat n i0.size c) hcl hfl hone2 hone).mono ?_
 rintro r w1 ⟨rfl,rfl⟩
 have hdl:((flat n i0.size c).drop (j*i0.size)).length=(n-j)*i0.size:=by rw [List.length_drop,hcl,Nat.sub_mul]
 have hzl:((Builtin.zeroCells zv.cells (j-i)).toList).length=(j-i)*i0.size:=by simp [Builtin.zeroCells,hzs]
 have m1:n*i0.size≤cap*i0.size:=Nat.mul_le_mul_right _ hnc;have m2:j*i0.size≤n*i0.size:=Nat.mul_le_mul_right _ hjn
 have m3:i*i0.size+(n-j)*i0.size=(n-(j-i))*i0.size:=by rw [←Nat.add_mul];congr 1;omega
 have m4:(n-(j-i))*i0.size+(j-i)*i0.size=n*i0.size:=by rw [←Nat.add_mul];congr 1;omega
 obtain ⟨R1,hR1⟩:∃R1,R1=rowB cur I.o i (n-j) i0.size ((flat n i0.size c).drop (j*i0.size)):=⟨_,rfl⟩
 have s1:R1.size=cur.size:=by rw [hR1];exact rowB_size cur I.o i (n-j) i0.size _ hdl (by rw [Nat.add_mul];omega)
 obtain ⟨R2,hR2⟩:∃R2,R2=rowB R1 I.o (n-(j-i)) (j-i) i0.size (Builtin.zeroCells zv.cells (j-i)).toList:=⟨_,rfl⟩
 have s2:R2.size=cur.size:=by rw [hR2,rowB_size R1 I.o _ (j-i) i0.size _ hzl (by rw [s1,Nat.add_mul];omega),s1]
 rw [←hR1,←hR2]
 have g2:∀p,p<(n-(j-i))*i0.size→R2[I.o+p]?=R1[I.o+p]?:=fun p hp=>by
  rw [hR2,rowB_get R1 I.o _ (j-i) i0.size _ hzl (by rw [s1];omega),if_pos (by omega)]
 have g1:∀p,p<i*i0.size→R1[I.o+p]?=cur[I.o+p]?:=fun p hp=>by
  rw [hR1,rowB_get cur I.o i (n-j) i0.size _ hdl (by omega),if_pos (by omega)]
 have g1':∀p,i*i0.size≤p→p<(n-(j-i))*i0.size→R1[I.o+p]?=(flat n i0.size c)[j*i0.size+(p-i*i0.size)]?:=fun p hp hq=>by
  rw [hR1,rowB_get cur I.o i (n-j) i0.size _ hdl (by omega),if_neg (by omega),if_pos (by omega),List.getElem?_drop]
  congr 1;omega
 have rlen:(ob.els.take i++ob.els.drop j).length=n-(j-i):=by simp;omega
 have rels:∀r∈ob.els.take i++ob.els.drop j,r.length=ob.sz:=by
  intro r hr
  rcases List.mem_append.1 hr with hr|hr
  · exact hor.rows r (List.mem_of_mem_take hr)
  · exact hor.rows r (List.mem_of_mem_drop hr)
 obtain ⟨X',s,hS',hN',hφ'⟩:=place_ok (w':=(w.drew.setRow I.g R1).setRow I.g R2) (R:=R2) hS hob hI hblk (by exact setRow_twice (w:=w.drew) hblk) rfl ⟨rfl,Nat.le_succ _⟩ rfl (by rw [s2,hcs])
  (fun l=>if l.1=I.g then (I.g,if l.2<I.o+j*i0.size then l.2 else l.2-(j-i)*i0.size) else l) (fun b off hb=>by simp [hb])
  (els:=ob.els.take i++ob.els.drop j) (c:=fun a b=>if a<i then c a b else c (a+(j-i)) b) rels (by rw [rlen,hobsz,←hsz];omega)
  (fun a b ha hb=>by
   rw [rlen] at ha
   have hb':b<i0.size:=by omega
   have hlt:=idx_lt (sz:=i0.size) ha hb'
   rw [show ob.sz=i0.size by omega,Nat.add_assoc,g2 _ hlt]
   by_cases h1:a<i
   · have hlt':=idx_lt (sz:=i0.size) h1 hb';rw [if_pos h1,g1 _ hlt']
     have:=hcell a b (by omega) (by omega)
     rw [hIs] at this;simp only [World.cell?,hblk] at this;rw [Nat.add_assoc] at this;simpa using this
   · have hge:i*i0.size≤a*i0.size:=Nat.mul_le_mul_right _ (by omega)
     rw [if_neg h1,g1' _ (by omega) hlt]
     have e:j*i0.size+(a*i0.size+b-i*i0.size)=(a+(j-i))*i0.size+b:=by
      have:(a+(j-i))*i0.size=a*i0.size+(j*i0.size-i*i0.size):=by rw [Nat.add_mul,Nat.sub_mul]
      have:i*i0.size≤j*i0.size:=Nat.mul_le_mul_right _ (by omega)
      omega
     rw [e]
     exact flat_at (by omega) hb')
  (fun a b ha hb=>by
   rw [rlen] at ha
   right
   have hb':b<i0.size:=by omega
   rw [del_at2 _ _ _ (by omega) (by omega)]
   by_cases h1:a<i
   · refine ⟨_,by rw [if_pos h1,if_pos h1];exact hval a b (by omega) hb,?_⟩
     have hlt':=idx_lt (sz:=i0.size) h1 hb'
     have:i*i0.size≤j*i0.size:=Nat.mul_le_mul_right _ (by omega)
     simp only [if_true]
     rw [if_pos (by rw [hIs];omega),hIs,show ob.sz=i0.size by omega]
   · refine ⟨_,by rw [if_neg h1,if_neg h1];exact hval (a+(j-i)) b (by omega) hb,?_⟩
     have e:(a+(j-i))*i0.size=a*i0.size+(j-i)*i0.size:=Nat.add_mul _ _ _
     have e2:j*i0.size=i*i0.size+(j-i)*i0.size:=by rw [←Nat.add_mul];congr 1;omega
     have hge:i*i0.size≤a*i0.size:=Nat.mul_le_mul_right _ (by omega)
     simp only [if_true]
     rw [if_neg (by rw [hIs];omega),hIs,show ob.sz=i0.size by omega]
     congr 1;omega)
 refine ⟨_,X',rfl,s,by rw [hobsz] at hS';exact hS',?_⟩
 have hN:=hS.n
 have:=VR.sl (w:=(w.drew.setRow I.g R1).setRow I.g R2) (X:=X') S.length 0 (n-(j-i)) cap I (by omega) (by rw [←hN];exact hφ') (by omega) (by simpa using hcap) hmax
 rw [e0] at this;exact this
theorem VR.like (h0:X.N=0){blk:Nat}(hb:X.pro blk)(hl:Like w w' blk){av:AV}{u:Value}(h:VR w X av u):VR w' X av u:=by
 have key:∀q b,b<w.heap.size→X.ok q b→w'.heap[b]?=w.heap[b]?∧X.ok q b:=fun q b hlt hok =>
  ⟨hl.keep b hlt (by rintro rfl;exact Cx.ok_npro hok hb),hok⟩
 induction h with
 | int k n=>exact .int k n
 | bool b=>exact .bool b
 | str s=>exact .str s
 | nil=>exact .nil
 | nilp=>exact .nilp
 | fn f caps cv hl _ ih=>exact .fn f caps cv hl ih
 | agg cs cv hl _ ih=>exact .agg cs cv hl ih
 | tup cs cv hl _ ih=>exact .tup cs cv hl ih
 | ts q hq sz els v h=>exact .ts q hq sz els v (h.keep hl.size (key q))
 | tp q hq sz els i j v h=>exact .tp q hq sz els i j v (h.keep hl.size (key q))
 | sl id lo n cap I hid hI hn hc hm=>omega
 | slz id lo A hid=>omega
 | ptr id i j I hid hI=>omega
theorem vr_arg {q:Ql}(hq:q≠.own){c:AV}{u:Value}(h:Rd w (X.ok q) c u):VR w X (setQ q c) u :=
 (h.slot hq).deep hq (fun cs e=>by subst e;cases h)
theorem all_range {n:Nat}{p:Nat→Bool}(h:(List.range n).all p=true):∀i,i<n→p i=true:=fun i hi=>List.all_eq_true.1 h i (List.mem_range.2 hi)
theorem ordOk_of {n:Nat}{lt:Nat→Nat→Bool}(h:ordOk n lt=true):(∀i,i<n→lt i i=false)∧(∀i j,i<n→j<n→i≠j→lt i j=true∨lt j i=true)∧(∀i j k,i<n→j<n→k<n→lt i j=true→lt j k=true→lt i k=true):=by
 unfold ordOk at h;have h':=all_range h
 refine ⟨fun i hi=>?_,fun i j hi hj hne=>?_,fun i j k hi hj hk h1 h2=>?_⟩
 · have:=h' i hi;simp only [Bool.and_eq_true,Bool.not_eq_true'] at this;exact this.1
 · have:=h' i hi;simp only [Bool.and_eq_true] at this;have:=all_range this.2 j hj;simp only [Bool.and_eq_true,Bool.or_eq_true,beq_iff_eq] at this
   rcases this.1 with (h1|h1) | h1
   · exact absurd h1 hne
   · exact .inl h1
   · exact .inr h1
 · have:=h' i hi;simp only [Bool.and_eq_true] at this;have:=all_range this.2 j hj;simp only [Bool.and_eq_true] at this;have:=all_range this.2 k hk;simpa [h1,h2] using this
theorem tabO_get {α:Type}{c:α→α→Option Int}{xs:List α}{t:List (List Int)}(h:tabO c xs=some t){i j:Nat}(hi:i<xs.length)(hj:j<xs.length):c xs[i] xs[j]=some ((t.getD i []).getD j 0):=by
 obtain ⟨h1,h2⟩:=mapO_get h
 have h3:=h2 i hi (by omega)
 obtain ⟨h4,h5⟩:=mapO_get h3
 have h6:=h5 j hj (by omega)
 rw [h6]
 have hi':i<t.length:=by omega
 have hj':j<t[i].length:=by omega
 simp [List.getD_eq_getElem?_getD,hi',hj']
theorem ordIdx_fin (m:Nat)(lt:Nat→Nat→Bool):ordIdx (m+1) lt=((List.finRange (m+1)).mergeSort fun x y=>!lt y.val x.val).map Fin.val:=by
 unfold ordIdx
 have e:List.range (m+1)=(List.finRange (m+1)).map Fin.val:=by
  apply List.ext_getElem
  · simp
  · intro i h1 h2;simp
 rw [e]
 exact (List.map_mergeSort (f:=Fin.val) (r:=fun x y:Fin (m+1)=>!lt y.val x.val) (s:=fun i j=>!lt j i) (l:=List.finRange (m+1)) (fun a _ b _=>rfl)).symm
theorem sort_ok {F:Nat→List AV→St→Option (AV×St)}(hT:TabOk P T)(hF:FOK P T F){f t:Nat}(hs:SortOk P f t)(hS:SR T w X S){args:List AV}{us:List Value}(hl:args.length=us.length)(hv:∀i,i<args.length→VR w X (args.getD i .undef) (us.getD i Go.undef))
    (h:evSort T F t args S=some (v,S')):Calls P f us.toArray w (fun e w'=>∃v' X',e=.returned v'∧Stn w X w' X'∧SR T w' X' S'∧VR w' X' v v'):=by
 unfold evSort at h;split at h
 rotate_left
 · cases h
 rename_i te id n g caps hte
 match us,hl,hv with
 | [u0,u1],hl',hv =>
 clear hl'
 have h0:VR w X (.sl id 0 n) u0:=by simpa using hv 0 (by simp)
 have h1:VR w X (.fn g caps) u1:=by simpa using hv 1 (by simp)
 clear hv;obtain ⟨e,hu,hok,hpos,hby⟩:=hT.elemSlice hte;obtain ⟨i0,zv,hinfo,hsz,hb,hz,hzc,_,_⟩:=hok.run_info
 have A:=hs e i0 zv te.agg hu hinfo hz (by omega) (fun w=>hok.run_isAgg w)
 split at h
 rotate_left
 · cases h
 rename_i gi ob caps' hgi hrow hcaps;split at h
 rotate_left
 · cases h
 rename_i hc;obtain ⟨hgk,hgs,hsoft,hobsz,hn,hbig,hidn⟩:=hc;split at h
 rotate_left
 · cases h
 rename_i els hels;cases h;obtain ⟨hob,hkd⟩:=isRow_ob hrow
 have hundef:∀(w':World) (X':Cx),VR w' X' (.tup []) (.tuple #[]):=fun w' X'=>VR.undef w' X'
 by_cases hn0:n=0
 · 
   subst hn0;have hnil:ob.els=[]:=List.eq_nil_of_length_eq_zero hn.symm
   have he:els=[]:=by
    rw [hnil] at hels;simp [sortO,tabO,mapO,ordOk,ordIdx] at hels
    first | exact hels | exact hels.symm
   have hset:S.set id (some { ob with els:=els })=S:=by
    have hlt:=getOb_lt hob;unfold getOb at hob
    have hSi:S[id]?=some (some ob):=by
     split at hob
     · rename_i ob' hh;injection hob with hob;rw [hh,hob]
     · cases hob
    have:({ ob with els:=els }:Ob)=ob:=by rw [he,←hnil]
    rw [this]
    apply List.ext_getElem?
    intro k
    by_cases hk:k=id
    · subst hk;rw [List.getElem?_set_self hlt,hSi]
    · rw [List.getElem?_set_ne (fun e=>hk e.symm)]
   rw [hset]
   have:∃A' c,u0=.slice A' 0 c:=by cases h0<;>exact ⟨_,_,rfl⟩
   obtain ⟨A',c,rfl⟩:=this;refine (A.empty A' c u1 w).mono ?_
   rintro r w' ⟨rfl,rfl⟩
   exact ⟨_,X,rfl,Stn.refl _ X,hS,hundef _ _⟩
 obtain ⟨m,rfl⟩:∃m,n=m+1:=⟨n-1,by omega⟩
 cases h0 with
 | sl id' lo n' cap I hid hI hnc hcap hmax =>
 obtain ⟨c,hor⟩:=row_of hS hob hI;obtain ⟨cur,eb,hblk,hcs⟩:=hor.blk;have hIlt:I.g<w.heap.size:=(Array.getElem?_eq_some_iff.1 hblk).1;have hIsz:=hor.sz
 have e0:I.o+0*I.sz=I.o:=by omega
 rw [e0]
 have hIs:I.sz=i0.size:=by omega
 have hosz:ob.sz=i0.size:=by omega
 have hsf:¬X.soft:=fun k=>by have:=hS.sft.1 k;rw [hsoft] at this;cases this
 have hval:∀a b,a<m+1→b<i0.size→CR w X id (I.g,I.o+a*i0.size+b) (at2 ob.els a b) (c a b):=fun a b ha hb=>by
  have:=hor.val a b (by omega) (by omega)
  rwa [if_neg hkd,hIs] at this
 have hcell:∀a b,a<m+1→b<i0.size→cur[I.o+a*i0.size+b]?=some (c a b):=fun a b ha hb=>by
  have:=hor.cell a b (by omega) (by omega)
  rw [hIs] at this;simp only [World.cell?,hblk] at this;simpa using this
 let Ak:Nat→Prop:=fun b=>b≠I.g
 let Xi:=X.inner w.heap.size Ak
 have hroot:X.isRoot I.g:=⟨by rw [hor.root];simp,.inl hor.par⟩
 have hpro:Xi.pro I.g:=.inr ⟨hIlt,fun k=>k rfl⟩
 have hlend:lend S [] (.fn g caps)=some (.fn g caps'):=by simp only [lend,hcaps]
 have hfn:VR w Xi (.fn g caps') u1:=by
  refine lend_ok hS h1 hlend ⟨fun b hb=>?_,fun id' hid' b hb=>?_,.inl fun b hb=>?_⟩
  · rintro rfl;rw [hor.root] at hb;cases hb
  · rintro rfl
    rw [hor.root] at hb
    injection hb with hb
    subst hb;exact hidn hid'
  · rintro rfl;exact hb hroot
 obtain ⟨cv,rfl,hcl,hcv⟩:=hfn.fn_inv
 let enc:Fin (m+1)→List Value:=fun x=>(List.range i0.size).map fun b=>c x.val b
 have henc:∀x,(enc x).length=i0.size:=fun x=>by simp [enc]
 have hencg:∀(x:Fin (m+1)) (b:Nat) (u:Value),(enc x)[b]?=some u→b<i0.size∧u=c x.val b:=fun x b u hu'=>by
  have hlt:=(List.getElem?_eq_some_iff.1 hu').1;rw [henc] at hlt;refine ⟨hlt,?_⟩;simp [enc,hlt] at hu';exact hu'.symm
 have hone:∀x,∀u∈enc x,u.oneCell'=true:=fun x u hu'=>by
  obtain ⟨b,hb⟩:=List.getElem?_of_mem hu';obtain ⟨h1,rfl⟩:=hencg x b u hb;exact (hval _ _ x.isLt h1).one
 have hread:∀a b,a<m+1→b<i0.size→VR w Xi (setQ .imm (at2 ob.els a b)) (c a b):=fun a b ha hb =>
  vr_arg (by simp) (rd_bor (fun b' hb'=>by rintro rfl;exact hb' hroot) ((hval a b ha hb).look hsf))
 have hrowl:∀a,a<m+1→(ob.els.getD a []).length=i0.size:=fun a ha=>by
  have hlt:a<ob.els.length:=by omega
  rw [List.getD_eq_getElem?_getD,List.getElem?_eq_getElem hlt];exact (hor.rows _ (List.getElem_mem hlt)).trans hosz
 have hargv:∀x:Fin (m+1),VR w Xi (argRow te.agg (ob.els.getD x.val [])) (argV te.agg (enc x)):=fun x=>by
  have hrl:=hrowl x.val x.isLt
  cases hag:te.agg with
  | true =>
   show VR w Xi (.agg (setQL .imm (ob.els.getD x.val []))) (.agg (enc x).toArray)
   refine .agg _ _ (by rw [setQL_eq,List.length_map,hrl,henc]) (fun b hb=>?_)
   rw [setQL_eq,List.length_map,hrl] at hb;have h5:=hread x.val b x.isLt hb
   have e1:(setQL .imm (ob.els.getD x.val [])).getD b .undef=setQ .imm (at2 ob.els x.val b):=by
    rw [setQL_eq,List.getD_eq_getElem?_getD,List.getElem?_map,List.getElem?_eq_getElem (by rw [hrl];exact hb)]
    simp [at2,List.getD_eq_getElem?_getD,List.getElem?_eq_getElem (show b<(ob.els.getD x.val []).length by rw [hrl];exact hb)]
    congr 1
    have hlt:x.val<ob.els.length:=by omega
    have hb2:b<ob.els[x.val].length:=by rw [hor.rows _ (List.getElem_mem hlt)];omega
    simp [hlt,hb2]
   have e2:(enc x).getD b Go.undef=c x.val b:=by simp [enc,List.getD_eq_getElem?_getD,hb]
   rw [e1,e2];exact h5
  | false =>
   have h1s:i0.size=1:=by have:=hok.agg1 hag;omega
   have h5:=hread x.val 0 x.isLt (by omega)
   have hlt:x.val<ob.els.length:=by omega
   obtain ⟨d,hd⟩:∃d,ob.els.getD x.val []=[d]:=by
    rw [h1s] at hrl;exact List.length_eq_one_iff.1 hrl
   rw [hd]
   have e1:at2 ob.els x.val 0=d:=by simp only [at2,hd];rfl
   rw [e1] at h5
   have e2:argV false (enc x)=c x.val 0:=by simp [argV,enc,h1s,List.getD_eq_getElem?_getD]
   show VR w Xi (setQ .imm d) _;rw [e2];exact h5
 unfold sortO at hels
 cases htab:tabO (cmpAt F g caps' te.agg) ob.els with
 | none=>rw [htab] at hels;cases hels
 | some tab =>
 rw [htab] at hels;simp only at hels;split at hels
 rotate_left
 · cases hels
 rename_i hord
 injection hels with hels
 rw [←hn] at hord hels;obtain ⟨o1,o2,o3⟩:=ordOk_of hord
 let cf:Fin (m+1)→Fin (m+1)→Int:=fun x y=>(tab.getD x.val []).getD y.val 0
 have hcf:∀x y:Fin (m+1),tabLt tab x.val y.val=decide (cf x y<0):=fun x y=>rfl
 have hcmp:∀x y:Fin (m+1),F g (argRow te.agg (ob.els.getD x.val [])::argRow te.agg (ob.els.getD y.val [])::caps') []=some (.int .i64 (cf x y),[]):=fun x y=>by
  have hx:x.val<ob.els.length:=by omega
  have hy:y.val<ob.els.length:=by omega
  have h5:=tabO_get htab hx hy
  have ex:ob.els.getD x.val []=ob.els[x.val]:=by simp [List.getD_eq_getElem?_getD,hx]
  have ey:ob.els.getD y.val []=ob.els[y.val]:=by simp [List.getD_eq_getElem?_getD,hy]
  rw [ex,ey];unfold cmpAt at h5;split at h5
  · rename_i k hk
    injection h5 with h5
    rw [hk,h5]
  · cases h5
 obtain ⟨fn,c0,hfn,hbody,_,_,_,hname⟩:=hT.fn g gi hgi
 have hname' : ¬ fn.name = "runtime.NumGoroutine" := by simpa using hname
 have heg:∀args w,(callFunc g args).run P w=.ok (.enter g args) w:=fun args w=>by simp [callFunc,program,Sem.run,hfn,hname',hbody]
 have hcalls:∀W,Like w W I.g→∀x y,Calls P g (#[argV te.agg (enc x),argV te.agg (enc y)]++cv.toArray) W fun e w'=>e=.returned (.int .i64 (cf x y))∧Like W w' W.heap.size:=by
  intro W hW x y;obtain ⟨fi,hfi,hsh,hcall⟩:=hF g _ [] _ _ (hcmp x y);rw [hgi] at hfi
  injection hfi with hfi
  subst hfi
  have hSi:SR (T.at gi.soft) W Xi []:=⟨rfl,fun b hb=>absurd rfl hb,fun b hb=>by
   rcases hb with hb|hb
   · exact Nat.lt_of_lt_of_le (hS.pro b hb) hW.size
   · exact Nat.lt_of_lt_of_le hb.1 hW.size,fun id ob h=>by simp [getOb] at h,⟨fun k=>k.elim,fun k=>by simp [Tab.at,hgs] at k⟩⟩
  have harr:#[argV te.agg (enc x),argV te.agg (enc y)]++cv.toArray=(argV te.agg (enc x)::argV te.agg (enc y)::cv).toArray:=by simp
  rw [harr]
  refine (hcall W Xi (argV te.agg (enc x)::argV te.agg (enc y)::cv) hSi (by simp [hcl]) (fun i hi=>?_)).mono ?_
  · have low:∀ {av:AV} {u:Value},VR w Xi av u→VR W Xi av u:=fun h=>VR.like rfl hpro hW h
    match i,hi with
    | 0,_=>exact low (hargv x)
    | 1,_=>exact low (hargv y)
    | i+2,hi=>exact low (by simpa using hcv i (by simpa using hi))
  · rintro r w'' ⟨v',X',rfl,s,_,hr⟩
    cases hr
    exact ⟨rfl,s.os,s.tape,s.output,s.size,fun b hb _=>(s.keep b hb (not_root_of_none rfl)).1⟩
 have hcapf:I.o+(m+1)*i0.size≤cur.size:=by
  have h1:=hor.fits;rw [hIs,←hn] at h1;omega
 refine (A.run m enc cf g cv.toArray I.g I.o cap w cur eb henc hone (fun x=>by have:=o1 x.val x.isLt;rw [hcf] at this;simpa using this)
  (fun x y z h1 h2=>by
   have:=o3 x.val y.val z.val x.isLt y.isLt z.isLt (by rw [hcf];simpa using h1) (by rw [hcf];simpa using h2)
   rw [hcf] at this;simpa using this)
  (fun x y hne=>by
   have:=o2 x.val y.val x.isLt y.isLt (fun k=>hne (Fin.ext k))
   rw [hcf,hcf] at this;simpa using this) heg hcalls hblk hcapf (fun a ha b u hu'=>by
    obtain ⟨h1,rfl⟩:=hencg _ _ _ hu'
    exact hcell a b ha h1) (by
     have:maxRow=68719476736:=rfl
     omega)).mono ?_
 rintro r w' ⟨rfl,hlk,R,hRrow,hRs,hRc⟩
 obtain ⟨p,hp⟩:∃p,p=(List.finRange (m+1)).mergeSort fun x y=>!decide (cf y x<0):=⟨_,rfl⟩
 rw [←hp] at hRc
 have hperm:p.Perm (List.finRange (m+1)):=by rw [hp];exact List.mergeSort_perm _ _
 have hpl:p.length=m+1:=by rw [hperm.length_eq];simp
 have hpn:p.Nodup:=hperm.nodup_iff.2 (List.nodup_finRange _)
 have hidx:ordIdx (m+1) (tabLt tab)=p.map Fin.val:=by rw [ordIdx_fin,hp];rfl
 rw [hidx] at hels
 have hel:els=p.map fun x=>ob.els.getD x.val []:=by rw [←hels,List.map_map];rfl
 have hlen:els.length=m+1:=by rw [hel];simp [hpl]
 have hat:∀a b (ha:a<p.length),at2 els a b=at2 ob.els p[a].val b:=fun a b ha=>by
  simp [at2,hel,List.getD_eq_getElem?_getD,ha]
 let pos:Nat→Nat:=fun x=>if hx:x<m+1 then p.idxOf ⟨x,hx⟩ else 0
 have hpos':∀a (ha:a<p.length),pos p[a].val=a:=fun a ha=>by
  have:p[a].val<m+1:=p[a].isLt;simp only [pos,this,dif_pos];exact List.Nodup.idxOf_getElem hpn a ha
 have hs0:0<i0.size:=by omega
 obtain ⟨X',s,hS'⟩:=lay_ok hS hob hkd hI hlk hRrow (by rw [hRs,hcs])
  (fun l=>if l.1=I.g then (I.g,I.o+pos ((l.2-I.o) / i0.size)*i0.size+(l.2-I.o) % i0.size) else l) (fun b off hb=>by simp [hb])
  (els:=els) (c:=fun a b=>c (p.getD a 0).val b) (fun r hr=>by
   rw [hel] at hr;obtain ⟨x,_,rfl⟩:=List.mem_map.1 hr
   exact (hrowl x.val x.isLt).trans hosz.symm) (by rw [hlen,hosz,←hcs];exact hcapf)
  (fun a b ha hb=>by
   rw [hosz] at hb ⊢
   have ha':a<p.length:=by omega
   refine hRc a ha' b _ ?_
   simp [enc,hb,List.getD_eq_getElem?_getD,ha'])
  (fun a b ha hb=>by
   rw [hosz] at hb ⊢
   have ha':a<p.length:=by omega
   refine ⟨_,by rw [hat a b ha',List.getD_eq_getElem?_getD,List.getElem?_eq_getElem ha'];exact hval p[a].val b p[a].isLt hb,?_⟩
   simp only [if_true]
   have e1:I.o+p[a].val*i0.size+b-I.o=b+i0.size*p[a].val:=by rw [Nat.mul_comm];omega
   rw [e1,Nat.add_mul_div_left _ _ hs0,Nat.div_eq_of_lt hb,Nat.zero_add,hpos' a ha',Nat.add_mul_mod_self_left,Nat.mod_eq_of_lt hb])
 exact ⟨_,X',rfl,s,hS',hundef _ _⟩
end Go.Pi

namespace Go.Pi
open Go
variable {P:Program} {T:Tab} {w w':World} {X X':Cx} {S S':St} {v:AV}
theorem stn_like (hS:SR T w X S)(hl:Like w w' w.heap.size){g:Nat}(hg:w.heap.size≤g)(I:Option Info):Stn w X w' (X.add X.N g I):=by
 refine ⟨⟨hl.os,hl.tape,hl.output,hl.size,fun b hb hr=>⟨hl.keep b hb (by omega),?_⟩,fun b hb hr=>?_,rfl,rfl⟩,by simp [Cx.add],fun id hid=>?_⟩
 · have:b≠g:=by omega
   simpa [Cx.isRoot,Cx.add,this] using hr
 · have:b≠g:=by omega
   simpa [Cx.add,this] using hr
 · have:id≠X.N:=by omega
   simp [Cx.add,this]
theorem sr_new (hS:SR T w X S)(hl:Like w w' w.heap.size){g:Nat}(hg:w.heap.size≤g){cur:Array Value}{e:TypeId}(hgb:w'.heap[g]?=some (.cells cur e (0,0))){ob:Ob}(hkd:ob.kd≠.box)(c:Nat→Nat→Value)(hrows:∀r∈ob.els,r.length=ob.sz)
    (hfit:ob.els.length*ob.sz≤cur.size) (hc:∀i j,i<ob.els.length→j<ob.sz→cur[i*ob.sz+j]?=some (c i j))
    (hval:∀i j,i<ob.els.length→j<ob.sz→CR w X X.N (g,i*ob.sz+j) (at2 ob.els i j) (c i j)) :
    Stn w X w' (X.add X.N g (some ⟨g,0,ob.sz,cur.size⟩))∧SR T w' (X.add X.N g (some ⟨g,0,ob.sz,cur.size⟩)) (S++[some ob]):=by
 have s:=stn_like (g:=g) hS hl hg (some ⟨g,0,ob.sz,cur.size⟩);have hgl:g<w'.heap.size:=(Array.getElem?_eq_some_iff.1 hgb).1;have hsz:=hl.size
 have hk:∀b,b<w.heap.size→w'.heap[b]?=w.heap[b]?:=fun b hb=>hl.keep b hb (by omega)
 refine ⟨s,by simp [Cx.add,hS.n],fun b hb=>?_,fun b hb=>by have:=hS.pro b hb;omega,fun id ob' h=>?_,hS.sft⟩
 · by_cases he:b=g
   · subst he;exact hgl
   · have:=hS.lab b (by simpa [Cx.add,he] using hb)
     omega
 · rcases getOb_append h with ⟨hlt,h'⟩|⟨rfl,rfl⟩
   · refine (hS.obs id ob' h').keep s (by rw [hS.n];exact hlt) (fun b hb hr=>?_) (fun I hI=>?_) ?_
     · have:b≠g:=by omega
       simp [Cx.add,this,hr]
     · obtain ⟨c',hor⟩:=row_of hS h' hI;obtain ⟨cur',e',hb,_⟩:=hor.blk;exact hk _ (Array.getElem?_eq_some_iff.1 hb).1
     · exact fun _ b hb _ _=>hk b hb
   · unfold OK
     have e1:(X.add X.N g (some ⟨g,0,ob'.sz,cur.size⟩)).φ S.length=some ⟨g,0,ob'.sz,cur.size⟩:=by simp [Cx.add,hS.n]
     rw [e1]
     refine ⟨c,rfl,hrows,by simp [Cx.add,hS.n],by simp [Cx.add],fun hp=>absurd (hS.pro _ hp) (by simp;omega),⟨cur,e,hgb,rfl⟩,by simpa using hfit,fun i j hi hj=>?_,fun i j hi hj=>?_⟩
     · simp only [World.cell?,hgb];simpa using hc i j hi hj
     · have:=hval i j hi hj;rw [if_neg hkd];rw [hS.n] at this;simp only [Nat.zero_add]
       refine this.keep s.toStp (fun b hb hr _=>?_) (fun _ b hb _ _=>hk b hb)
       have:b≠g:=by omega
       simp [Cx.add,this,hr]
theorem sr_newnil (hS:SR T w X S)(hl:Like w w' w.heap.size)(sz:Nat):Stn w X w' (X.add X.N w.heap.size none)∧SR T w' (X.add X.N w.heap.size none) (S++[some ⟨.arr,sz,[]⟩]):=by
 have s:=stn_like (g:=w.heap.size) hS hl (Nat.le_refl _) none;have hsz:=hl.size
 have hk:∀b,b<w.heap.size→w'.heap[b]?=w.heap[b]?:=fun b hb=>hl.keep b hb (by omega)
 refine ⟨s,by simp [Cx.add,hS.n],fun b hb=>by have:=hS.lab b (by simpa [Cx.add] using hb);omega,fun b hb=>by have:=hS.pro b hb;omega,fun id ob' h=>?_,hS.sft⟩
 rcases getOb_append h with ⟨hlt,h'⟩|⟨rfl,rfl⟩
 · refine (hS.obs id ob' h').keep s (by rw [hS.n];exact hlt) (fun b hb hr=>by simp [Cx.add,hr]) (fun I hI=>?_) (fun _ b hb _ _=>hk b hb)
   obtain ⟨c',hor⟩:=row_of hS h' hI;obtain ⟨cur',e',hb,_⟩:=hor.blk;exact hk _ (Array.getElem?_eq_some_iff.1 hb).1
 · unfold OK
   have:(X.add X.N w.heap.size none).φ S.length=none:=by simp [Cx.add,hS.n]
   rw [this]
   exact ⟨rfl,by simp⟩
theorem coll_ok (hT:TabOk P T){f t vf:Nat}(hc:CollOk P f vf t)(hS:SR T w X S){args:List AV}{us:List Value}(hl:args.length=us.length)(hv:∀i,i<args.length→VR w X (args.getD i .undef) (us.getD i Go.undef))
    (h:evColl T t vf args S=some (v,S')):Calls P f us.toArray w (fun e w'=>∃v' X',e=.returned v'∧Stn w X w' X'∧SR T w' X' S'∧VR w' X' v v'):=by
 unfold evColl at h;split at h
 rotate_left
 · cases h
 rename_i te g sz els hte
 match us,hl,hv with
 | [u0],hl',hv =>
 clear hl'
 have h0:VR w X (.fn g [.tp .imm 1 [[.ts .imm sz els]] 0 0]) u0:=by simpa using hv 0 (by simp)
 clear hv;split at h
 rotate_left
 · cases h
 rename_i hcond;obtain ⟨rfl,rfl,hag,h1024,hbig⟩:=hcond;cases h;obtain ⟨e,hu,hok,hpos,hby⟩:=hT.elemSlice hte;obtain ⟨i0,zv,hinfo,hsz,hb,hz,hzc,_,_⟩:=hok.run_info
 have hzl:zv.cells.size=i0.size:=by rw [←Array.length_toList,hzc,hsz];simp [hok.zlen]
 obtain ⟨cv,rfl,hcl,hcv⟩:=h0.fn_inv
 match cv,hcl,hcv with
 | [pv],hcl',hcv =>
 clear hcl'
 have hp:VR w X (.tp .imm 1 [[.ts .imm te.size els]] 0 0) pv:=by simpa using hcv 0 (by simp)
 clear hcv
 cases hp with
 | tp _ hq _ _ _ _ _ hr =>
 cases hr with
 | tp _ _ _ _ _ g0 o0 c0 hrow0 hA0 hc0 hr0 =>
 have hcell0:=hc0 0 0 (by simp) (by simp)
 have hx:=hr0 0 0 (by simp) (by simp)
 simp only [at2,List.getD_cons_zero] at hx;generalize hsv:c0 0 0=sv at hx hcell0
 cases hx with
 | ts _ _ _ A cap gg o c hrow hcap hA hcc hcr =>
 have hbi:te.size=i0.size:=hsz.symm
 refine (hc e i0 zv hu hinfo hz hzl (by omega) (fun w=>by rw [hok.run_isAgg,hag]) ⟨g0,o0+0*1+0,none⟩ gg o els.length cap A (fun i=>(List.range te.size).map (c i)) w (fun h=>(hA h).1) (fun i hi=>by simp [hbi])
  (fun i hi u hu'=>?_) hcell0 hA0.2 (fun i hi j u hju=>?_) (fun h=>(hA h).2.2) (by simp only [maxRow] at hbig;simp only [maxLen];omega) (by rw [hb];exact mul_le_bytes hbig hby) (by omega)).mono ?_
 · obtain ⟨j,hj,rfl⟩:=List.mem_map.1 hu'
   exact ((hcr i j hi (by simpa using hj)).cell hq X.N (0,0)).one
 · have hj : j < te.size := by
     have:=(List.getElem?_eq_some_iff.1 hju).1;simpa using this
   rw [List.getElem?_map,List.getElem?_range hj] at hju;simp only [Option.map_some,Option.some.injEq] at hju;rw [←hju,←hbi];exact hcc i j hi hj
 · rintro r w' ⟨hlike,hres⟩
   have hlm:(els.map (·.map (setTop .imm))).length=els.length:=by simp
   rcases hres with ⟨hm0,rfl⟩|⟨g1,cap1,cur,rfl,hg1,hgb,hmc,hcm,hcs,hcv⟩
   · have:els=[]:=List.eq_nil_of_length_eq_zero hm0;subst this;obtain ⟨s,hS'⟩:=sr_newnil hS hlike te.size;refine ⟨_,_,rfl,s,hS',?_⟩
     exact .slz _ 0 none (by simp [Cx.add,hS.n])
   · obtain ⟨s, hS'⟩ := sr_new hS hlike hg1 hgb (ob := ⟨.arr, te.size, els.map (·.map (setTop .imm))⟩) (by simp) c (rows_map _ _ hrow) (by
         rw [hlm,hcs,hbi];exact Nat.mul_le_mul_right _ hmc) (fun i j hi hj=>by
         have hi':i<els.length:=by simpa using hi
         have hj':j<te.size:=hj
         have:=hcv i hi' j (c i j) (by rw [List.getElem?_map,List.getElem?_range hj'];rfl)
         rw [←hbi] at this
         exact this) (fun i j hi hj=>by
         have hi':i<els.length:=by simpa using hi
         rw [at2_map _ _ hrow hi' hj]
         exact (hcr i j hi' hj).cell hq X.N _)
     refine ⟨_,_,rfl,s,hS',?_⟩
     exact VR.fresh (g:=g1) (sz:=te.size) (size:=cur.size) rfl (by simp [Cx.add,hS.n]) (by simp [Cx.add,hS.n]) hmc (by rw [hcs,hbi];exact Nat.le_refl _) hcm
theorem VR.slice (h:isSl v=true){u:Value}(hv:VR w X v u):∃A n c,u=.slice A n c:=by
 cases hv<;>simp [isSl] at h
 · exact ⟨_,_,_,rfl⟩
 · rename_i hr;cases hr;exact ⟨_,_,_,rfl⟩
 · exact ⟨_,_,_,rfl⟩
 · exact ⟨_,_,_,rfl⟩
theorem vals_ok (hT:TabOk P T){f t vf:Nat}(hc:ValsOk P f vf t)(hS:SR T w X S){args:List AV}{us:List Value}(hl:args.length=us.length)(hv:∀i,i<args.length→VR w X (args.getD i .undef) (us.getD i Go.undef))
    (h:evVals T t vf args S=some (v,S')):Calls P f us.toArray w (fun e w'=>∃v' X',e=.returned v'∧Stn w X w' X'∧SR T w' X' S'∧VR w' X' v v'):=by
 unfold evVals at h;split at h
 rotate_left
 · cases h
 rename_i te x hte
 match us,hl,hv with
 | [u0],hl',hv =>
 clear hl'
 have h0:VR w X x u0:=by simpa using hv 0 (by simp)
 clear hv;split at h
 rotate_left
 · cases h
 rename_i hx;cases h;obtain ⟨A,n,c,rfl⟩:=VR.slice hx h0;refine (hc A n c w).mono ?_
 rintro r w' ⟨rfl,rfl⟩
 obtain ⟨s, hS'⟩ := sr_alloc hS (cur := #[.slice A n c]) (e := t) (ob := ⟨.box, 1, [[x]]⟩) (fun _ _ => .slice A n c) (by simp) (by simp) (fun i j hi hj => by
     obtain rfl:i=0:=by simp at hi;omega
     obtain rfl:j=0:=by simp at hj;omega
     rfl) (fun i j hi hj=>by
     obtain rfl:i=0:=by simp at hi;omega
     obtain rfl:j=0:=by simp at hj;omega
     rw [if_pos rfl]
     exact h0)
 refine ⟨_,_,rfl,s,hS',?_⟩
 refine .fn vf _ [.pointer (some ⟨w.heap.size,0,none⟩)] rfl (fun i hi=>?_)
 obtain rfl:i=0:=by simp at hi;omega
 have:=VR.ptr (w:=w.alloc (.cells #[.slice A n c] t (0,0))) (X:=X.add X.N w.heap.size (some ⟨w.heap.size,0,1,1⟩)) S.length 0 0 ⟨w.heap.size,0,1,1⟩ (by simp [Cx.add,hS.n]) (by simp [Cx.add,hS.n])
 simpa using this
end Go.Pi

namespace Go.Pi
open Go
variable {P:Program} {T:Tab} {o:Oper} {a:Act} {w w':World} {X X' Xc:Cx} {fr:Fr} {S S':St} {v:AV} {mb:Nat} {C:Nat→List AV→St→Option (AV×St)}
theorem rawAll_ok:∀ {vs:List AV} {ess:List (List Nat)} {vs':List AV} {us:List Value} {X:Cx} {S S1:St},SR T w X S→rawAll S ess vs=some (vs',S1)→vs.length=us.length →
    (∀i,i<vs.length→VR w X (vs.getD i .undef) (us.getD i Go.undef)) →
    ∃X1,Stn w X w X1∧SR T w X1 S1∧vs'.length=vs.length∧(∀i,i<vs'.length→VR w X1 (vs'.getD i .undef) (us.getD i Go.undef))∧∃R,S1=S++R:=by
 intro vs
 induction vs with
 | nil=>intro ess vs' us X S S1 hS h hl hv;cases ess<;>(simp only [rawAll,Option.some.injEq,Prod.mk.injEq] at h;obtain ⟨rfl,rfl⟩:=h;exact ⟨X,Stn.refl w X,hS,rfl,fun i hi=>absurd hi (Nat.not_lt_zero i),[],by simp⟩)
 | cons v vs ih =>
  intro ess vs' us X S S1 hS h hl hv
  cases ess with
  | nil=>simp [rawAll] at h
  | cons es ess =>
   cases us with
   | nil=>simp at hl
   | cons u us =>
    simp only [rawAll] at h;split at h
    · rename_i e
      split at h<;>cases h
      rename_i vs1 h2
      obtain ⟨s1,hS1⟩:=sr_addnil hS .arr (by simp) e 0
      obtain ⟨X2,s2,hS2,k1,k2,R,hR⟩:=ih hS1 h2 (by simpa using hl) (fun i hi=>(by simpa using hv (i+1) (by simpa using hi):VR w X (vs.getD i .undef) (us.getD i Go.undef)).stn s1)
      refine ⟨X2,s1.trans s2,hS2,by simp [k1],fun i hi=>?_,[some ⟨.arr,e,[]⟩]++R,by rw [hR];simp⟩
      cases i with
      | zero =>
       have h0:VR w X .nil u:=by simpa using hv 0 (by simp)
       cases h0;have hN:=hS.n
       have:VR w (X.add X.N 0 none) (.sl S.length 0 0) (.slice none 0 0):=.slz _ 0 none (by simp [Cx.add,hN])
       simpa using this.stn s2
      | succ i=>simpa using k2 i (by simpa using hi)
    · split at h<;>cases h
      rename_i vs1 h2
      obtain ⟨X2,s2,hS2,k1,k2,R,hR⟩:=ih hS h2 (by simpa using hl) (fun i hi=>by simpa using hv (i+1) (by simpa using hi))
      refine ⟨X2,s2,hS2,by simp [k1],fun i hi=>?_,R,hR⟩
      cases i with
      | zero=>simpa using (show VR w X v u by simpa using hv 0 (by simp)).stn s2
      | succ i=>simpa using k2 i (by simpa using hi)
def COK (P:Program)(T:Tab)(C:Nat→List AV→St→Option (AV×St)):Prop :=
 ∀f args S v S',C f args S=some (v,S')→(∃fi,T.fn f=some fi) ∧
  ∀w X (us:List Value),SR T w X S→args.length=us.length→(∀i,i<args.length→VR w X (args.getD i .undef) (us.getD i Go.undef)) →
   Calls P f us.toArray w (fun e w'=>∃v' X',e=.returned v'∧Stn w X w' X'∧SR T w' X' S'∧VR w' X' v v')
theorem evCall_ok {F:Nat→List AV→St→Option (AV×St)}(hT:TabOk P T)(hF:FOK P T F):COK P T (evCall T F):=by
 intro f args S v S' h;unfold evCall at h
 cases hfi:T.fn f with
 | none=>rw [hfi] at h;cases h
 | some fi =>
  rw [hfi] at h
  refine ⟨⟨fi,rfl⟩,fun w X us hS hl hv=>?_⟩
  simp only at h;split at h
  · split at h
    · cases h
    · rename_i hsf;exact call3_ok hF rawAll_ok hS hfi hsf hl hv h
  · rename_i hk;exact ins_ok hT ((hT.ins f fi hfi).1 hk) hS hl hv h
  · rename_i hk;exact del_ok hT ((hT.ins f fi hfi).2.1 hk) hS hl hv h
  · rename_i hk;exact sort_ok hT hF ((hT.ins f fi hfi).2.2.1 hk) hS hl hv h
  · rename_i hk;exact coll_ok hT ((hT.ins f fi hfi).2.2.2.1 hk) hS hl hv h
  · rename_i hk;exact vals_ok hT ((hT.ins f fi hfi).2.2.2.2 hk) hS hl hv h
  · rename_i hk hk4 _ _ _ _;split at h
    · cases h
    rename_i hsf;split at h
    · cases h
    · rename_i args' hla;split at h
      · cases h
      · rename_i res Sr hr
        exact call_lent_ok hF hS hfi hk (by simpa using hsf) hl hv hla hr h
theorem op_call (hT:TabOk P T)(hC:COK P T C)(hS:SR T w X S)(hf:FrR w X fr a){c:Call}{x:Operand}(hop:o.op=.call c)(hcb:c.callee=.value x)
    (h:evOp T C o.op fr S=some (v,S')):Good T P o a w X v S':=by
 rw [hop] at h;simp only [evOp,hcb] at h;split at h
 · rename_i f caps vs hx hvs;obtain ⟨hl,hv⟩:=evArgs_ok hf _ _ hvs;obtain ⟨cv,hxe,hcl,hcv⟩:=(evO_ok hf hx).fn_inv;obtain ⟨⟨fi,hfi⟩,hcall⟩:=hC f (vs++caps) S v S' h;obtain ⟨fn,c0,hfn,hbody,_,_,_,hname⟩:=hT.fn f fi hfi
   have hargs:c.args.map a.eval=(c.args.toList.map a.eval).toArray:=by apply Array.ext';simp
   generalize c.args.toList.map a.eval=us at hl hv hargs
   have hname' : ¬ fn.name = "runtime.NumGoroutine" := by simpa using hname
   have hrun:(execOp a.eval o).run P w=.ok (.enter f (us++cv).toArray) w:=by
    simp [execOp,hop,resolve,hcb,hxe,Deferred.ofValue,invoke,callFunc,program,Sem.run,hfn,hname',hbody,hargs]
   intro next Q hnext;unfold Oper.wp;rw [hrun,Oper.upon_enter]
   refine (hcall w X (us++cv) hS (by rw [List.length_append,List.length_append];omega) (fun i hi=>?_)).mono ?_
   · rw [List.length_append] at hi;simp only [List.getD_eq_getElem?_getD,List.getElem?_append]
     by_cases hlt:i<vs.length
     · have hlt':i<us.length:=by omega
       rw [if_pos hlt,if_pos hlt'];simpa [List.getD_eq_getElem?_getD] using hv i hlt
     · have hlt':¬i<us.length:=by omega
       rw [if_neg hlt,if_neg hlt',←hl]
       simpa [List.getD_eq_getElem?_getD] using hcv (i-vs.length) (by omega)
   · rintro e w' ⟨v',X',rfl,s,hS',hv'⟩
     exact hnext v' w' X' s hS' hv'
 · cases h
end Go.Pi

namespace Go.Pi
open Go
variable {P:Program} {T:Tab} {o:Oper} {a:Act} {w w':World} {X X' Xc:Cx} {fr fr':Fr} {S S':St} {v:AV} {n0:Nat}
structure StB (n0:Nat) (w:World) (X:Cx) (w':World) (X':Cx):Prop extends Stp w X w' X' where
 le:n0≤X'.N
 φ:∀id,id<n0→X'.φ id=X.φ id
theorem StB.trans {w1 w2:World}{X1 X2:Cx}(h:StB n0 w X w1 X1)(k:StB n0 w1 X1 w2 X2):StB n0 w X w2 X2 :=
 ⟨h.toStp.trans k.toStp,k.le,fun id hid=>(k.φ id hid).trans (h.φ id hid)⟩
theorem Stn.low (s:Stn w X w' X')(h:n0≤X.N):StB n0 w X w' X':=⟨s.toStp,Nat.le_trans h s.le,fun id hid=>s.φ id (Nat.lt_of_lt_of_le hid h)⟩
theorem StB.refl (w:World)(X:Cx)(h:n0≤X.N):StB n0 w X w X:=(Stn.refl w X).low h
def posR:List Rs→Nat→Nat→Option Nat
 | [],_,_=>none
 | .row id' _ _::R,k,id=>if id'=id then some k else posR R (k+1) id
 | .nil _::R,k,id=>posR R (k+1) id
theorem rsFree_pos:∀ {R:List Rs} {id:Nat},rsFree id R=true→∀k,posR R k id=none:=by
 intro R
 induction R with
 | nil=>intro id _ k;rfl
 | cons x R ih =>
  intro id h k
  cases x with
  | nil e=>exact ih (id:=id) h (k+1)
  | row id' lo m =>
   simp only [rsFree,Bool.and_eq_true,decide_eq_true_eq] at h;simp only [posR,if_neg h.1];exact ih h.2 (k+1)
theorem rsFree_ne:∀ {R:List Rs} {i id id' lo:Nat} {m:Option Nat},rsFree id R=true→R[i]?=some (.row id' lo m)→id'≠id:=by
 intro R
 induction R with
 | nil=>intro i id id' lo m _ h;simp at h
 | cons x R ih =>
  intro i id id' lo m hf h
  cases i with
  | zero =>
   simp at h;subst h;simp only [rsFree,Bool.and_eq_true,decide_eq_true_eq] at hf;exact hf.1
  | succ i =>
   simp only [List.getElem?_cons_succ] at h
   cases x with
   | nil e=>exact ih (id:=id) hf h
   | row a b c =>
    simp only [rsFree,Bool.and_eq_true] at hf;exact ih hf.2 h
theorem rsOk_row:∀ {R:List Rs} {i id lo:Nat} {m:Option Nat},rsOk R=true→R[i]?=some (.row id lo m)→∀k,posR R k id=some (k+i):=by
 intro R
 induction R with
 | nil=>intro i id lo m _ h;simp at h
 | cons x R ih =>
  intro i id lo m hok h
  cases i with
  | zero =>
   simp at h;subst h;simp only [rsOk,Bool.and_eq_true,decide_eq_true_eq] at hok
   exact fun k=>by simp [posR]
  | succ i =>
   simp only [List.getElem?_cons_succ] at h
   cases x with
   | nil e =>
    simp only [rsOk] at hok;have h2:=ih hok h
    exact fun k=>by simp only [posR];rw [h2];congr 1;omega
   | row id' lo' m' =>
    simp only [rsOk,Bool.and_eq_true] at hok;have h2:=ih hok.2 h;have hne:=rsFree_ne hok.1 h
    exact fun k=>by simp only [posR];rw [if_neg (fun e=>hne e.symm),h2];congr 1;omega
theorem rsSl_some:∀ {R:List Rs} {k id lo n k' lo':Nat},rsSl R k id lo n=some (k',lo') →
    ∃i l0 m,k'=k+i∧R[i]?=some (.row id l0 m)∧((m=none∧lo'=lo)∨(l0=lo∧m=some n∧lo'=0)):=by
 intro R
 induction R with
 | nil=>intro k id lo n k' lo' h;simp [rsSl] at h
 | cons x R ih =>
  intro k id lo n k' lo' h
  have go:rsSl R (k+1) id lo n=some (k',lo')→∃i l0 m,k'=k+i∧(x::R)[i]?=some (.row id l0 m)∧((m=none∧lo'=lo)∨(l0=lo∧m=some n∧lo'=0)):=by
   intro h;obtain ⟨i,l0,m,h1,h2,h3⟩:=ih h
   exact ⟨i+1,l0,m,by omega,by simpa using h2,h3⟩
  cases x with
  | nil e=>exact go h
  | row id' l0 m =>
   simp only [rsSl] at h;split at h
   · rename_i he;subst he;split at h
     · cases h;exact ⟨0,l0,none,by omega,by simp,.inl ⟨rfl,rfl⟩⟩
     · split at h<;>cases h
       rename_i hc;obtain ⟨rfl,rfl⟩:=hc
       exact ⟨0,_,_,by omega,by simp,.inr ⟨rfl,rfl,rfl⟩⟩
   · exact go h
theorem rsPtr_some:∀ {R:List Rs} {k id k':Nat},rsPtr R k id=some k'→∃i l0,k'=k+i∧R[i]?=some (.row id l0 none):=by
 intro R
 induction R with
 | nil=>intro k id k' h;simp [rsPtr] at h
 | cons x R ih =>
  intro k id k' h
  have go:rsPtr R (k+1) id=some k'→∃i l0,k'=k+i∧(x::R)[i]?=some (.row id l0 none):=by
   intro h;obtain ⟨i,l0,h1,h2⟩:=ih h
   exact ⟨i+1,l0,by omega,by simpa using h2⟩
  cases x with
  | nil e=>exact go h
  | row id' l0 m =>
   simp only [rsPtr] at h;split at h
   · rename_i he;subst he
     split at h<;>cases h
     exact ⟨0,l0,by omega,by simp⟩
   · exact go h
theorem nilAt_lt {tm:Bool}{a c:Nat}:∀ {src:List Org} {k j:Nat},nilAt tm a c src k=some j→j<k+src.length:=by
 intro src
 induction src with
 | nil=>intro k j h;simp [nilAt] at h
 | cons x r ih =>
  intro k j h
  have go:nilAt tm a c r (k+1)=some j→j<k+(x::r).length:=by
   intro h;have:=ih h;simp;omega
  cases x with
  | nilT t' c' e =>
   simp only [nilAt] at h;split at h
   · cases h;simp
   · exact go h
  | nilB t' c' e =>
   simp only [nilAt] at h;split at h
   · cases h;simp
   · exact go h
  | _=>exact go h
def Cx.tidied (X:Cx)(n0:Nat)(R:List Rs):Cx where
 N:=n0+R.length
 root b:=match X.root b with
  | none=>none
  | some id=>match posR R n0 id with
   | some j=>some j
   | none=>if id<n0 then some id else none
 par:=X.par
 φ j:=if j<n0 then X.φ j else match R[j-n0]? with
  | some (.row id lo _)=>(X.φ id).map fun I=>{ I with o:=I.o+lo*I.sz }
  | _=>none
 pro:=X.pro
 soft:=X.soft
variable {R:List Rs} {src:List Org}
theorem stp_tidied:Stp w X w (X.tidied n0 R):=by
 refine ⟨rfl,⟨rfl,Nat.le_refl _⟩,rfl,Nat.le_refl _,fun b hb hr=>⟨rfl,?_⟩,fun b hb hr=>by simp [Cx.tidied,hr],rfl,rfl⟩
 rintro ⟨h1,h2⟩
 exact hr ⟨fun hn=>by simp [Cx.tidied,hn] at h1,h2⟩
theorem stb_tidied:StB n0 w X w (X.tidied n0 R):=⟨stp_tidied,by simp [Cx.tidied],fun id hid=>by simp [Cx.tidied,hid]⟩
theorem tidied_φ {i:Nat}:(X.tidied n0 R).φ (n0+i)=match R[i]? with
    | some (.row id lo _)=>(X.φ id).map fun I=>{ I with o:=I.o+lo*I.sz }
    | _=>none:=by
 have:¬n0+i<n0:=by omega
 simp only [Cx.tidied,if_neg this,Nat.add_sub_cancel_left]
theorem R_lt {i:Nat}{x:Rs}(h:R[i]?=some x):i<R.length:=(List.getElem?_eq_some_iff.1 h).1
def NoLo (R:List Rs):Prop:=∀(i id lo:Nat),R[i]?=some (.row id lo none)→lo=0
theorem tdC_ok (hsrc:src.length=R.length)(hlo:NoLo R){tm:Bool}{t c:Nat}{x x':AV}{u:Value}(h:tdC n0 src R tm t c x=some x')(hv:VR w X x u):VR w (X.tidied n0 R) x' u:=by
 cases hv with
 | int k n=>simp only [tdC,Option.some.injEq] at h;subst h;exact .int k n
 | bool b=>simp only [tdC,Option.some.injEq] at h;subst h;exact .bool b
 | str s=>simp only [tdC,Option.some.injEq] at h;subst h;exact .str s
 | nilp=>simp only [tdC,Option.some.injEq] at h;subst h;exact .nilp
 | nil =>
  simp only [tdC] at h;split at h
  · rename_i k hk;cases h;have:=nilAt_lt hk
    exact .slz k 0 none (by simp only [Cx.tidied];omega)
  · cases h;exact .nil
 | fn f caps cv hl hc =>
  cases caps with
  | nil =>
   simp only [tdC,Option.some.injEq] at h;subst h;have:cv=[]:=List.eq_nil_of_length_eq_zero hl.symm;subst this
   exact .fn f [] [] rfl (fun i hi=>absurd hi (Nat.not_lt_zero i))
  | cons c r=>simp [tdC] at h
 | agg cs cv hl hc=>simp [tdC] at h
 | tup cs cv hl hc =>
  cases cs with
  | nil =>
   simp only [tdC,Option.some.injEq] at h;subst h;have:cv=[]:=List.eq_nil_of_length_eq_zero hl.symm;subst this
   exact .tup [] [] rfl (fun i hi=>absurd hi (Nat.not_lt_zero i))
  | cons c r=>simp [tdC] at h
 | ts q hq sz els v hr=>simp only [tdC,Option.some.injEq] at h;subst h;exact .ts q hq sz els _ (hr.stp stp_tidied)
 | tp q hq sz els i j v hr=>simp only [tdC,Option.some.injEq] at h;subst h;exact .tp q hq sz els i j _ (hr.stp stp_tidied)
 | sl id lo n cap I hid hI hn hc hm =>
  simp only [tdC] at h;split at h
  · rename_i hlt;cases h
    exact .sl id lo n cap I (by simp only [Cx.tidied];omega) (by simp [Cx.tidied,hlt.1,hI]) hn hc hm
  · split at h<;>cases h
    rename_i k lo' hk;obtain ⟨i,l0,m,rfl,hRi,hw⟩:=rsSl_some hk;have hi:=R_lt hRi
    have hφ:(X.tidied n0 R).φ (n0+i)=some { I with o:=I.o+l0*I.sz }:=by rw [tidied_φ,hRi];simp [hI]
    rcases hw with ⟨rfl,rfl⟩|⟨rfl,rfl,rfl⟩
    · have:=hlo i id l0 hRi;subst this
      have:=VR.sl (w:=w) (X:=X.tidied n0 R) (n0+i) lo' n cap _ (by simp only [Cx.tidied];omega) hφ hn (by simpa using hc) hm
      simpa using this
    · have := VR.sl (w := w) (X := X.tidied n0 R) (n0 + i) 0 n cap _ (by simp only [Cx.tidied]; omega) hφ hn (by
        simp only;rw [Nat.add_mul] at hc
        simp only [Nat.zero_add];omega) hm
      simpa using this
 | slz id lo A hid =>
  simp only [tdC] at h;split at h
  · cases h;exact .slz id lo A (by simp only [Cx.tidied];omega)
  · split at h<;>cases h
    rename_i k lo' hk;obtain ⟨i,l0,m,rfl,hRi,hw⟩:=rsSl_some hk
    exact .slz _ _ A (by have:=R_lt hRi;simp only [Cx.tidied];omega)
 | ptr id i j I hid hI =>
  simp only [tdC] at h;split at h
  · rename_i hlt;cases h
    exact .ptr id i j I (by simp only [Cx.tidied];omega) (by simp [Cx.tidied,hlt.1,hI])
  · split at h<;>cases h
    rename_i k hk;obtain ⟨i',l0,rfl,hRi⟩:=rsPtr_some hk;have:=hlo i' id l0 hRi;subst this
    exact .ptr _ i j I (by have:=R_lt hRi;simp only [Cx.tidied];omega) (by rw [tidied_φ,hRi];simp [hI])
theorem tdL_ok (hsrc:src.length=R.length)(hlo:NoLo R){tm:Bool}{t:Nat}:∀ {cs:List AV} {c:Nat} {cs':List AV},tdL n0 src R tm t c cs=some cs' →
    cs'.length=cs.length∧∀i (u:Value),i<cs.length→VR w X (cs.getD i .undef) u→VR w (X.tidied n0 R) (cs'.getD i .undef) u:=by
 intro cs
 induction cs with
 | nil=>intro c cs' h;simp only [tdL,Option.some.injEq] at h;subst h;exact ⟨rfl,fun i u hi=>absurd hi (Nat.not_lt_zero i)⟩
 | cons x cs ih =>
  intro c cs' h;simp only [tdL] at h;split at h
  · cases h
  · rename_i x' hx
    split at h<;>cases h
    rename_i r' hr;obtain ⟨h1,h2⟩:=ih hr
    refine ⟨by simp [h1],fun i u hi hv=>?_⟩
    cases i with
    | zero=>simpa using tdC_ok hsrc hlo hx (by simpa using hv)
    | succ i=>simpa using h2 i u (by simpa using hi) (by simpa using hv)
theorem tdV_ok (hsrc:src.length=R.length)(hlo:NoLo R){t:Nat}{x x':AV}{u:Value}(h:tdV n0 src R t x=some x')(hv:VR w X x u):VR w (X.tidied n0 R) x' u:=by
 cases x with
 | agg cs =>
  simp only [tdV] at h
  split at h<;>cases h
  rename_i cs' h1;obtain ⟨cv,rfl,hl,hcv⟩:=hv.agg_inv;obtain ⟨k1,k2⟩:=tdL_ok (w:=w) (X:=X) hsrc hlo h1
  exact .agg _ cv (by omega) (fun i hi=>k2 i _ (by omega) (hcv i (by omega)))
 | fn f cs =>
  simp only [tdV] at h
  split at h<;>cases h
  rename_i cs' h1;obtain ⟨cv,rfl,hl,hcv⟩:=hv.fn_inv;obtain ⟨k1,k2⟩:=tdL_ok (w:=w) (X:=X) hsrc hlo h1
  exact .fn f _ cv (by omega) (fun i hi=>k2 i _ (by omega) (hcv i (by omega)))
 | _=>exact tdC_ok hsrc hlo (by simpa only [tdV] using h) hv
theorem tdFr_ok (hsrc:src.length=R.length)(hlo:NoLo R)(hf:FrR w X fr a):∀ {keep:List Nat} {f f':Fr},tdFr n0 src R fr keep f=some f'→FrR w (X.tidied n0 R) f a→FrR w (X.tidied n0 R) f' a:=by
 intro keep
 induction keep with
 | nil=>intro f f' h hF;simp only [tdFr,Option.some.injEq] at h;subst h;exact hF
 | cons t keep ih =>
  intro f f' h hF;simp only [tdFr] at h;split at h
  · cases h
  · rename_i v' hv'
    refine ih h ⟨by simpa using hF.len,fun i hne=>?_,hF.defers⟩
    rw [List.getD_eq_getElem?_getD,List.getElem?_set] at hne ⊢
    by_cases hi:t=i
    · subst hi;rw [if_pos rfl] at hne ⊢;split at hne
      · rename_i hlt;rw [if_pos hlt];simp only [Option.getD_some] at hne ⊢
        refine tdV_ok hsrc hlo hv' (hf.val t fun he=>hne ?_)
        rw [he] at hv';simp only [tdV,tdC,Option.some.injEq] at hv';exact hv'.symm
      · rename_i hlt;rw [if_neg hlt];have h0:=hF.val t;rw [List.getD_eq_getElem?_getD,List.getElem?_eq_none (Nat.le_of_not_lt hlt)] at h0;exact h0 hne
    · rw [if_neg hi] at hne ⊢;have h0:=hF.val i;rw [List.getD_eq_getElem?_getD] at h0;exact h0 hne
theorem tdEls_ok (hsrc:src.length=R.length)(hlo:NoLo R){id:Nat}:∀ {els:List (List AV)} {c:Nat} {els':List (List AV)},tdEls n0 src R id c els=some els' →
    els'.length=els.length∧∀(sz:Nat),(∀r∈els,r.length=sz)→(∀r∈els',r.length=sz)∧∀i j (u:Value),i<els.length→j<sz→VR w X (at2 els i j) u→VR w (X.tidied n0 R) (at2 els' i j) u:=by
 intro els
 induction els with
 | nil=>intro c els' h;simp only [tdEls,Option.some.injEq] at h;subst h;exact ⟨rfl,fun sz _=>⟨by simp,fun i j u hi=>absurd hi (Nat.not_lt_zero i)⟩⟩
 | cons r els ih =>
  intro c els' h;simp only [tdEls] at h;split at h
  · cases h
  · rename_i r' hr
    split at h<;>cases h
    rename_i rs' hrs;obtain ⟨h1,h2⟩:=ih hrs;obtain ⟨q1,q2⟩:=tdL_ok (w:=w) (X:=X) hsrc hlo hr
    refine ⟨by simp [h1],fun sz hrows=>?_⟩
    obtain ⟨k1,k2⟩:=h2 sz (fun x hx=>hrows x (by simp [hx]))
    have hr0:=hrows r (by simp)
    refine ⟨fun x hx=>?_,fun i j u hi hj hv=>?_⟩
    · rcases List.mem_cons.1 hx with rfl|hx
      · omega
      · exact k1 x hx
    · cases i with
      | zero =>
       have e1:at2 (r::els) 0 j=r.getD j .undef:=by simp [at2]
       have e2:at2 (r'::rs') 0 j=r'.getD j .undef:=by simp [at2]
       rw [e1] at hv;rw [e2]
       exact q2 j u (by omega) hv
      | succ i =>
       have e1:at2 (r::els) (i+1) j=at2 els i j:=by simp [at2]
       have e2:at2 (r'::rs') (i+1) j=at2 rs' i j:=by simp [at2]
       rw [e1] at hv;rw [e2]
       exact k2 i j u (by simpa using hi) hj hv
theorem tdOb_ok (hS:SR T w X S)(hsrc:src.length=R.length)(hlo:NoLo R){id j lo n:Nat}{ob ob':Ob}(hob:getOb S id=some ob)(h:tdOb n0 src R id ob=some ob')
    (hroot:∀b,X.root b=some id→(X.tidied n0 R).root b=some j) (hφ:(X.tidied n0 R).φ j=(X.φ id).map fun I=>{ I with o:=I.o+lo*I.sz }) (hln:lo+n≤ob.els.length) (hw:(lo=0∧n=ob.els.length)∨ob.kd≠.box) :
    OK w (X.tidied n0 R) j { ob' with els:=window ob'.els lo n }:=by
 have hok:=hS.obs id ob hob;unfold OK at hok ⊢;rw [hφ]
 have hwl:∀ {e:List (List AV)},e.length=ob.els.length→(window e lo n).length=n:=fun he=>window_length (by omega)
 have hel:ob'.els.length=ob.els.length:=by
  unfold tdOb at h;split at h
  · split at h<;>cases h
    rename_i els hels;exact (tdEls_ok (w:=w) (X:=X) hsrc hlo hels).1
  · cases h;rfl
 have hkb:ob'.kd=.box↔ob.kd=.box:=by
  unfold tdOb at h;split at h
  · split at h<;>cases h
    exact Iff.rfl
  · rename_i hk;cases h;simp [hk]
 have hsz:ob'.sz=ob.sz:=by
  unfold tdOb at h;split at h
  · split at h<;>cases h
    rfl
  · cases h;rfl
 cases hI:X.φ id with
 | none =>
  rw [hI] at hok;simp only [Option.map_none]
  refine ⟨List.eq_nil_of_length_eq_zero ?_,fun hb=>hok.2 (hkb.1 hb)⟩
  rw [hwl hel]
  have:ob.els.length=0:=by rw [hok.1];rfl
  omega
 | some I =>
  rw [hI] at hok;obtain ⟨c,hor⟩:=hok;simp only [Option.map_some]
  have hrw:∀r∈ob'.els,r.length=ob.sz:=by
   unfold tdOb at h;split at h
   · split at h<;>cases h
     rename_i els hels;exact ((tdEls_ok (w:=w) (X:=X) hsrc hlo hels).2 ob.sz hor.rows).1
   · cases h;exact hor.rows
  refine ⟨fun i j=>c (lo+i) j,by rw [hsz];exact hor.sz,fun r hr=>by rw [hsz];exact hrw r (window_mem hr),hroot _ hor.root,hor.par,hor.npro,hor.blk,?_,fun i j hi hj=>?_,fun i j hi hj=>?_⟩
  · show I.o+lo*I.sz+(window ob'.els lo n).length*I.sz≤I.size;rw [hwl hel];have hf:=hor.fits;have:(lo+n)*I.sz≤ob.els.length*I.sz:=Nat.mul_le_mul_right _ hln;rw [Nat.add_mul] at this;omega
  · have hi' : i < n := by
      have:i<(window ob'.els lo n).length:=hi;rw [hwl hel] at this;exact this
    have hj':j<ob.sz:=by
     have:j<ob'.sz:=hj;omega
    have:=hor.cell (lo+i) j (by omega) hj'
    have e1:I.o+lo*I.sz+i*I.sz+j=I.o+(lo+i)*I.sz+j:=by rw [Nat.add_mul];omega
    show w.cell? ⟨I.g,I.o+lo*I.sz+i*I.sz+j,none⟩=some (c (lo+i) j);rw [e1];exact this
  · have hi' : i < n := by
      have:i<(window ob'.els lo n).length:=hi;rw [hwl hel] at this;exact this
    have hj':j<ob.sz:=by
     have:j<ob'.sz:=hj;omega
    have h0:=hor.val (lo+i) j (by omega) hj'
    show if ob'.kd=.box then VR w (X.tidied n0 R) (at2 (window ob'.els lo n) i j) (c (lo+i) j) else _
    rw [at2_window hi']
    by_cases hk:ob.kd=.box
    · rw [if_pos (hkb.2 hk)];rw [if_pos hk] at h0;unfold tdOb at h;rw [if_pos hk] at h
      split at h<;>cases h
      rename_i els hels
      exact ((tdEls_ok (w:=w) (X:=X) hsrc hlo hels).2 ob.sz hor.rows).2 _ j _ (by omega) hj' h0
    · rw [if_neg (fun hb=>hk (hkb.1 hb))]
      rw [if_neg hk] at h0;unfold tdOb at h;rw [if_neg hk] at h;cases h
      have e1:I.o+lo*I.sz+i*I.sz+j=I.o+(lo+i)*I.sz+j:=by rw [Nat.add_mul];omega
      show CR w (X.tidied n0 R) _ (I.g,I.o+lo*I.sz+i*I.sz+j) (at2 ob.els (lo+i) j) (c (lo+i) j);rw [e1]
      exact h0.reloc (stp_tidied) (fun l=>l) (fun _ _ _=>rfl) (fun b _ hb _=>⟨hroot b hb,by simp [Cx.tidied]⟩) (fun _ _ _ _ _=>rfl)
theorem window_whole {l:List (List AV)}:window l 0 l.length=l:=by simp [window]
theorem tdLow_ok (hS:SR T w X S)(hsrc:src.length=R.length)(hlo:NoLo R):∀ {D:List Nat} {k:Nat} {A:St},k≤n0→tdLow n0 D src R S k=some A→A.length=k∧∀id ob,getOb A id=some ob→OK w (X.tidied n0 R) id ob:=by
 intro D k
 induction k with
 | zero=>intro A _ h;simp only [tdLow,Option.some.injEq] at h;subst h;exact ⟨rfl,fun id ob h=>by simp [getOb] at h⟩
 | succ k ih =>
  intro A hk h;simp only [tdLow] at h;split at h
  · cases h
  · rename_i A1 h1
    obtain ⟨l1,k1⟩:=ih (by omega) h1
    have fin:∀ {A:St},some (A1++[none])=some A→A.length=k+1∧∀id ob,getOb A id=some ob→OK w (X.tidied n0 R) id ob:=by
     intro A h;cases h
     refine ⟨by simp [l1],fun id ob hg=>?_⟩
     unfold getOb at hg
     by_cases hid:id<A1.length
     · rw [List.getElem?_append_left hid] at hg;exact k1 id ob hg
     · rw [List.getElem?_append_right (by omega)] at hg
       cases hd:id-A1.length with
       | zero=>rw [hd] at hg;simp at hg
       | succ z=>rw [hd] at hg;simp at hg
    split at h
    · exact fin h
    rename_i hkeep
    have hfree:rsFree k R=true:=by
     cases hc:rsFree k R with
     | true=>rfl
     | false=>exact absurd (.inr hc) hkeep
    split at h
    · exact fin h
    · rename_i ob0 hob0
      split at h<;>cases h
      rename_i ob1 hob1
      refine ⟨by simp [l1],fun id ob hg=>?_⟩
      rcases getOb_append hg with ⟨_,hg⟩|⟨rfl,rfl⟩
      · exact k1 id ob hg
      · rw [l1]
        have hkn:k<n0:=by omega
        have:=tdOb_ok (lo:=0) (n:=ob0.els.length) (j:=k) hS hsrc hlo hob0 hob1 (fun b hb=>by simp [Cx.tidied,hb,hkn,rsFree_pos hfree]) (by simp only [Cx.tidied,if_pos hkn];cases X.φ k<;>simp) (by omega) (.inl ⟨rfl,rfl⟩)
        have e:window ob.els 0 ob0.els.length=ob.els:=by
         have hl:ob.els.length=ob0.els.length:=by
          unfold tdOb at hob1;split at hob1
          · split at hob1<;>cases hob1
            rename_i els hels;exact (tdEls_ok (w:=w) (X:=X) hsrc hlo hels).1
          · cases hob1;rfl
         rw [←hl,window_whole]
        rw [e] at this;exact this
theorem tdHigh_ok (hS:SR T w X S)(hsrc:src.length=R.length)(hlo:NoLo R)(hok:rsOk R=true):∀ {Q:List Rs} {B:St} {d:Nat},(∀i,Q[i]?=R[d+i]?)→tdHigh n0 src R S Q=some B →
    B.length=Q.length∧∀id ob,getOb B id=some ob→OK w (X.tidied n0 R) (n0+(d+id)) ob:=by
 intro Q
 induction Q with
 | nil=>intro B d _ h;simp only [tdHigh,Option.some.injEq] at h;subst h;exact ⟨rfl,fun id ob h=>by simp [getOb] at h⟩
 | cons x Q ih =>
  intro B d hQ h
  have h0:R[d]?=some x:=by have:=hQ 0;simpa using this.symm
  have hQ':∀i,Q[i]?=R[(d+1)+i]?:=by
   intro i;have:=hQ (i+1);rw [List.getElem?_cons_succ] at this;rw [this];congr 1;omega
  have fin:∀ {B1:St} {ob1:Ob},tdHigh n0 src R S Q=some B1→OK w (X.tidied n0 R) (n0+d) ob1→(some ob1::B1).length=(x::Q).length∧∀id ob,getOb (some ob1::B1) id=some ob→OK w (X.tidied n0 R) (n0+(d+id)) ob:=by
   intro B1 ob1 h1 hob1;obtain ⟨l1,k1⟩:=ih hQ' h1
   refine ⟨by simp [l1],fun id ob hg=>?_⟩
   cases id with
   | zero =>
    have:ob1=ob:=by simpa [getOb] using hg
    subst this;exact hob1
   | succ id =>
    have:=k1 id ob (by simpa [getOb] using hg)
    have e:n0+(d+1+id)=n0+(d+(id+1)):=by omega
    rw [e] at this;exact this
  cases x with
  | nil e =>
   simp only [tdHigh] at h
   split at h<;>cases h
   rename_i B1 h1;refine fin h1 ?_;unfold OK;rw [tidied_φ,h0]
   exact ⟨rfl,by simp⟩
  | row id lo m =>
   simp only [tdHigh] at h;split at h
   · cases h
   · rename_i ob hob;split at h
     · rename_i ob' B1 hob' h1;have hpos:=rsOk_row hok h0
       have hroot:∀b,X.root b=some id→(X.tidied n0 R).root b=some (n0+d):=by
        intro b hb;simp only [Cx.tidied,hb,hpos n0]
       have hφ:(X.tidied n0 R).φ (n0+d)=(X.φ id).map fun I=>{ I with o:=I.o+lo*I.sz }:=by rw [tidied_φ,h0]
       have hel:ob'.els.length=ob.els.length:=by
        unfold tdOb at hob';split at hob'
        · split at hob'<;>cases hob'
          rename_i els hels;exact (tdEls_ok (w:=w) (X:=X) hsrc hlo hels).1
        · cases hob';rfl
       split at h
       · split at h<;>cases h
         rename_i hl0;subst hl0;refine fin h1 ?_
         have:=tdOb_ok (lo:=0) (n:=ob.els.length) hS hsrc hlo hob hob' hroot hφ (by omega) (.inl ⟨rfl,rfl⟩)
         rw [←hel,window_whole] at this;exact this
       · split at h<;>cases h
         rename_i hw;exact fin h1 (tdOb_ok hS hsrc hlo hob hob' hroot hφ hw.1 (.inr hw.2))
     · cases h
theorem tdHigh_lo:∀ {Q:List Rs} {B:St},tdHigh n0 src R S Q=some B→NoLo Q:=by
 intro Q
 induction Q with
 | nil=>intro B _ i id lo h;simp at h
 | cons x Q ih =>
  intro B h i id lo hi
  cases x with
  | nil e =>
   simp only [tdHigh] at h
   split at h<;>cases h
   rename_i B1 h1
   cases i with
   | zero=>simp at hi
   | succ i=>exact ih h1 i id lo (by simpa using hi)
  | row id' lo' m =>
   simp only [tdHigh] at h;split at h
   · cases h
   · split at h
     · rename_i h1
       cases i with
       | zero =>
        simp at hi;obtain ⟨rfl,rfl,rfl⟩:=hi;simp only at h;split at h
        · rename_i h0;exact h0
        · cases h
       | succ i=>exact ih h1 i id lo (by simpa using hi)
     · cases h
theorem tidy0_ok {h:Hint}(hS:SR T w X S)(hf:FrR w X fr a)(ht:tidy0 n0 h fr S=some (fr',S')):∃X',StB n0 w X w X'∧SR T w X' S'∧FrR w X' fr' a:=by
 unfold tidy0 at ht;split at ht
 · cases ht
 rename_i R hR;split at ht
 · rename_i hok;split at ht
   · rename_i f A B hfr hA hB;cases ht;have hsrc:h.rows.length=R.length:=(mapO_get hR).1.symm;have hlo:=tdHigh_lo hB;obtain ⟨lA,kA⟩:=tdLow_ok hS hsrc hlo (Nat.le_refl _) hA
     obtain ⟨lB,kB⟩:=tdHigh_ok (d:=0) hS hsrc hlo hok (fun i=>by simp) hB
     refine ⟨X.tidied n0 R,stb_tidied,⟨?_,fun b hb=>hS.lab b (fun hn=>by simp [Cx.tidied,hn] at hb),hS.pro,fun id ob hg=>?_,hS.sft⟩,?_⟩
     · simp [Cx.tidied,lA,lB]
     · rcases getOb_two hg with ⟨_,hg⟩|⟨hge,hg⟩
       · exact kA id ob hg
       · have:=kB _ ob hg
         have e:n0+(0+(id-A.length))=id:=by omega
         rw [e] at this;exact this
     · refine tdFr_ok hsrc hlo hf hfr ⟨by simpa using hf.len,fun i hne=>?_,hf.defers⟩
       have hl:=hf.len;simp only [List.getD_eq_getElem?_getD,List.getElem?_replicate] at hne ⊢;split at hne
       · exact absurd rfl hne
       · rename_i hi;rw [if_neg hi]
         have:¬i<a.tmps.size:=by omega
         simp only [Option.getD_none]
         rw [Array.getD_eq_getD_getElem?,Array.getElem?_eq_none (by omega)]
         exact VR.undef w _
   · cases ht
 · cases ht
theorem sr_cell (hS:SR T w X S){id c:Nat}{ob:Ob}{row:List AV}(hob:getOb S id=some ob)(hkd:ob.kd=.box)(hrow:ob.els=[row]){av av':AV}(hc:row[c]?=some av)(hv:∀u,VR w X av u→VR w X av' u) :
    SR T w X (S.set id (some { ob with els:=[row.set c av'] })):=by
 refine ⟨by simp [hS.n],hS.lab,hS.pro,fun k ob' hk=>?_,hS.sft⟩
 rcases getOb_set hk with ⟨rfl,rfl⟩|⟨_,h'⟩
 · have:=hS.obs _ _ hob;unfold OK at this ⊢;split
   · rename_i hn;rw [hn] at this;exact absurd hkd this.2
   · rename_i I hI;rw [hI] at this;obtain ⟨cc,hor⟩:=this
     have hl:ob.els.length=1:=by rw [hrow];rfl
     have hcl:=(List.getElem?_eq_some_iff.1 hc).1
     refine ⟨cc,hor.sz,fun r hr=>?_,hor.root,hor.par,hor.npro,hor.blk,by have:=hor.fits;rw [hl] at this;exact this,fun i j hi hj=>hor.cell i j (by rw [hl];exact hi) hj,fun i j hi hj=>?_⟩
     · simp only [List.mem_singleton] at hr;rw [hr,List.length_set]
       exact hor.rows row (by rw [hrow];simp)
     · have hi0:i=0:=by simpa using hi
       subst hi0
       have h0:=hor.val 0 j (by rw [hl];omega) hj
       rw [if_pos hkd] at h0 ⊢
       by_cases e:j=c
       · subst e
         have e1:at2 ob.els 0 j=av:=by rw [hrow];simp [at2,List.getD_eq_getElem?_getD,hc]
         have e2:at2 [row.set j av'] 0 j=av':=by simp [at2,List.getD_eq_getElem?_getD,hcl]
         rw [e1] at h0;show VR w X (at2 [row.set j av'] 0 j) _;rw [e2];exact hv _ h0
       · have e2 : at2 [row.set c av'] 0 j = at2 ob.els 0 j := by
           have:c≠j:=fun h=>e h.symm
           rw [hrow];simp [at2,List.getD_eq_getElem?_getD,this]
         show VR w X (at2 [row.set c av'] 0 j) _;rw [e2];exact h0
 · exact hS.obs k ob' h'
theorem sr_same (hS:SR T w X S){id c:Nat}{ob:Ob}{row:List AV}(hob:getOb S id=some ob)(hkd:ob.kd=.box)(hrow:ob.els=[row]){av':AV}(hcl:c<row.length)
    (hv:∀I u,X.φ id=some I→w.cell? ⟨I.g,I.o+0*I.sz+c,none⟩=some u→VR w X av' u) :
    SR T w X (S.set id (some { ob with els:=[row.set c av'] })):=by
 refine ⟨by simp [hS.n],hS.lab,hS.pro,fun k ob' hk=>?_,hS.sft⟩
 rcases getOb_set hk with ⟨rfl,rfl⟩|⟨_,h'⟩
 · have:=hS.obs _ _ hob;unfold OK at this ⊢;split
   · rename_i hn;rw [hn] at this;exact absurd hkd this.2
   · rename_i I hI;rw [hI] at this;obtain ⟨cc,hor⟩:=this
     have hl:ob.els.length=1:=by rw [hrow];rfl
     refine ⟨cc,hor.sz,fun r hr=>?_,hor.root,hor.par,hor.npro,hor.blk,by have:=hor.fits;rw [hl] at this;exact this,fun i j hi hj=>hor.cell i j (by rw [hl];exact hi) hj,fun i j hi hj=>?_⟩
     · simp only [List.mem_singleton] at hr;rw [hr,List.length_set]
       exact hor.rows row (by rw [hrow];simp)
     · have hi0:i=0:=by simpa using hi
       subst hi0
       have h0:=hor.val 0 j (by rw [hl];omega) hj
       rw [if_pos hkd] at h0 ⊢
       by_cases e:j=c
       · subst e
         have e2:at2 [row.set j av'] 0 j=av':=by simp [at2,List.getD_eq_getElem?_getD,hcl]
         show VR w X (at2 [row.set j av'] 0 j) _
         rw [e2];exact hv I _ hI (hor.cell 0 j (by rw [hl];omega) hj)
       · have e2 : at2 [row.set c av'] 0 j = at2 ob.els 0 j := by
           have:c≠j:=fun h=>e h.symm
           rw [hrow];simp [at2,List.getD_eq_getElem?_getD,this]
         show VR w X (at2 [row.set c av'] 0 j) _;rw [e2];exact h0
 · exact hS.obs k ob' h'
theorem getOb_kill_not {id:Nat}:∀ {K:List Nat} {S:St},id∉K→getOb (kill S K) id=getOb S id:=by
 intro K
 induction K with
 | nil=>intro S _;rfl
 | cons k K ih =>
  intro S h;simp only [List.mem_cons,not_or] at h;simp only [kill];rw [ih h.2];unfold getOb
  rw [List.getElem?_set_ne (fun e=>h.1 e.symm)]
theorem frz_ok {id c e:Nat}(hS:SR T w X S)(h:evFrz S id c e=some S'):∃X',Stn w X w X'∧SR T w X' S':=by
 unfold evFrz at h;split at h
 rotate_left
 · cases h
 rename_i ob hob;split at h
 rotate_left
 · cases h
 rename_i hkd;split at h
 rotate_left
 · cases h
 rename_i row hrow;split at h
 rotate_left
 · 
   rename_i hc;cases h
   refine ⟨X,Stn.refl w X,sr_cell hS hob hkd hrow hc (fun u hu=>?_)⟩
   cases hu
   exact .ts .imm (by simp) e [] _ (.ts .imm e [] none 0 0 0 (fun _ _=>Go.undef) (by simp) (by simp) (by simp) (by simp) (by simp))
 · 
   rename_i id2 lo n hc;split at h
   · cases h
   rename_i hne;split at h
   rotate_left
   · cases h
   rename_i d hd;cases h;have hok:=hS.obs _ _ hob;unfold OK at hok;split at hok
   · exact absurd hkd hok.2
   rename_i I hI;obtain ⟨cc,hor⟩:=hok;have hcl:=(List.getElem?_eq_some_iff.1 hc).1
   have hsz:row.length=ob.sz:=hor.rows row (by rw [hrow];simp)
   have h0:=hor.val 0 c (by rw [hrow];simp) (by omega)
   rw [if_pos hkd] at h0
   have e1:at2 ob.els 0 c=.sl id2 lo n:=by rw [hrow];simp [at2,List.getD_eq_getElem?_getD,hc]
   rw [e1] at h0
   have hob2:getOb (S.set id2 none) id=some ob:=by
    unfold getOb at hob ⊢
    rw [List.getElem?_set_ne (fun e=>hne e.symm)];exact hob
   obtain ⟨s1,hv⟩:Stn w X w (X.drop id2)∧VR w (X.drop id2) (setTop (if cleanCell S (.sl id2 lo n)=true then .imm else .bor) d) (cc 0 c):=by
    split
    · rename_i hcl2;obtain ⟨a,_,b⟩:=row_tree_imm (outR_start hS) h0 hd hcl2;exact ⟨a,b⟩
    · obtain ⟨a,_,b⟩:=row_tree (outR_start hS) h0 hd;exact ⟨a,b⟩
   have hS2:SR T w (X.drop id2) (S.set id2 none):=sr_drop hS id2
   refine ⟨X.drop id2,s1,sr_same hS2 hob2 hkd hrow hcl (fun I' u hI' hcell=>?_)⟩
   have hI2:I'=I:=by
    have:(X.drop id2).φ id=X.φ id:=rfl;rw [this,hI] at hI';exact (Option.some.inj hI').symm
   subst hI2
   have h5:=hor.cell 0 c (by rw [hrow];simp) (by omega)
   rw [h5] at hcell;have e2:cc 0 c=u:=Option.some.inj hcell;rw [←e2];exact hv
 · cases h
 rename_i id2 i j hc;split at h
 · cases h
 rename_i hnin;split at h
 rotate_left
 · cases h
 rename_i d hd;cases h;have hok:=hS.obs _ _ hob;unfold OK at hok;split at hok
 · exact absurd hkd hok.2
 rename_i I hI;obtain ⟨cc,hor⟩:=hok;have hcl:=(List.getElem?_eq_some_iff.1 hc).1
 have hsz:row.length=ob.sz:=hor.rows row (by rw [hrow];simp)
 have h0:=hor.val 0 c (by rw [hrow];simp) (by omega)
 rw [if_pos hkd] at h0
 have e1:at2 ob.els 0 c=.ptr id2 i j:=by rw [hrow];simp [at2,List.getD_eq_getElem?_getD,hc]
 rw [e1] at h0
 have hob2:getOb (kill S (idsDeep S (.ptr id2 i j))) id=some ob:=by rw [getOb_kill_not hnin];exact hob
 obtain ⟨X',s,hS2,hv⟩:∃X',Stn w X w X'∧SR T w X' (kill S (idsDeep S (.ptr id2 i j)))∧VR w X' (setTop (if cleanPtr S (.ptr id2 i j)=true then .imm else .bor) d) (cc 0 c):=by
  split
  · rename_i hcl2;obtain ⟨X',s,hO,hv⟩:=ptr_tree_imm (outR_start hS) h0 hd hcl2
    exact ⟨X',s,by have:=hO.sr;simpa using this,hv⟩
  · obtain ⟨X',s,hO,hv⟩:=ptr_tree (outR_start hS) h0 hd
    exact ⟨X',s,by have:=hO.sr;simpa using this,hv⟩
 refine ⟨X',s,sr_cell hS2 hob2 hkd hrow hc (fun u hu=>?_)⟩
 have hu2:u=cc 0 c:=by
  revert h0 hv
  generalize cc 0 c=u0;intro h0 hv
  cases h0 with
  | ptr _ _ _ I2 hid2 hI2 =>
   cases hu with
   | ptr _ _ _ I3 hid3 hI3 =>
    have:=s.φ id2 hid2;rw [hI2,hI3] at this
    injection this with this
    subst this;rfl
 rw [hu2];exact hv
theorem FrR.set_same {fr:Fr}{a:Act}(hf:FrR w X fr a){t:Nat}{v:AV}(h:t<fr.length→VR w X v (a.tmps.getD t Go.undef)):FrR w X (fr.set t v) a:=by
 refine ⟨by rw [List.length_set];exact hf.len,fun i hi=>?_,hf.defers⟩
 by_cases hd:t=i
 · subst hd
   by_cases hlt:t<fr.length
   · have e:(fr.set t v).getD t .undef=v:=by simp [List.getD_eq_getElem?_getD,hlt]
     rw [e];exact h hlt
   · rw [List.set_eq_of_length_le (by omega)] at hi ⊢
     exact hf.val t hi
 · have e:(fr.set t v).getD i .undef=fr.getD i .undef:=by simp [List.getD_eq_getElem?_getD,hd]
   rw [e] at hi ⊢;exact hf.val i hi
theorem frt_ok {t e:Nat}{fr fr':Fr}{a:Act}(hS:SR T w X S)(hf:FrR w X fr a)(h:evFrt fr S t e=some (fr',S')):∃X',Stn w X w X'∧SR T w X' S'∧FrR w X' fr' a:=by
 unfold evFrt at h;have h0:=hf.val t;split at h
 · rename_i hv;cases h;rw [hv] at h0
   refine ⟨X,Stn.refl w X,hS,hf.set_same fun _=>?_⟩
   have h0:=h0 (by simp)
   generalize a.tmps.getD t Go.undef=u at h0 ⊢;cases h0
   exact .ts .imm (by simp) e [] _ (.ts .imm e [] none 0 0 0 (fun _ _=>Go.undef) (by simp) (by simp) (by simp) (by simp) (by simp))
 · rename_i id lo n hv;split at h
   rotate_left
   · cases h
   rename_i d hd;cases h;rw [hv] at h0
   have h0:=h0 (by simp)
   obtain ⟨s1,hv⟩:Stn w X w (X.drop id)∧VR w (X.drop id) (setTop (if cleanCell S (.sl id lo n)=true then .imm else .bor) d) (a.tmps.getD t Go.undef):=by
    split
    · rename_i hcl2;obtain ⟨a,_,b⟩:=row_tree_imm (outR_start hS) h0 hd hcl2;exact ⟨a,b⟩
    · obtain ⟨a,_,b⟩:=row_tree (outR_start hS) h0 hd;exact ⟨a,b⟩
   exact ⟨X.drop id,s1,sr_drop hS id,(hf.stn s1).set_same fun _=>hv⟩
 · rename_i sz els hv
   split at h<;>cases h
   rw [hv] at h0
   exact ⟨X,Stn.refl w X,hS,hf.set_same fun _=>h0 (by simp)⟩
 · cases h
theorem frzs_ok:∀(l:List (Nat×Nat×Nat)) {X:Cx} {S S':St} {fr fr':Fr} {a:Act},SR T w X S→FrR w X fr a→evFrzs fr S l=some (fr',S')→∃X',Stn w X w X'∧SR T w X' S'∧FrR w X' fr' a:=by
 intro l
 induction l with
 | nil=>intro X S S' fr fr' a hS hf h;cases h;exact ⟨X,Stn.refl w X,hS,hf⟩
 | cons p r ih =>
  intro X S S' fr fr' a hS hf h;simp only [evFrzs] at h;split at h
  · split at h
    · cases h
    rename_i q h1;obtain ⟨X1,s1,hS1,hf1⟩:=frt_ok hS hf h1;obtain ⟨X2,s2,hS2,hf2⟩:=ih hS1 hf1 h;exact ⟨X2,s1.trans s2,hS2,hf2⟩
  · split at h
    · cases h
    rename_i S1 h1;obtain ⟨X1,s1,hS1⟩:=frz_ok hS h1;obtain ⟨X2,s2,hS2,hf2⟩:=ih hS1 (hf.stn s1) h;exact ⟨X2,s1.trans s2,hS2,hf2⟩
theorem tidy_ok {h:Hint}(hn0:n0≤S.length)(hS:SR T w X S)(hf:FrR w X fr a)(ht:tidy n0 h fr S=some (fr',S')):∃X',StB n0 w X w X'∧SR T w X' S'∧FrR w X' fr' a:=by
 unfold tidy at ht;split at ht
 · cases ht
 rename_i q h1;obtain ⟨X1,s1,hS1,hf1⟩:=frzs_ok h.frz hS hf h1;obtain ⟨X2,s2,hS2,hf2⟩:=tidy0_ok hS1 hf1 ht
 exact ⟨X2,(s1.low (by rw [hS.n];exact hn0)).trans s2,hS2,hf2⟩
end Go.Pi

namespace Go.Pi
open Go
variable {P:Program} {T:Tab} {o:Oper} {a:Act} {w w':World} {X X' Xc:Cx} {fr fr':Fr} {S S':St} {v:AV} {mb:Nat} {C:Nat→List AV→St→Option (AV×St)}
theorem evOp_ok (hT:TabOk P T)(hC:COK P T C)(hS:SR T w X S)(hf:FrR w X fr a)(h:evOp T C o.op fr S=some (v,S')):Good T P o a w X v S':=by
 cases hop:o.op with
 | move x=>exact op_move hS hf (.inl hop) h
 | assign x=>exact op_move hS hf (.inr hop) h
 | pick c x y=>exact op_pick hS hf hop h
 | alloc t=>exact op_alloc hT hS hop h
 | box t x=>exact op_box hS hf hop h
 | build t ps=>exact op_build hT hS hf hop h
 | buildSlice t n ps=>exact op_buildSlice hT hS hf hop h
 | load t x=>exact op_load hT hS hf hop h
 | store t x y=>exact op_store hT hS hf hop h
 | nilCheck x=>exact op_nilCheck hS hf hop h
 | binOp op t x y t'=>exact op_binOp hT hS hf hop h
 | unOp op t x=>exact op_unOp hS hf hop h
 | convert s d x=>exact op_convert hT hS hf hop h
 | makeFunc f first caps=>exact op_makeFunc hS hf hop h
 | makeSlice t l c=>exact op_makeSlice hT hS hf hop h
 | slice t x lo hi mx=>exact op_slice hT hS hf hop h
 | fieldAddr t x f=>exact op_fieldAddr hT hS hf hop h
 | field t x f=>exact op_field hT hS hf hop h
 | indexAddr t x ix=>exact op_indexAddr hT hS hf hop h
 | index t x ix=>exact op_index hT hS hf hop h
 | extract x i=>exact op_extract hS hf hop h
 | call c =>
  cases hc:c.callee with
  | builtin b=>exact op_builtin hT hS hf hop hc h
  | value x=>exact op_call hT hC hS hf hop hc h
  | invoke r n=>rw [hop] at h;simp [evOp,hc] at h
 | _=>rw [hop] at h;simp [evOp] at h
end Go.Pi

namespace Go.Pi
open Go
variable {P:Program} {T:Tab} {o:Oper} {a:Act} {w w':World} {X X' Xc:Cx} {fr fr':Fr} {S S':St} {v:AV} {mb:Nat} {C:Nat→List AV→St→Option (AV×St)}
theorem VR.bool_inv' {av:AV}{b:Bool}(h:VR w X av (.bool b)):av=.bool b:=by
 cases h with
 | bool=>rfl
 | ts q hq sz els v h=>cases h
 | tp q hq sz els i j v h=>cases h
theorem want_ok (hf:FrR w X fr a){ops:Array Oper}{o:Oper}{g:Option (Nat×Bool)}(hk:known fr g=true)(hg:slimGuard ops.toList o=some g):want fr g=Region.wanted o (yielded ops a.tmps):=by
 unfold slimGuard at hg;unfold Region.wanted;split at hg
 · rename_i he;cases hg;rw [he];rfl
 · rename_i j b he;rw [he];split at hg
   · cases hg
   · rename_i oj hoj;split at hg
     · cases hg
     · rename_i d hd;cases hg;rw [Array.getElem?_toList] at hoj;simp only [yielded,hoj,Option.bind_some,hd,want];have h0:=hf.val d;have hl:=hf.len;rw [List.getD_eq_getElem?_getD,Array.getD_eq_getD_getElem?] at h0
       have h0:=h0 (fun he=>by
        simp only [known] at hk
        cases hd':fr[d]? with
        | none=>rw [hd'] at he;cases he
        | some z=>rw [hd'] at he hk;simp only [Option.getD_some] at he;subst he;cases hk)
       by_cases hlt:d<fr.length
       · have hlt':d<a.tmps.size:=by rw [←hl];exact hlt
         rw [List.getElem?_eq_getElem hlt,Array.getElem?_eq_getElem hlt'] at h0 ⊢;simp only [Option.getD_some] at h0;generalize fr[d]=av at h0 ⊢;generalize a.tmps[d]=u at h0 ⊢
         cases u with
         | bool c =>
          have:=h0.bool_inv';subst this
          cases c<;>cases b<;>rfl
         | _ =>
          cases h0<;>first | rfl | (rename_i hr;cases hr;done) | (rename_i hr;cases hr;rfl)
       · rw [List.getElem?_eq_none (Nat.le_of_not_lt hlt),Array.getElem?_eq_none (by rw [←hl];exact Nat.le_of_not_lt hlt)]
         rfl
theorem evOps_on (hT:TabOk P T)(hC:COK P T C){ops:Array Oper}{Q:Exit→Act→World→Prop}{w0:World}{X0:Cx}:∀(l pre post:List Oper) (rest:List Nat) (sl:List PO) (fr:Fr) (S:St) (X:Cx) (a:Act) (w:World),ops.toList=pre++(l++post) →
    slimOps ops.toList l=some sl→evOps T C sl fr S=some (fr',S')→SR T w X S→FrR w X fr a→Stn w0 X0 w X →
    (∀a' w' X',Stn w0 X0 w' X'→SR T w' X' S'→FrR w' X' fr' a'→wpOps P ops Q rest a' w')→wpOps P ops Q (List.range' pre.length l.length++rest) a w:=by
 intro l
 induction l with
 | nil =>
  intro pre post rest sl fr S X a w _ hsl h hS hf s hQ;simp only [slimOps,Option.some.injEq] at hsl;subst hsl;simp only [evOps,Option.some.injEq,Prod.mk.injEq] at h;obtain ⟨rfl,rfl⟩:=h;simp only [List.length_nil,List.range'_zero,List.nil_append];exact hQ a w X s hS hf
 | cons o l ih =>
  intro pre post rest sl fr S X a w he hsl h hS hf s hQ
  have hget:ops[pre.length]?=some o:=by
   rw [←Array.getElem?_toList,he];simp
  simp only [slimOps] at hsl;split at hsl
  · cases hsl
  rename_i g hg
  split at hsl<;>cases hsl
  rename_i sl hsl;simp only [List.length_cons,List.range'_succ,List.cons_append,wpOps,hget]
  have hnext:ops.toList=(pre++[o])++(l++post):=by rw [he];simp
  have hlen:(pre++[o]).length=pre.length+1:=by simp
  simp only [evOps] at h
  by_cases hkn:known fr g=true
  case neg=>rw [if_neg hkn] at h;cases h
  rw [if_pos hkn] at h;rw [want_ok hf hkn hg] at h;split at h
  · rename_i hw;rw [if_pos hw];split at h
    · cases h
    · rename_i v S1 h1
      left
      refine evOp_ok hT hC hS hf h1 _ _ (fun v' w' X' s1 hS1 hv1=>?_)
      have:=ih (pre++[o]) post rest sl _ S1 X' (a.put o.dst v') w' hnext hsl h hS1 (hf.put s1 o.dst hv1) (s.trans s1) hQ;rw [hlen] at this;exact this
  · rename_i hw;rw [if_neg hw];have:=ih (pre++[o]) post rest sl _ S X (a.put o.dst undef) w hnext hsl h hS (hf.put (Stn.refl w X) o.dst (VR.undef w X)) s hQ;rw [hlen] at this;exact this
theorem evOps_ok (hT:TabOk P T)(hC:COK P T C){ops:Array Oper}{Q:Exit→Act→World→Prop}{w0:World}{X0:Cx}(l pre:List Oper)(sl:List PO)(fr:Fr)(S:St)(X:Cx)(a:Act)(w:World)(he:ops.toList=pre++l)
    (hsl:slimOps ops.toList l=some sl) (h:evOps T C sl fr S=some (fr',S')) (hS:SR T w X S) (hf:FrR w X fr a) (s:Stn w0 X0 w X)
    (hQ:∀a' w' X',Stn w0 X0 w' X'→SR T w' X' S'→FrR w' X' fr' a'→Q .normal a' w'):wpOps P ops Q (List.range' pre.length l.length) a w:=by
 have:=evOps_on (ops:=ops) (Q:=Q) hT hC l pre [] [] sl fr S X a w (by simpa using he) hsl h hS hf s (fun a' w' X' s hS hf=>by simpa only [wpOps] using hQ a' w' X' s hS hf)
 simpa using this
end Go.Pi

namespace Go.Pi
open Go
variable {P:Program} {T:Tab} {o:Oper} {a:Act} {w w':World} {X X' Xc:Cx} {fr fr':Fr} {S S':St} {v:AV} {C:Nat→List AV→St→Option (AV×St)}
def Cx.blank (X:Cx):Cx:={ X with N:=0,root:=fun _=>none }
theorem stp_blank:Stp w X w X.blank:=⟨rfl,⟨rfl,Nat.le_refl _⟩,rfl,Nat.le_refl _,fun _ _ _=>⟨rfl,fun k=>k.1 rfl⟩,fun _ _ _=>rfl,rfl,rfl⟩
theorem sr_blank (hS:SR T w X S):SR T w X.blank []:=⟨rfl,fun _ hb=>absurd rfl hb,hS.pro,fun id ob h=>by simp [getOb] at h,hS.sft⟩
theorem ownOnlyLL_of {l:List (List AV)}(h:∀r∈l,ownOnlyL r=true):ownOnlyLL l=true:=by
 induction l with
 | nil=>rfl
 | cons a l ih=>simp only [ownOnlyLL,Bool.and_eq_true];exact ⟨h a (by simp),ih fun r hr=>h r (by simp [hr])⟩
theorem ownOnlyLL_window {l:List (List AV)}{lo n:Nat}(h:ownOnlyLL l=true):ownOnlyLL (window l lo n)=true :=
 ownOnlyLL_of fun r hr=>ownOnlyLL_rows h r (window_mem hr)
theorem valOk_ne {tree:Bool}{m:Nat}{v:AV}(h:∀cs,v≠.agg cs):valOk tree m v=cellOk tree m v:=by
 cases v<;>first | rfl | exact absurd rfl (h _)
theorem topOk_ne {tree:Bool}{m:Nat}{v:AV}(h:∀cs,v≠.tup cs):topOk tree m v=valOk tree m v:=by
 cases v<;>first | rfl | exact absurd rfl (h _)
theorem fzCell_ok {sz:Nat}(hnew:∀b k,X.root b=some k→¬b<sz)(hSr:SR T w X S)(hown:∀id ob,getOb S id=some ob→ownOnlyLL ob.els=true){e:Nat}{c c':AV}{u:Value}
    (hc:cellOk false 0 c=true) (h:lend1 S e c=some c') (hv:VR w X c u) (hok:∀b,b<w.heap.size→¬b<sz→¬X.pro b→X'.ok .imm b):VR w X' c' u∧cellOk true 0 c'=true:=by
 cases c with
 | int k n=>simp only [lend1,Option.some.injEq] at h;subst h;cases hv;exact ⟨.int _ _,rfl⟩
 | bool b=>simp only [lend1,Option.some.injEq] at h;subst h;cases hv;exact ⟨.bool _,rfl⟩
 | str s=>simp only [lend1,Option.some.injEq] at h;subst h;cases hv;exact ⟨.str _,rfl⟩
 | nilp=>simp only [lend1,Option.some.injEq] at h;subst h;cases hv;exact ⟨.nilp,rfl⟩
 | sl id lo n =>
  simp only [lend1] at h;split at h
  · cases h
  · rename_i ob hrow
    split at h<;>cases h
    rename_i hln;obtain ⟨rfl,hln⟩:=hln;obtain ⟨hob,_⟩:=isRow_ob hrow;have how:ownOnlyLL (window ob.els lo n)=true:=ownOnlyLL_window (hown _ _ hob)
    have:=lend_row (A:=fun b=>¬b<sz) hSr hrow hln hv (fun b hb=>hnew b id hb) (.inr (.inr how))
    refine ⟨.ts .imm (by simp) _ _ _ (this.keep (Nat.le_refl _) (fun b hb hokb=>⟨rfl,?_⟩)),rfl⟩
    have hnp:¬(X.pro b∨(b<w.heap.size∧¬¬b<sz)):=hokb.2
    exact hok b hb (fun hlt=>hnp (.inr ⟨hb,fun k=>k hlt⟩)) (fun hp=>hnp (.inl hp))
 | _=>simp [cellOk] at hc
theorem fzL_ok {sz:Nat}(hnew:∀b k,X.root b=some k→¬b<sz)(hSr:SR T w X S)(hown:∀id ob,getOb S id=some ob→ownOnlyLL ob.els=true)
    (hok:∀b,b<w.heap.size→¬b<sz→¬X.pro b→X'.ok .imm b):∀ {cs:List AV} {es:List Nat} {cs':List AV} {us:List Value},cs.all (cellOk false 0)=true→lendL S es cs=some cs'→cs.length=us.length →
    (∀i,i<cs.length→VR w X (cs.getD i .undef) (us.getD i Go.undef))→cs'.length=us.length∧∀i,i<cs'.length→VR w X' (cs'.getD i .undef) (us.getD i Go.undef):=by
 intro cs
 induction cs with
 | nil=>intro es cs' us _ h hl hv;cases es<;>(simp only [lendL,Option.some.injEq] at h;subst h;exact ⟨hl,fun i hi=>absurd hi (Nat.not_lt_zero i)⟩)
 | cons c cs ih =>
  intro es cs' us hc h hl hv
  cases es with
  | nil=>simp [lendL] at h
  | cons e es =>
   cases us with
   | nil=>simp at hl
   | cons u us =>
    simp only [lendL] at h;split at h
    · cases h
    · rename_i c1 h1
      split at h<;>cases h
      rename_i cs1 h2;simp only [List.all_cons,Bool.and_eq_true] at hc
      have k0:=(fzCell_ok hnew hSr hown hc.1 h1 (by simpa using hv 0 (by simp)) hok).1
      obtain ⟨k1,k2⟩:=ih hc.2 h2 (by simpa using hl) (fun i hi=>by simpa using hv (i+1) (by simpa using hi))
      refine ⟨by simp [k1],fun i hi=>?_⟩
      cases i with
      | zero=>simpa using k0
      | succ i=>simpa using k2 i (by simpa using hi)
theorem fz_ok {sz:Nat}(hnew:∀b k,X.root b=some k→¬b<sz)(hSr:SR T w X S)(hown:∀id ob,getOb S id=some ob→ownOnlyLL ob.els=true)
    (hok:∀b,b<w.heap.size→¬b<sz→¬X.pro b→X'.ok .imm b) {es:List Nat} {c c':AV} {u:Value} (hc:valOk false 0 c=true) (h:lend S es c=some c') (hv:VR w X c u):VR w X' c' u:=by
 cases c with
 | agg cs =>
  simp only [lend] at h
  split at h<;>cases h
  rename_i cs' h1;obtain ⟨cv,rfl,hl,hcv⟩:=hv.agg_inv;obtain ⟨k1,k2⟩:=fzL_ok hnew hSr hown hok hc h1 hl hcv;exact .agg cs' cv k1 k2
 | fn f caps=>simp [valOk,cellOk] at hc
 | ptr id i j=>simp [valOk,cellOk] at hc
 | _ =>
  rw [valOk_ne (by simp)] at hc
  simp only [lend] at h;split at h
  · exact (fzCell_ok hnew hSr hown hc h hv hok).1
  · cases h
theorem fzAll_ok {sz:Nat}(hnew:∀b k,X.root b=some k→¬b<sz)(hSr:SR T w X S)(hown:∀id ob,getOb S id=some ob→ownOnlyLL ob.els=true)
    (hok:∀b,b<w.heap.size→¬b<sz→¬X.pro b→X'.ok .imm b):∀ {cs:List AV} {ess:List (List Nat)} {cs':List AV} {us:List Value},cs.all (valOk false 0)=true→lendAll S ess cs=some cs'→cs.length=us.length →
    (∀i,i<cs.length→VR w X (cs.getD i .undef) (us.getD i Go.undef))→cs'.length=us.length∧∀i,i<cs'.length→VR w X' (cs'.getD i .undef) (us.getD i Go.undef):=by
 intro cs
 induction cs with
 | nil=>intro ess cs' us _ h hl hv;cases ess<;>(simp only [lendAll,Option.some.injEq] at h;subst h;exact ⟨hl,fun i hi=>absurd hi (Nat.not_lt_zero i)⟩)
 | cons c cs ih =>
  intro ess cs' us hc h hl hv
  cases ess with
  | nil=>simp [lendAll] at h
  | cons es ess =>
   cases us with
   | nil=>simp at hl
   | cons u us =>
    simp only [lendAll] at h;split at h
    · cases h
    · rename_i c1 h1
      split at h<;>cases h
      rename_i cs1 h2;simp only [List.all_cons,Bool.and_eq_true] at hc
      have k0:=fz_ok hnew hSr hown hok hc.1 h1 (by simpa using hv 0 (by simp))
      obtain ⟨k1,k2⟩:=ih hc.2 h2 (by simpa using hl) (fun i hi=>by simpa using hv (i+1) (by simpa using hi))
      refine ⟨by simp [k1],fun i hi=>?_⟩
      cases i with
      | zero=>simpa using k0
      | succ i=>simpa using k2 i (by simpa using hi)
theorem freeze_ok {sz:Nat}(hnew:∀b k,X.root b=some k→¬b<sz)(hSr:SR T w X S)(hown:∀id ob,getOb S id=some ob→ownOnlyLL ob.els=true)
    (hok:∀b,b<w.heap.size→¬b<sz→¬X.pro b→X'.ok .imm b) {ess:List (List Nat)} {c c':AV} {u:Value} (hc:topOk false 0 c=true) (h:freeze S ess c=some c') (hv:VR w X c u):VR w X' c' u:=by
 cases c with
 | tup cs =>
  simp only [freeze] at h
  split at h<;>cases h
  rename_i cs' h1;obtain ⟨cv,rfl,hl,hcv⟩:=hv.tup_inv;obtain ⟨k1,k2⟩:=fzAll_ok hnew hSr hown hok hc h1 hl hcv;exact .tup cs' cv k1 k2
 | _ =>
  rw [topOk_ne (by simp)] at hc
  simp only [freeze] at h;split at h
  · exact fz_ok hnew hSr hown hok hc h hv
  · cases h
theorem evCallFz_ok {F:Nat→List AV→St→Option (AV×St)}(hF:FOK P T F):COK P T (evCallFz T F):=by
 intro f args S v S' h;unfold evCallFz at h
 cases hfi:T.fn f with
 | none=>rw [hfi] at h;cases h
 | some fi =>
  rw [hfi] at h
  refine ⟨⟨fi,rfl⟩,fun w X us hS hl hv=>?_⟩
  simp only at h;split at h
  · cases h
  rename_i hk;split at h
  · cases h
  rename_i args' hla;split at h
  · cases h
  rename_i res Sr hr
  split at h<;>cases h
  rename_i hfz;obtain ⟨fi',hfi',hsh,hcall⟩:=hF f args' [] res Sr hr;rw [hfi] at hfi'
  injection hfi' with hfi'
  subst hfi'
  have ht:fi.tree=false:=by
   cases htr:fi.tree with
   | false=>rfl
   | true=>exact absurd (.inr (.inl htr)) hk
  have hsf:fi.soft=false:=by
   cases htr:fi.soft with
   | false=>rfl
   | true=>exact absurd (.inr (.inr htr)) hk
  have hk2:fi.kind≠3:=fun h2=>hk (.inl h2)
  obtain ⟨k1,k2⟩:=lendAll_ok (A:=fun _=>True) hS hla hl hv (fun v _=>⟨fun _ _=>trivial,fun _ _ _ _=>trivial,.inl fun _ _=>trivial⟩)
  refine (hcall w _ us (sr_inner hsf hS _) (by omega) (fun i hi=>k2 i (by omega))).mono ?_
  rintro e w' ⟨v',Xc,rfl,s,hSc,hvr⟩
  have s2:Stp w (X.inner w.heap.size fun _=>True) w' Xc.blank:=s.toStp.trans stp_blank
  have hsr:SR T w' (X.outer Xc.blank w.heap.size 0 []) S:=by
   have:=sr_outer (K:=[]) hS (sr_blank hSc) s2 (fun id ob h=>by simp [getOb] at h) (.inl fun id ob h=>by simp [getOb] at h)
   simpa [kill] using this
  refine ⟨v',X.outer Xc.blank w.heap.size 0 [],rfl,stn_outer s2,hsr,?_⟩
  have htop:topOk false 0 res=true:=by have:=hsh.top hk2;rw [ht] at this;exact this
  refine freeze_ok (fun b k hb=>inner_new s.toStp hb) hSc (fun id ob h=>hsh.own hk2 ht id ob h) (fun b hb hnb hnp=>⟨?_,fun hp=>hnp ?_⟩) htop hfz hvr
  · rw [outer_root_new hnb];rfl
  · rw [s.pro];exact .inl hp
theorem evCallFz_same {F:Nat→List AV→St→Option (AV×St)}{f:Nat}{args:List AV}(h:evCallFz T F f args S=some (v,S')):S'=S:=by
 unfold evCallFz at h;split at h
 · cases h
 · split at h
   · cases h
   · split at h
     · cases h
     · split at h
       · cases h
       · split at h<;>cases h
         rfl
end Go.Pi

namespace Go.Pi
open Go
variable {P:Program} {T:Tab} {o:Oper} {a:Act} {w w':World} {X X' Xc:Cx} {fr fr':Fr} {S S':St} {v:AV} {C:Nat→List AV→St→Option (AV×St)}
structure Chg (w:World) (X X':Cx):Prop where
 N:X.N≤X'.N
 φ:∀id,id<X.N→X'.φ id=X.φ id
 ok:∀q b,b<w.heap.size→X.ok q b→X'.ok q b
theorem VR.chg (s:Chg w X X'){av:AV}{v:Value}(h:VR w X av v):VR w X' av v:=by
 induction h with
 | int k n=>exact .int k n
 | bool b=>exact .bool b
 | str s=>exact .str s
 | nil=>exact .nil
 | nilp=>exact .nilp
 | fn f caps cv hl _ ih=>exact .fn f caps cv hl ih
 | agg cs cv hl _ ih=>exact .agg cs cv hl ih
 | tup cs cv hl _ ih=>exact .tup cs cv hl ih
 | ts q hq sz els v h=>exact .ts q hq sz els v (h.keep (Nat.le_refl _) fun b hb hok=>⟨rfl,s.ok q b hb hok⟩)
 | tp q hq sz els i j v h=>exact .tp q hq sz els i j v (h.keep (Nat.le_refl _) fun b hb hok=>⟨rfl,s.ok q b hb hok⟩)
 | sl id lo n cap I hid hI hn hc hm=>exact .sl id lo n cap I (Nat.lt_of_lt_of_le hid s.N) ((s.φ id hid).trans hI) hn hc hm
 | slz id lo A hid=>exact .slz id lo A (Nat.lt_of_lt_of_le hid s.N)
 | ptr id i j I hid hI=>exact .ptr id i j I (Nat.lt_of_lt_of_le hid s.N) ((s.φ id hid).trans hI)
theorem FrR.chg (s:Chg w X X')(hf:FrR w X fr a):FrR w X' fr a:=⟨hf.len,fun i hi=>(hf.val i hi).chg s,hf.defers⟩
theorem CR.relab {rid rid':Nat}(hsz:w.heap.size≤w'.heap.size)(ok:∀q b,b<w.heap.size→X.ok q b→w'.heap[b]?=w.heap[b]?∧X'.ok q b){Z:Nat×Nat→Prop}
    (hZ:∀b loc,b<w.heap.size→Z loc→X.root b=some rid→X.par b=some loc→(w'.heap[b]?=w.heap[b]?∧X'.root b=some rid'∧X'.par b=some loc∧(¬X.pro b→¬X'.pro b))∧∀off,Z (b,off))
    {loc:Nat×Nat} {av:AV} {v:Value} (h:CR w X rid loc av v) (hl:Z loc):CR w' X' rid' loc av v:=by
 induction h with
 | int loc k n=>exact .int loc k n
 | bool loc b=>exact .bool loc b
 | str loc s=>exact .str loc s
 | nil loc=>exact .nil loc
 | nilp loc=>exact .nilp loc
 | fn loc f=>exact .fn loc f
 | ts loc q hq sz els v h=>exact .ts loc q hq sz els v (h.keep hsz fun b hb hok=>ok q b hb hok)
 | tp loc q hq sz els i j v h=>exact .tp loc q hq sz els i j v (h.keep hsz fun b hb hok=>ok q b hb hok)
 | own loc sz els A cap g o c hrow hcap hA hc _ ih =>
  have key:0<cap→g<w.heap.size∧(w'.heap[g]?=w.heap[g]?∧X'.root g=some rid'∧X'.par g=some loc∧(¬X.pro g→¬X'.pro g))∧∀off,Z (g,off):=fun hn=>by
   obtain ⟨_,h2,h3,hnp,cur,e,h4,_⟩:=hA hn;have hlt:g<w.heap.size:=(Array.getElem?_eq_some_iff.1 h4).1;exact ⟨hlt,hZ g loc hlt hl h2 h3⟩
  refine .own loc sz els A cap g o c hrow hcap (fun hn=>?_) (fun i j hi hj=>?_) (fun i j hi hj=>ih i j hi hj ((key (by omega)).2.2 _))
  · obtain ⟨h1,h2,h3,hnp,cur,e,h4,h5⟩:=hA hn;obtain ⟨_,⟨k1,k2,k3,k4⟩,_⟩:=key hn;exact ⟨h1,k2,k3,k4 hnp,cur,e,k1.trans h4,h5⟩
  · obtain ⟨_,⟨k1,_⟩,_⟩:=key (by omega)
    rw [World.cell?_heap (w:=w) k1];exact hc i j hi hj
theorem OK.relab {k:Nat}{ob:Ob}(s:Chg w X X')(hk:k<X.N)
    (hb:∀b,b<w.heap.size→X.root b=some k→X'.root b=some k∧X'.par b=X.par b∧(¬X.pro b→¬X'.pro b)) (h:OK w X k ob):OK w X' k ob:=by
 unfold OK at h ⊢;rw [s.φ k hk]
 cases hI:X.φ k with
 | none=>rw [hI] at h;exact h
 | some I =>
  rw [hI] at h;obtain ⟨c,hor⟩:=h;obtain ⟨cur,e,hbk,hs⟩:=hor.blk;have hlt:I.g<w.heap.size:=(Array.getElem?_eq_some_iff.1 hbk).1;obtain ⟨l1,l2,l3⟩:=hb I.g hlt hor.root
  refine ⟨c,hor.sz,hor.rows,l1,l2.trans hor.par,l3 hor.npro,hor.blk,hor.fits,hor.cell,fun i j hi hj=>?_⟩
  have:=hor.val i j hi hj
  by_cases hk:ob.kd=.box
  · rw [if_pos hk] at this ⊢;exact this.chg s
  · rw [if_neg hk] at this ⊢
    refine this.relab (Z:=fun _=>True) (Nat.le_refl _) (fun q b hb hok=>⟨rfl,s.ok q b hb hok⟩) (fun b loc hlt _ hr hp=>?_) trivial
    obtain ⟨m1,m2,m3⟩:=hb b hlt hr
    exact ⟨⟨rfl,m1,m2.trans hp,m3⟩,fun _=>trivial⟩
inductive Under (X:Cx) (g:Nat):Nat→Prop
 | refl:Under X g g
 | step {b p c:Nat} (h:X.par b=some (p,c)) (hp:Under X g p):Under X g b
def Cx.inT (X:Cx)(g cap b:Nat):Prop:=0<cap∧Under X g b
open Classical in
noncomputable def Cx.opn (X:Cx)(id g cap:Nat)(I:Info):Cx where
 N:=X.N+1
 root b:=if X.root b=some id then (if X.inT g cap b then some X.N else none) else X.root b
 par b:=if 0<cap∧b=g then none else X.par b
 φ k:=if k=X.N then (if 0<cap then some I else none) else X.φ k
 pro b:=X.pro b∨(X.root b=some id∧¬X.inT g cap b)
 soft:=X.soft
open Classical in
noncomputable def Cx.shu (X0 X:Cx)(id g cap:Nat)(loc:Nat×Nat):Cx where
 N:=X.N
 root b:=if X0.root b=some id∧¬X0.inT g cap b then some id else if X.root b=some X0.N then some id else X.root b
 par b:=if X0.root b=some id∧¬X0.inT g cap b then X0.par b else if 0<cap∧b=g then some loc else X.par b
 φ:=X.φ
 pro:=X0.pro
 soft:=X0.soft
theorem evOpen_some {t:Nat}{av:AV}{q:Opn}(h:evOpen T t av S=some q):∃ti,T.ty t=some ti∧ti.agg=false∧T.soft=true∧av=.ptr q.id q.i q.j∧isRow S q.id=some q.ob∧q.ob.els[q.i]?=some q.row∧q.row[q.j]?=some (.ts .own q.sz q.els):=by
 unfold evOpen at h;split at h
 · rename_i ti id i j hti;split at h
   · rename_i hc;split at h
     · cases h
     · rename_i ob hob;split at h
       · cases h
       · rename_i row hrow;split at h
         · rename_i sz els hc2;cases h;exact ⟨ti,hti,hc.2,hc.1,rfl,hob,hrow,hc2⟩
         · cases h
   · cases h
 · cases h
set_option maxHeartbeats 1000000 in
theorem nest_ok (hT:TabOk P T)(hS:SR T w X S){t:Nat}{av:AV}{u:Value}{q:Opn}(h:evOpen T t av S=some q)(hv:VR w X av u) :
    ∃v' X2,(Instr.loadAt t u).run P w=.ok v' w∧SR T w X2 (q.st S)∧Chg w X X2∧VR w X2 (.sl S.length 0 q.els.length) v' ∧
     ∀w3 X3 S3 S4,Stn w X2 w3 X3→SR T w3 X3 S3→evShut q S.length S3=some S4→∃X4,Stn w X w3 X4∧SR T w3 X4 S4∧Chg w3 X3 X4:=by
 obtain ⟨ti,hti,hag,hts,rfl,hrow,hrw,hcl⟩:=evOpen_some h;obtain ⟨id,i,j,ob,row,sz,els⟩:=q;simp only [Opn.st] at *;have hsf:X.soft:=hS.sft.2 hts;obtain ⟨hob,hkd⟩:=isRow_ob hrow;have hidl:=getOb_lt hob;have hN:=hS.n;have hagg1:=(hT.ty _ _ hti).agg1 hag
 cases hv with
 | ptr id i j I hid hI =>
 obtain ⟨c,hor⟩:=row_of hS hob hI;obtain ⟨hilt,hrow'⟩:=List.getElem?_eq_some_iff.1 hrw
 have hrl:row.length=ob.sz:=hor.rows row (hrow'▸List.getElem_mem hilt)
 have hjlt:j<ob.sz:=by rw [←hrl];exact (List.getElem?_eq_some_iff.1 hcl).1
 have hat:at2 ob.els i j=.ts .own sz els:=by
  rw [at2_of hrw,List.getD_eq_getElem?_getD,hcl];rfl
 have hcell:=hor.cell i j hilt hjlt;have hval:=hor.val i j hilt hjlt;rw [if_neg hkd,hat] at hval
 have hrun:=load_run (w:=w) hT hti (g:=I.g) (p:=I.o+i*I.sz+j) (fun _=>c i j) (fun k hk=>by
  have:k=0:=by omega
  subst this;exact hcell)
 rw [hag] at hrun;simp only [Bool.false_eq_true,if_false] at hrun;generalize hu:c i j=cv at hval hrun;obtain ⟨loc,hloc⟩:∃loc,loc=(I.g,I.o+i*I.sz+j):=⟨_,rfl⟩;rw [←hloc] at hval
 cases hval with
 | ts _ q' hq'=>exact absurd rfl hq'
 | own _ _ _ A cap g o cc hrows hcap hA hc hch =>
 have hIr:=hor.root;have hIp:=hor.par;obtain ⟨curI,eI,hbI,hsI⟩:=hor.blk;have hIlt:I.g<w.heap.size:=(Array.getElem?_eq_some_iff.1 hbI).1
 have hInot:¬X.inT g cap I.g:=by
  rintro ⟨hp,hb⟩
  obtain ⟨_,h2,h3,_⟩:=hA hp
  cases hb with
  | refl=>rw [h3] at hIp;cases hIp
  | step h1 _=>rw [hIp] at h1;cases h1
 have hg:0<cap→g≠I.g:=fun hp=>by
  rintro rfl
  exact hInot ⟨hp,.refl⟩
 obtain ⟨I',hI'⟩:∃I':Info,I'.g=g∧I'.o=o∧I'.sz=sz∧(0<cap→∃cur e,w.heap[g]?=some (.cells cur e (0,0))∧cur.size=I'.size∧o+cap*sz≤I'.size∧cap≤maxLen):=by
  by_cases hp:0<cap
  · obtain ⟨_,_,_,_,cur,e,h4,h5,h6⟩:=hA hp
    exact ⟨⟨g,o,sz,cur.size⟩,rfl,rfl,rfl,fun _=>⟨cur,e,h4,rfl,h5,h6⟩⟩
  · exact ⟨⟨g,o,sz,0⟩,rfl,rfl,rfl,fun h=>absurd h hp⟩
 obtain ⟨hg1,hg2,hg3,hblk⟩:=hI'
 have okn:∀q b,X.ok q b→X.root b=none:=fun q b hok=>Cx.soft_root hsf (Cx.ok_weak hok)
 have s2:Chg w X (X.opn id g cap I'):=by
  refine ⟨by simp [Cx.opn],fun k hk=>?_,fun q b hb hok=>?_⟩
  · have:k≠X.N:=by omega
    simp [Cx.opn,this]
  · have hr:=okn q b hok
    have hp:¬(X.opn id g cap I').pro b:=by
     rintro (hp | hp)
     · exact Cx.ok_npro hok hp
     · rw [hr] at hp;cases hp.1
    have hr2:(X.opn id g cap I').root b=none:=by simp [Cx.opn,hr]
    cases q
    · exact ⟨not_root_of_none hr2,hp⟩
    · exact ⟨not_root_of_none hr2,hp⟩
    · exact ⟨hr2,hp⟩
 have hidN:id<X.N:=hid
 have hother:∀k,k≠id→∀b,X.root b=some k→(X.opn id g cap I').root b=some k∧(X.opn id g cap I').par b=X.par b∧(¬X.pro b→¬(X.opn id g cap I').pro b):=by
  intro k hk b hr
  have hne:X.root b≠some id:=by rw [hr];intro e;injection e with e;exact hk e
  refine ⟨by simp only [Cx.opn];rw [if_neg hne,hr],?_,?_⟩
  · have : ¬ (0 < cap ∧ b = g) := by
      rintro ⟨hp,rfl⟩
      exact hne (hA hp).2.1
    simp only [Cx.opn,if_neg this]
  · rintro h1 (h2 | h2)
    · exact h1 h2
    · exact hne h2.1
 have hS2:SR T w (X.opn id g cap I') (S.set id none++[some ⟨.arr,sz,els⟩]):=by
  refine ⟨by simp [Cx.opn,hN],fun b hb=>hS.lab b (fun hn=>hb (by simp [Cx.opn,hn])),fun b hp=>?_,fun k ob' hk=>?_,hS.sft⟩
  · rcases hp with hp|hp
    · exact hS.pro b hp
    · exact hS.lab b (by rw [hp.1];simp)
  · rcases getOb_append hk with ⟨hlt,h'⟩|⟨rfl,rfl⟩
    · obtain ⟨hne,h''⟩:=getOb_kill h'
      exact (hS.obs k ob' h'').relab s2 (by rw [hN];exact getOb_lt h'') (fun b _ hr=>hother k hne b hr)
    · unfold OK
      have e1:(X.opn id g cap I').φ (S.set id none).length=if 0<cap then some I' else none:=by simp [Cx.opn,hN]
      rw [e1]
      by_cases hp:0<cap
      · rw [if_pos hp];obtain ⟨_,h2,h3,hnp,_⟩:=hA hp;obtain ⟨cur,e,hb1,hb2,hb3,hb4⟩:=hblk hp;have hgin:X.inT g cap g:=⟨hp,.refl⟩
        refine ⟨cc,hg3,hrows,?_,?_,?_,⟨cur,e,by rw [hg1];exact hb1,hb2⟩,?_,fun i' j' hi' hj'=>?_,fun i' j' hi' hj'=>?_⟩
        · simp only [Cx.opn,hg1,if_pos h2,if_pos hgin,List.length_set,hN]
        · simp [Cx.opn,hg1,hp]
        · rintro (h | h)
          · rw [hg1] at h;exact hnp h
          · rw [hg1] at h;exact h.2 hgin
        · rw [hg2,hg3];have:els.length*sz≤cap*sz:=Nat.mul_le_mul_right _ hcap;show o+els.length*sz≤_;omega
        · rw [hg1,hg2,hg3];exact hc i' j' hi' hj'
        · rw [if_neg (by simp),hg1,hg2,hg3]
          have e2:(S.set id none).length=X.N:=by simp [hN]
          rw [e2]
          refine (hch i' j' hi' hj').relab (Z:=fun l=>Under X g l.1) (Nat.le_refl _) (fun q b hb hok=>⟨rfl,s2.ok q b hb hok⟩) (fun b loc' hlt hz hr hpar=>?_) .refl
          obtain ⟨pb,pc⟩:=loc';have hbel:Under X g b:=.step hpar hz;have hin:X.inT g cap b:=⟨hp,hbel⟩
          have hbg:b≠g:=by
           rintro rfl
           rw [h3,hloc] at hpar
           injection hpar with hpar
           injection hpar with h5 h6
           subst h5;exact hInot ⟨hp,hz⟩
          refine ⟨⟨rfl,?_,?_,?_⟩,fun _=>hbel⟩
          · simp only [Cx.opn,if_pos hr,if_pos hin]
          · have:¬(0<cap∧b=g):=fun h=>hbg h.2
            simp only [Cx.opn,if_neg this];exact hpar
          · rintro k1 (k2 | k2)
            · exact k1 k2
            · exact k2.2 hin
      · rw [if_neg hp]
        have h0:els.length=0:=by omega
        exact ⟨List.eq_nil_of_length_eq_zero h0,by simp⟩
 have hvr:VR w (X.opn id g cap I') (.sl S.length 0 els.length) (.slice A els.length cap):=by
  by_cases hp:0<cap
  · obtain ⟨h1,_⟩:=hA hp;obtain ⟨cur,e,hb1,hb2,hb3,hb4⟩:=hblk hp
    have:=VR.sl (w:=w) (X:=X.opn id g cap I') S.length 0 els.length cap I' (by simp [Cx.opn,hN]) (by simp [Cx.opn,hN,hp]) hcap (by rw [hg2,hg3];simpa using hb3) hb4
    rw [hg1,hg2] at this;rw [h1];simpa using this
  · have h0:cap=0:=by omega
    subst h0
    have h1:els.length=0:=by omega
    rw [h1]
    exact .slz _ 0 A (by simp [Cx.opn,hN])
 refine ⟨_,X.opn id g cap I',hrun,hS2,s2,hvr,fun w3 X3 S3 S4 s hS3 hsh=>?_⟩
 unfold evShut at hsh;split at hsh
 · cases hsh
 rename_i ob3 hrow3;obtain ⟨hob3,hkd3⟩:=isRow_ob hrow3
 split at hsh<;>cases hsh
 rename_i hc3;obtain ⟨hsz3,hlen3⟩:=hc3;have hsz3:ob3.sz=sz:=hsz3;have hlen3:ob3.els.length=els.length:=hlen3;have hN3:=hS3.n;have hlt3:=getOb_lt hob3
 have hφN:X3.φ X.N=if 0<cap then some I' else none:=by
  rw [s.φ X.N (by simp [Cx.opn])];simp [Cx.opn]
 have hφ3:∀k,k<X.N→X3.φ k=X.φ k:=fun k hk=>(s.φ k (by simp [Cx.opn];omega)).trans (s2.φ k hk)
 have hsf3:X3.soft:=by rw [s.soft];exact hsf
 have hid3:∀b,X.root b=some id→¬X.inT g cap b→b<w.heap.size∧w3.heap[b]?=w.heap[b]?∧X3.root b=none:=by
  intro b hr hn
  have hlt:=hS.lab b (by rw [hr];simp)
  have h0:(X.opn id g cap I').root b=none:=by simp only [Cx.opn,if_pos hr,if_neg hn]
  exact ⟨hlt,(s.keep b hlt (not_root_of_none h0)).1,s.none b hlt h0⟩
 have hshr:∀b k,X3.root b=some k→k≠X.N→(X.shu X3 id g cap loc).root b=some k:=by
  intro b k hr hk
  have h1:¬(X.root b=some id∧¬X.inT g cap b):=by
   rintro ⟨h1,h2⟩
   have:=(hid3 b h1 h2).2.2;rw [hr] at this;cases this
  have h2:¬X3.root b=some X.N:=by rw [hr];intro e;injection e with e;exact hk e
  simp only [Cx.shu];rw [if_neg h1,if_neg h2,hr]
 have okn3:∀q b,X3.ok q b→X3.root b=none:=fun q b hok=>Cx.soft_root hsf3 (Cx.ok_weak hok)
 have s4:Chg w3 X3 (X.shu X3 id g cap loc):=by
  refine ⟨Nat.le_refl _,fun _ _=>rfl,fun q b hb hok=>?_⟩
  have hr:=okn3 q b hok;have hp3:=Cx.ok_npro hok;rw [s.pro] at hp3
  have h1:¬(X.root b=some id∧¬X.inT g cap b):=fun h=>hp3 (.inr h)
  have hr4:(X.shu X3 id g cap loc).root b=none:=by simp [Cx.shu,h1,hr]
  have hp4:¬(X.shu X3 id g cap loc).pro b:=fun h=>hp3 (.inl h)
  cases q
  · exact ⟨not_root_of_none hr4,hp4⟩
  · exact ⟨not_root_of_none hr4,hp4⟩
  · exact ⟨hr4,hp4⟩
 have hok3:=hS3.obs _ _ hob3;rw [←hN] at hok3
 have hrg:0<cap→X3.root g=some X.N:=fun hp=>by
  unfold OK at hok3;rw [hφN,if_pos hp] at hok3;obtain ⟨c3,hor3⟩:=hok3;have:=hor3.root;rw [hg1] at this;exact this
 have hpar4:∀b k,X3.root b=some k→k≠X.N→(X.shu X3 id g cap loc).par b=X3.par b:=by
  intro b k hr hk
  have h1:¬(X.root b=some id∧¬X.inT g cap b):=by
   rintro ⟨h1,h2⟩
   have:=(hid3 b h1 h2).2.2;rw [hr] at this;cases this
  have h2:¬(0<cap∧b=g):=by
   rintro ⟨hp,rfl⟩
   rw [hrg hp] at hr;injection hr with hr;exact hk hr.symm
  simp only [Cx.shu,if_neg h1,if_neg h2]
 have hnone:∀b,b<w.heap.size→X.root b=none→(X.shu X3 id g cap loc).root b=none:=by
  intro b hlt hn
  have h0:(X.opn id g cap I').root b=none:=by simp [Cx.opn,hn]
  have h3:=s.none b hlt h0;simp [Cx.shu,hn,h3]
 have s5:Stn w X w3 (X.shu X3 id g cap loc):=by
  refine ⟨⟨s.os,s.tape,s.output,s.size,fun b hb hr=>?_,hnone,rfl,rfl⟩,?_,fun k hk=>hφ3 k hk⟩
  · have hn:=Cx.soft_root hsf hr
    have h0:(X.opn id g cap I').root b=none:=by simp [Cx.opn,hn]
    exact ⟨(s.keep b hb (not_root_of_none h0)).1,not_root_of_none (hnone b hb hn)⟩
  · have:=s.le;simp only [Cx.opn] at this;simp only [Cx.shu];omega
 refine ⟨X.shu X3 id g cap loc,s5,⟨by simp [Cx.shu,hN3],fun b hb=>?_,fun b hp=>Nat.lt_of_lt_of_le (hS.pro b hp) s.size,fun k ob' hk=>?_,hS.sft⟩,s4⟩
 · by_cases h1:X.root b=some id∧¬X.inT g cap b
   · exact Nat.lt_of_lt_of_le (hid3 b h1.1 h1.2).1 s.size
   · refine hS3.lab b (fun hn=>hb ?_)
     simp [Cx.shu,h1,hn]
 · rcases getOb_set hk with ⟨rfl,rfl⟩|⟨hne,h'⟩
   · 
     unfold OK;have e1:(X.shu X3 k g cap loc).φ k=some I:=(hφ3 k hidN).trans hI;rw [e1];have hsame:=hid3 I.g hIr hInot;have hK:X.root I.g=some k∧¬X.inT g cap I.g:=⟨hIr,hInot⟩
     refine ⟨c,hor.sz,fun r hr=>?_,by simp [Cx.shu,hK],by simp only [Cx.shu,if_pos hK];exact hIp,hor.npro,⟨curI,eI,hsame.2.1.trans hbI,hsI⟩,by simpa using hor.fits,fun i' j' hi' hj'=>?_,fun i' j' hi' hj'=>?_⟩
     · rcases List.mem_or_eq_of_mem_set hr with hr|rfl
       · exact hor.rows r hr
       · simpa using hrl
     · rw [World.cell?_heap (w:=w) hsame.2.1]
       exact hor.cell i' j' (by simpa using hi') hj'
     · show if ob.kd=.box then _ else _
       rw [if_neg hkd]
       have hi2:i'<ob.els.length:=by simpa using hi'
       have hj2:j'<ob.sz:=hj';have hri:ob.els[i'].length=ob.sz:=hor.rows _ (List.getElem_mem hi2)
       by_cases heq:i'=i∧j'=j
       · obtain ⟨rfl,rfl⟩:=heq
         have e2:at2 (ob.els.set i' (row.set j' (.ts .own sz ob3.els))) i' j'=.ts .own sz ob3.els:=by
          have:j'<row.length:=by omega
          simp [at2,List.getD_eq_getElem?_getD,hi2,this]
         rw [e2,hu];have hlen:ob3.els.length=els.length:=hlen3
         have:CR w3 (X.shu X3 k g cap loc) k loc (.ts .own sz ob3.els) (.slice A ob3.els.length cap):=by
          by_cases hp:0<cap
          · unfold OK at hok3;rw [hφN,if_pos hp] at hok3;obtain ⟨c3,hor3⟩:=hok3;obtain ⟨h1,h2,h3,hnp,_⟩:=hA hp;obtain ⟨cur,e,hb1,hb2,hb3,hb4⟩:=hblk hp;obtain ⟨cur3,e3,hb5,hb6⟩:=hor3.blk;have hgin:X.inT g cap g:=⟨hp,.refl⟩
            have hnK:¬(X.root g=some k∧¬X.inT g cap g):=fun h=>h.2 hgin
            refine .own loc sz ob3.els A cap g o c3 (fun r hr=>(hor3.rows r hr).trans hsz3) (by omega) (fun _=>⟨h1,?_,?_,hnp,cur3,e3,by rw [←hg1];exact hb5,by rw [hb6];exact hb3,hb4⟩) (fun i3 j3 hi3 hj3=>?_) (fun i3 j3 hi3 hj3=>?_)
            · simp only [Cx.shu,if_neg hnK,if_pos (hrg hp)]
            · simp only [Cx.shu,if_neg hnK];simp [hp]
            · have hj4:j3<ob3.sz:=by rw [hsz3];exact hj3
              have:=hor3.cell i3 j3 hi3 hj4;rw [hg1,hg2,hg3] at this;exact this
            · have hj4:j3<ob3.sz:=by rw [hsz3];exact hj3
              have h0:=hor3.val i3 j3 hi3 hj4;rw [if_neg hkd3,hg1,hg2,hg3] at h0
              refine h0.relab (Z:=fun _=>True) (Nat.le_refl _) (fun q b hb hok=>⟨rfl,s4.ok q b hb hok⟩) (fun b loc' hlt _ hr hpar=>?_) trivial
              have hbg:b≠g:=by
               rintro rfl
               have:=hor3.par;rw [hg1] at this;rw [this] at hpar;cases hpar
              have h1:¬(X.root b=some k∧¬X.inT g cap b):=by
               rintro ⟨h1,h2⟩
               have:=(hid3 b h1 h2).2.2;rw [hr] at this;cases this
              have h2:¬(0<cap∧b=g):=fun h=>hbg h.2
              refine ⟨⟨rfl,by simp only [Cx.shu,if_neg h1,if_pos hr],by simp only [Cx.shu,if_neg h1,if_neg h2];exact hpar,fun k1 k2=>?_⟩,fun _=>trivial⟩
              apply k1;rw [s.pro];exact .inl k2
          · have h0:els.length=0:=by omega
            have h3:ob3.els=[]:=List.eq_nil_of_length_eq_zero (by omega)
            rw [h3]
            have h00:cap=0:=by omega
            subst h00
            exact .own loc sz [] A 0 0 0 (fun _ _=>Go.undef) (by simp) (by simp) (by simp) (by simp) (by simp)
         rw [hloc,hlen] at this;rw [hloc];exact this
       · have e2 : at2 (ob.els.set i (row.set j (.ts .own sz ob3.els))) i' j' = at2 ob.els i' j' := by
           by_cases hii:i'=i
           · subst hii
             have hjj:j≠j':=fun e=>heq ⟨rfl,e.symm⟩
             simp [at2,List.getD_eq_getElem?_getD,hi2,hjj,hrw,hrow']
           · have:i≠i':=fun e=>hii e.symm
             simp [at2,List.getD_eq_getElem?_getD,this]
         rw [e2];have h0:=hor.val i' j' hi2 hj2;rw [if_neg hkd] at h0
         have hokt:∀q b,b<w.heap.size→X.ok q b→w3.heap[b]?=w.heap[b]?∧(X.shu X3 k g cap loc).ok q b:=by
          intro q b hb hok;have h2:=s2.ok q b hb hok;have hk1:=s.keep b hb (Cx.ok_weak h2);have hr:=okn q b hok;have hr4:=hnone b hb hr;have hp:=Cx.ok_npro hok;refine ⟨hk1.1,?_⟩;cases q
          · exact ⟨not_root_of_none hr4,hp⟩
          · exact ⟨not_root_of_none hr4,hp⟩
          · exact ⟨hr4,hp⟩
         refine h0.relab (Z:=fun l=>¬X.inT g cap l.1∧l≠loc) s.size hokt (fun b loc' hlt hz hr hpar=>?_) ⟨hInot,?_⟩
         · obtain ⟨pb,pc⟩:=loc'
           have hnin:¬X.inT g cap b:=by
            rintro ⟨hp,hb⟩
            cases hb with
            | refl =>
             rw [(hA hp).2.2.1] at hpar
             injection hpar with hpar
             exact hz.2 hpar.symm
            | step h1 h2 =>
             rw [h1] at hpar
             injection hpar with hpar
             injection hpar with h5 h6
             subst h5;exact hz.1 ⟨hp,h2⟩
           have hK2:X.root b=some k∧¬X.inT g cap b:=⟨hr,hnin⟩
           refine ⟨⟨(hid3 b hr hnin).2.1,by simp only [Cx.shu,if_pos hK2],by simp only [Cx.shu,if_pos hK2];exact hpar,fun h=>h⟩,fun off=>⟨hnin,fun e=>?_⟩⟩
           rw [hloc] at e
           injection e with e1 e2
           subst e1;rw [hIp] at hpar;cases hpar
         · rw [hloc];intro e
           injection e with e1 e2
           have hszI:=hor.sz
           have h5:i'*I.sz+j'=i*I.sz+j:=by omega
           have hj3:j'<I.sz:=by omega
           have hj4:j<I.sz:=by omega
           have h6:(i'*I.sz+j') / I.sz=i':=by rw [Nat.mul_comm,Nat.mul_add_div (by omega),Nat.div_eq_of_lt hj3];omega
           have h7:(i*I.sz+j) / I.sz=i:=by rw [Nat.mul_comm,Nat.mul_add_div (by omega),Nat.div_eq_of_lt hj4];omega
           have h8:i'=i:=by rw [←h6,h5,h7]
           subst h8
           exact heq ⟨rfl,by omega⟩
   · obtain ⟨hneN,h''⟩:=getOb_kill h'
     have hneN':k≠X.N:=by rw [hN];exact hneN
     refine (hS3.obs k ob' h'').relab s4 (by rw [hN3];exact getOb_lt h'') (fun b _ hr=>⟨hshr b k hr hneN',hpar4 b k hr hneN',fun h1 h2=>?_⟩)
     apply h1;rw [s.pro];exact .inl h2
theorem slimOps_take {ops:List Oper}:∀ {l:List Oper} {sl:List PO} (k:Nat),slimOps ops l=some sl→slimOps ops (l.take k)=some (sl.take k)∧slimOps ops (l.drop k)=some (sl.drop k):=by
 intro l
 induction l with
 | nil=>intro sl k h;simp only [slimOps,Option.some.injEq] at h;subst h;simp [slimOps]
 | cons o l ih =>
  intro sl k h
  cases k with
  | zero=>exact ⟨by simp [slimOps],by simpa using h⟩
  | succ k =>
   simp only [slimOps] at h;split at h
   · cases h
   rename_i g hg
   split at h<;>cases h
   rename_i sl' h';obtain ⟨h1,h2⟩:=ih k h'
   exact ⟨by simp [slimOps,hg,h1],by simpa using h2⟩
theorem slimOps_cons {ops:List Oper}{l:List Oper}{p:PO}{sl:List PO}(h:slimOps ops l=some (p::sl)):∃o r g,l=o::r∧slimGuard ops o=some g∧p=⟨o.dst,o.op,g⟩∧slimOps ops r=some sl:=by
 cases l with
 | nil=>cases h
 | cons o l =>
  simp only [slimOps] at h;split at h
  · cases h
  rename_i g hg
  split at h<;>cases h
  rename_i h';exact ⟨o,l,g,rfl,hg,rfl,h'⟩
theorem slimOps_len' {ops:List Oper}:∀ {l:List Oper} {sl:List PO},slimOps ops l=some sl→l.length=sl.length:=by
 intro l
 induction l with
 | nil=>intro sl h;simp only [slimOps,Option.some.injEq] at h;subst h;rfl
 | cons o l ih =>
  intro sl h;simp only [slimOps] at h;split at h
  · cases h
  split at h<;>cases h
  rename_i sl' h';simp [ih h']
theorem loadOf_some {p:Option PO}{u:Nat×Nat×Nat}(h:loadOf p=some u):p=some ⟨some u.1,.load u.2.1 (.tmp u.2.2),none⟩:=by
 unfold loadOf at h
 split at h<;>cases h
 rfl
set_option maxHeartbeats 1000000 in
theorem evNest_ok (hT:TabOk P T)(hC:COK P T C){ops:Array Oper}{Q:Exit→Act→World→Prop}{sl:List PO}{k m:Nat}(hsl:slimOps ops.toList ops.toList=some sl)(h:evNest T C sl k m fr S=some (fr',S'))(hS:SR T w X S)(hf:FrR w X fr a)
    (hQ:∀a' w' X',Stn w X w' X'→SR T w' X' S'→FrR w' X' fr' a'→Q .normal a' w'):wpOps P ops Q (List.range' 0 ops.size) a w:=by
 unfold evNest at h;split at h
 rotate_left
 · cases h
 rename_i p u h1 hu;split at h
 · cases h
 rename_i q hq;split at h
 · cases h
 rename_i r h2;split at h
 · cases h
 rename_i S4 hsh;obtain ⟨fr1,S1⟩:=p;obtain ⟨d,t,x⟩:=u;obtain ⟨fr3,S3⟩:=r;have hu':=loadOf_some hu;simp only at hq h2 hsh h hu';obtain ⟨hklt,hkeq⟩:=List.getElem?_eq_some_iff.1 hu'
 have hdrop:sl.drop k=⟨some d,.load t (.tmp x),none⟩::sl.drop (k+1):=by
  rw [List.drop_eq_getElem_cons hklt,hkeq]
 have hlen:=slimOps_len' hsl;obtain ⟨ha1,ha2⟩:=slimOps_take k hsl;rw [hdrop] at ha2;obtain ⟨o,rr,g,hdr,hgd,hpo,hrr⟩:=slimOps_cons ha2;obtain ⟨hb1,hb2⟩:=slimOps_take m hrr
 injection hpo with hp1 hp2 hp3
 subst hp3
 have hops:ops.toList=ops.toList.take k++(o::(rr.take m++rr.drop m)):=by
  rw [List.take_append_drop,←hdr,List.take_append_drop]
 have hlk:(ops.toList.take k).length=k:=by rw [List.length_take];omega
 have hget:ops[k]?=some o:=by
  rw [←Array.getElem?_toList,hops,List.getElem?_append_right (by omega),hlk];simp
 have hsize:ops.size=k+(1+((rr.take m).length+(rr.drop m).length)):=by
  have:=congrArg List.length hops;simp only [List.length_append,List.length_cons,hlk,Array.length_toList] at this;omega
 have hrange:List.range' 0 ops.size=List.range' (([]:List Oper).length) (ops.toList.take k).length++(k::(List.range' (k+1) (rr.take m).length++(List.range' (k+1+(rr.take m).length) (rr.drop m).length++[]))):=by
  rw [hsize,hlk,List.append_nil,List.range'_append_1,←List.range'_succ,List.length_nil];have:=List.range'_append_1 (s:=0) (m:=k) (n:=(rr.take m).length+(rr.drop m).length+1);rw [Nat.zero_add] at this;rw [this]
  congr 1;omega
 rw [hrange]
 refine evOps_on (w0:=w) (X0:=X) hT hC (ops.toList.take k) [] (o::(rr.take m++rr.drop m)) _ _ fr S X a w (by simpa using hops) ha1 h1 hS hf (Stn.refl w X) (fun a1 w1 X1 s1 hS1 hf1=>?_)
 rw [wpOps];simp only [hget]
 have hwant:Region.wanted o (yielded ops a1.tmps)=true:=by
  rw [←want_ok (X:=X1) (w:=w1) (fr:=fr1) hf1 (g:=none) rfl hgd];rfl
 rw [if_pos hwant]
 left
 have hne:fr1.getD x .undef≠.any:=by
  intro e;rw [e] at hq;unfold evOpen at hq;split at hq
  · rename_i h5;cases h5
  · cases hq
 obtain ⟨v',X2,hrun,hS2,c2,hvr,hback⟩:=nest_ok hT hS1 hq (hf1.val x hne)
 have hr:(execOp a1.eval o).run P w1=.ok (.value v') w1:=by
  have he:a1.eval (.tmp x)=a1.tmps.getD x Go.undef:=rfl;simp only [execOp,←hp2,Sem.run_bind,he,hrun,Result.andThen_ok,Sem.run_pure]
 unfold Oper.wp;rw [hr,Oper.upon_value]
 have hf2:FrR w1 X2 (fr1.set d (.sl S1.length 0 q.els.length)) (a1.put o.dst v'):=by
  rw [←hp1];exact (hf1.chg c2).put (Stn.refl w1 X2) (some d) hvr
 have e1:k+1=(ops.toList.take k++[o]).length:=by rw [List.length_append,hlk];rfl
 have e2:k+1+(rr.take m).length=(ops.toList.take k++[o]++rr.take m).length:=by rw [List.length_append,←e1]
 rw [e2]
 conv=>arg 4;rw [e1]
 refine evOps_on (w0:=w1) (X0:=X2) hT hC (rr.take m) (ops.toList.take k++[o]) (rr.drop m) _ _ _ _ X2 _ w1 (by rw [List.append_assoc];exact hops) hb1 h2 hS2 hf2 (Stn.refl w1 X2) (fun a3 w3 X3 s3 hS3 hf3=>?_)
 obtain ⟨X4,s4,hS4,c4⟩:=hback w3 X3 S3 S4 s3 hS3 hsh
 have hd2:sl.drop (k+1+m)=(sl.drop (k+1)).drop m:=by rw [List.drop_drop]
 rw [hd2] at h
 refine evOps_on (w0:=w) (X0:=X) hT hC (rr.drop m) (ops.toList.take k++[o]++rr.take m) [] [] _ fr3 S4 X4 a3 w3 (by simp only [List.append_assoc,List.append_nil];exact hops) hb2 h hS4 (hf3.chg c4) (s1.trans s4) (fun a' w' X' s hS' hf'=>?_)
 simpa only [wpOps] using hQ a' w' X' s hS' hf'
end Go.Pi

namespace Go.Pi
open Go
variable {P:Program} {T:Tab} {o:Oper} {a:Act} {w w':World} {X X' Xc:Cx} {fr fr':Fr} {S S':St} {v:AV} {C:Nat→List AV→St→Option (AV×St)}
def DrawSound (P:Program)(T:Tab):Prop :=
 ∀(F:Nat→List AV→St→Option (AV×St)) (ops:Array Oper) (sl:List PO) (fr:Fr) (S:St) (fr':Fr) (S':St),FOK P T F→drawOk ops.toList=true→slimOps ops.toList ops.toList=some sl →
  evOps T (evCallFz T F) sl fr S=some (fr',S') →
  ∀(w:World) (X:Cx) (a:Act) (Q:Exit→Act→World→Prop),SR T w X S→FrR w X fr a→(∀a' w' X',Stn w X w' X'→SR T w' X' S'→FrR w' X' fr' a'→Q .normal a' w') →
   ∀t,wpOps P ops Q (Region.schedule (P.follows .mixedOrders) ops t) a w
def FxSound (P:Program)(T:Tab):Prop :=
 ∀(n0:Nat) (F:Nat→List AV→St→Option (AV×St)) (ops:Array Oper) (sl:List PO) (x:FxI) (fr:Fr) (S:St) (fr':Fr) (S':St),FOK P T F→fxOk ops.toList x=true→slimOps ops.toList ops.toList=some sl →
  evFx T (evCall T F) sl x fr S=some (fr',S')→n0≤S.length →
  ∀(w:World) (X:Cx) (a:Act) (Q:Exit→Act→World→Prop),SR T w X S→FrR w X fr a→(∀a' w' X',StB n0 w X w' X'→SR T w' X' S'→FrR w' X' fr' a'→Q .normal a' w') →
   ∀t,wpOps P ops Q (Region.schedule (P.follows .mixedOrders) ops t) a w
def exOf:Ex→Exit
 | .normal=>.normal
 | .exit id=>.exit id
 | .ret=>.ret
variable {n0:Nat}
def Left (T:Tab)(n0:Nat)(w:World)(X:Cx)(ex:Ex)(fr':Fr)(S':St)(e:Exit)(a':Act)(w':World):Prop :=
 e=exOf ex∧∃X',StB n0 w X w' X'∧SR T w' X' S'∧FrR w' X' fr' a'
theorem Left.from {w0:World}{X0:Cx}{ex:Ex}{e:Exit}{a':Act}(s:StB n0 w0 X0 w X)(h:Left T n0 w X ex fr' S' e a' w'):Left T n0 w0 X0 ex fr' S' e a' w':=by
 obtain ⟨he,X',s',h⟩:=h;exact ⟨he,X',s.trans s',h⟩
def SC (P:Program)(T:Tab)(F:Nat→List AV→St→Option (AV×St))(k:Nat):Prop :=
 ∀n0 p c fr S ex fr' S',evC T F k n0 (lay p c) fr S=some (ex,fr',S')→n0≤S.length →
  ∀w X a,SR T w X S→FrR w X fr a→c.wp P (Left T n0 w X ex fr' S') a w
theorem norm_some {r:Option (Fr×St)}{ex:Ex}(h:norm r=some (ex,fr',S')):ex=.normal∧r=some (fr',S'):=by
 unfold norm at h
 split at h<;>cases h
 exact ⟨rfl,rfl⟩
theorem fok_of_sc (hT0:TabOk P T){k:Nat}(h:∀b,SC P (T.at b) (evF T k) k):FOK P T (evF T (k+1)):=by
 intro f args S0 res S' he;simp only [evF] at he
 cases hfi:T.fn f with
 | none=>rw [hfi] at he;cases he
 | some fi =>
  rw [hfi] at he;simp only at he;split at he
  · rename_i hle;obtain ⟨hle,hgv,hkz,htree⟩:=hle;have hT:TabOk P (T.at fi.soft):=hT0.at _
    have hz:fi.kind≠3→fi.given=0:=fun hk=>hkz.resolve_left hk
    obtain ⟨fn,c,hfn,hbody,hslim,hnt,hres,_⟩:=hT0.fn f fi hfi
    obtain ⟨ex,fr,S,hev,hfin,hex⟩:∃ex fr S,evC (T.at fi.soft) (evF T k) k fi.given fi.body (args0 fi args) S0=some (ex,fr,S)∧finish (T.at fi.soft) fi fr S=some (res,S')∧(ex=.normal∨ex=.ret):=by
     unfold close at he;split at he
     · rename_i h1;exact ⟨_,_,_,h1,he,.inl rfl⟩
     · rename_i h1;exact ⟨_,_,_,h1,he,.inr rfl⟩
     · cases he
    rw [←hslim] at hev
    have hwp:=h _ _ _ _ _ _ _ _ _ hev (by omega)
    refine ⟨fi,rfl,finish_shape hgv hz hfin,fun w X us hS hl hv=>?_⟩
    refine calls_of_wp hfn hbody ?_
    have hf:FrR w X (args0 fi args) { tmps:=us.toArray++Array.replicate (fn.ntmps-us.toArray.size) undef,defers:=[] }:=by
     unfold args0
     refine ⟨by simp [hnt,hl],fun i _=>?_,rfl⟩
     rw [hnt]
     by_cases hi:i<args.length
     · have hi':i<us.length:=by omega
       have:=hv i hi;simpa [List.getD_eq_getElem?_getD,Array.getD_eq_getD_getElem?,List.getElem?_append,Array.getElem?_append,hi,hi'] using this
     · have hi':¬i<us.length:=by omega
       have e1:(args++List.replicate (fi.ntmps-args.length) AV.undef).getD i .undef=.undef:=by
        simp only [List.getD_eq_getElem?_getD,List.getElem?_append,if_neg hi,List.getElem?_replicate]
        split<;>rfl
       have e2:(us.toArray++Array.replicate (fi.ntmps-us.toArray.size) undef).getD i undef=undef:=by
        simp only [Array.getD_eq_getD_getElem?,Array.getElem?_append,List.size_toArray,if_neg hi',Array.getElem?_replicate]
        split<;>rfl
       rw [e1,e2];exact VR.undef w X
    refine wp_mono (hwp w X _ hS hf) ?_
    rintro e a' w' ⟨rfl,X',s,hS',hf'⟩
    have hN:=hS.n
    have sN:Stn w X w' X':=⟨s.toStp,by have:=s.le;omega,fun id hid=>s.φ id (by omega)⟩
    obtain ⟨us',X2,hrun,s2,hS2,hv2⟩:=finish_ok hT hS sN hS' hf' hgv hz (fun ht=>by cases hb:fi.soft with|false=>rfl|true=>(have:=htree hb;rw [this] at ht;cases ht)) hfin
    rw [←hres] at hrun;have hr:=results_run hrun
    rcases hex with rfl|rfl
    · exact ⟨hf'.defers,_,hr,_,X2,rfl,s2,hS2,hv2⟩
    · exact ⟨hf'.defers,_,hr,_,X2,rfl,s2,hS2,hv2⟩
  · cases he
theorem loop_key {F:Nat→List AV→St→Option (AV×St)}{p:PC}{c:Code}{ex:Ex}{w0:World}{X0:Cx}:∀(k:Nat),(∀j,j<k→SC P T F j)→∀(fr:Fr) (S:St),evC T F k n0 (.loop (lay p c)) fr S=some (ex,fr',S')→n0≤S.length →
    ∀(X:Cx) (a:Act) (w:World),SR T w X S→FrR w X fr a→StB n0 w0 X0 w X→∀(b:Frame) (kk:List Item) (cs:List Frame),
     ∃e a' w',Left T n0 w0 X0 ex fr' S' e a' w'∧Arrives P (lone (b.at a (.code c::.inLoop c::kk)) cs w) b kk cs e a' w':=by
 intro k
 induction k with
 | zero=>intro _ fr S h;simp [evC] at h
 | succ k ih =>
  intro hsc fr S h hm;simp only [evC] at h;have hk:=hsc k (Nat.lt_succ_self k);split at h
  · rename_i fr1 S1 h1;have hwp:=hk _ _ _ _ _ _ _ _ h1 hm;intro X a w hS hf s b kk cs;obtain ⟨e,a1,w1,⟨rfl,X1,s1,hS1,hf1⟩,harr⟩:=hwp w X a hS hf b (.inLoop c::kk) cs;have hN1:=hS1.n
    obtain ⟨e2,a2,w2,hq2,harr2⟩:=ih (fun j hj=>hsc j (by omega)) fr1 S1 h (by have:=s1.le;omega) X1 a1 w1 hS1 hf1 (s.trans s1) b kk cs
    exact ⟨e2,a2,w2,hq2,.of_steps (Steps.trans harr (.one step_inLoop)) harr2⟩
  · rename_i hne;have hwp:=hk _ _ _ _ _ _ _ _ h hm;intro X a w hS hf s b kk cs;obtain ⟨e,a1,w1,hq,harr⟩:=hwp w X a hS hf b (.inLoop c::kk) cs;have hq':=hq;obtain ⟨rfl,_⟩:=hq
    cases ex with
    | normal=>exact absurd h (hne _ _)
    | exit id=>exact ⟨_,a1,w1,hq'.from s,.pass (x:=.inLoop c) rfl (fun _ _=>.inl (by simp [exOf])) harr⟩
    | ret=>exact ⟨_,a1,w1,hq'.from s,.pass (x:=.inLoop c) rfl (fun _ _=>.inl (by simp [exOf])) harr⟩
theorem FrR.putAny (hf:FrR w X fr a)(d:Nat)(v:Value):FrR w X (fr.set d .any) (a.put (some d) v):=by
 refine ⟨by simp [Act.put,hf.len],fun i hi=>?_,hf.defers⟩
 have hl:=hf.len;have h0:=hf.val i;simp only [Act.put,List.getD_eq_getElem?_getD,Array.getD_eq_getD_getElem?,List.getElem?_set,Array.getElem?_setIfInBounds] at hi h0 ⊢
 by_cases hd:d=i
 · subst hd
   by_cases hlt:d<fr.length
   · simp [hlt] at hi
   · have:¬d<a.tmps.size:=by omega
     simp only [if_true,if_neg hlt,if_neg this] at hi ⊢
     rw [List.getElem?_eq_none (by omega),Array.getElem?_eq_none (by omega)] at h0
     exact h0 hi
 · simp only [if_neg hd] at hi ⊢;exact h0 hi
theorem ambWay_ok {av:AV}{b:Bool}{u:Value}(h:ambWay av=some b)(hv:VR w X av u):∃A n c,u=.slice A n c∧(b=false→A≠none):=by
 cases hv with
 | ts q hq sz els v hr =>
  cases hr with
  | ts q sz els A cap g o c hrow hcap hA hc hh =>
   refine ⟨A,_,_,rfl,fun hb=>?_⟩
   subst hb
   cases els with
   | nil=>simp [ambWay] at h
   | cons x r=>obtain ⟨h1,_⟩:=hA (by simp);rw [h1];simp
 | sl id lo n cap I hid hI hn hc hm=>exact ⟨_,_,_,rfl,fun _=>by simp⟩
 | slz id lo A hid=>exact ⟨A,0,0,rfl,fun hb=>by subst hb;simp [ambWay] at h⟩
 | _=>simp [ambWay] at h
theorem run_nil {t e:Nat}(h:P.underlying t=some (.slice e))(A:Option Addr)(n c:Nat)(x y:Operand)(w:World) :
    (do eqGuard .eql t x y (.slice A n c) (.slice none 0 0);binOp .eql t (.slice A n c) (.slice none 0 0):Sem Value).run P w=.ok (.bool A.isNone) w:=by
 have h1:(Op.equal t (.slice A n c) (.slice none 0 0)).run P w=.ok A.isNone w:=by
  unfold Op.equal
  rw [show Op.maxDepth=9999+1 from rfl,Op.equalIn]
  simp only [Sem.run_bind,run_underlying h,Result.andThen_ok]
  cases A<;>simp
 simp [eqGuard,binOp,h1]
theorem both_some {b:Bool}{r s:Option (Ex×Fr×St)}{q:Ex×Fr×St}(h:both b r s=some q):(b=true→r=some q)∧s=some q:=by
 unfold both at h;split at h
 · split at h
   · rename_i e;exact ⟨fun _=>h,e▸h⟩
   · cases h
 · rename_i hb;exact ⟨fun hb'=>absurd hb' hb,h⟩
theorem ambOps_some {l:List PO}{p q:PO}(h:ambOps l=some (p,q)):l=[p,q]:=by
 unfold ambOps at h;split at h
 · cases h;rfl
 · cases h
theorem slimOps_len {ops:List Oper}:∀ {l:List Oper} {sl:List PO},slimOps ops l=some sl→l.length=sl.length:=by
 intro l
 induction l with
 | nil=>intro sl h;simp only [slimOps,Option.some.injEq] at h;subst h;rfl
 | cons o l ih =>
  intro sl h;simp only [slimOps] at h;split at h
  · cases h
  split at h<;>cases h
  rename_i sl' h';simp [ih h']
theorem two_ops {ops:List Oper}{p0 p1:PO}(h:slimOps ops ops=some [p0,p1]):∃o0 o1 g0 g1,ops=[o0,o1]∧slimGuard ops o0=some g0∧slimGuard ops o1=some g1∧p0=⟨o0.dst,o0.op,g0⟩∧p1=⟨o1.dst,o1.op,g1⟩:=by
 have e:=slimOps_len h
 have key:∀l:List Oper,slimOps ops l=some [p0,p1]→l.length=2→∃o0 o1 g0 g1,l=[o0,o1]∧slimGuard ops o0=some g0∧slimGuard ops o1=some g1∧p0=⟨o0.dst,o0.op,g0⟩∧p1=⟨o1.dst,o1.op,g1⟩:=by
  intro l hl he
  cases l with
  | nil=>cases he
  | cons o0 l =>
   cases l with
   | nil=>cases he
   | cons o1 l =>
    cases l with
    | cons o2 l=>simp at he
    | nil =>
     simp only [slimOps] at hl
     cases h0:slimGuard ops o0 with
     | none=>rw [h0] at hl;cases hl
     | some g0 =>
      cases h1:slimGuard ops o1 with
      | none=>rw [h0,h1] at hl;cases hl
      | some g1 =>
       rw [h0,h1] at hl;simp only [Option.some.injEq,List.cons.injEq,and_true] at hl;exact ⟨o0,o1,g0,g1,rfl,h0,h1,hl.1.symm,hl.2.symm⟩
 exact key ops h e
set_option maxHeartbeats 1000000 in
theorem sc_amb (hT:TabOk P T){F:Nat→List AV→St→Option (AV×St)}(hF:FOK P T F){k:Nat}(ih:∀j,j<k+1→SC P T F j){ops:Array Oper}{sl:List PO}{x':Operand}{p1 q1 p2 q2:PC}{ca cb ce:Code}{id:Nat}{ex:Ex}
    (hsl:slimOps ops.toList ops.toList=some sl) (h:evC T F (k+1) n0 (.amb sl x' (.seq (lay p1 ca) (lay q1 ce)) (.seq (lay p2 cb) (lay q2 ce))) fr S=some (ex,fr',S')) (hm:n0≤S.length) (hS:SR T w X S) (hf:FrR w X fr a) :
    (Code.seq (.seq (.region id ops false) (.cond x' ca cb)) ce).wp P (Left T n0 w X ex fr' S') a w:=by
 have hN:=hS.n;simp only [evC] at h;split at h
 · cases h
 rename_i pq hpq;obtain ⟨p0,pp⟩:=pq;obtain rfl:=ambOps_some hpq;split at h
 · cases h
 rename_i q0 h0;split at h
 · cases h
 rename_i u hu;obtain ⟨fr1,S1⟩:=q0;obtain ⟨dd,b⟩:=u;obtain ⟨hb1,hb2⟩:=both_some h;simp only at hu hb1 hb2;obtain ⟨o0,o1,gd0,gd1,eops,hgd0,hgd1,rfl,rfl⟩:=two_ops hsl
 have hsz:ops.size=2:=by have:=congrArg List.length eops;simpa using this
 have g0:ops[0]?=some o0:=by rw [←Array.getElem?_toList,eops];rfl
 have g1:ops[1]?=some o1:=by rw [←Array.getElem?_toList,eops];rfl
 have branch : ∀ (pa pb : PC) (a1 b1 : Code) (f : Fr), evC T F k n0 ((lay pa a1).seq (lay pb b1)) f S1 = some (ex, fr', S') → ∀ X1 w1 t1, StB n0 w X w1 X1 → SR T w1 X1 S1 → FrR w1 X1 f t1 →
     a1.wp P (Exit.then (b1.wp P (Left T n0 w X ex fr' S')) (Left T n0 w X ex fr' S')) t1 w1:=by
  intro pa pb a1 b1 f hh X1 w1 t1 s1 hS1 hf1;have hN1:=hS1.n;have hle:=s1.le
  cases k with
  | zero=>simp [evC] at hh
  | succ k =>
   have hk':SC P T F k:=ih k (by omega)
   simp only [evC] at hh;split at hh
   · rename_i fr2 S2 h2
     refine wp_mono (hk' _ _ _ _ _ _ _ _ h2 (by omega) w1 X1 t1 hS1 hf1) ?_
     rintro e a' w' ⟨rfl,X',s,hS',hf'⟩
     have hN':=hS'.n
     exact wp_mono (hk' _ _ _ _ _ _ _ _ hh (by have:=s.le;omega) w' X' a' hS' hf') (fun e a'' w'' hq=>hq.from (s1.trans s))
   · rename_i hne
     refine wp_mono (hk' _ _ _ _ _ _ _ _ hh (by omega) w1 X1 t1 hS1 hf1) ?_
     rintro e a' w' hq
     have hq':=hq.from s1
     obtain ⟨rfl,_⟩:=hq
     cases ex with
     | normal=>exact absurd hh (hne _ _)
     | exit id=>exact hq'
     | ret=>exact hq'
 have second:∀X1 w1 t1,Stn w X w1 X1→SR T w1 X1 S1→FrR w1 X1 fr1 t1→wpOps P ops (Exit.then ((Code.cond x' ca cb).wp P (Exit.then (ce.wp P (Left T n0 w X ex fr' S')) (Left T n0 w X ex fr' S'))) (Exit.then (ce.wp P (Left T n0 w X ex fr' S')) (Left T n0 w X ex fr' S'))) [1] t1 w1:=by
  intro X1 w1 t1 s1 hS1 hf1;unfold ambAt at hu;split at hu
  rotate_left
  · cases hu
  rename_i tt ss yt d1 d2 e1 e2 e3;split at hu
  rotate_left
  · cases hu
  rename_i hdd;split at hu
  rotate_left
  · cases hu
  rename_i ti wy hti hwy
  split at hu<;>cases hu
  rename_i hel;obtain ⟨hel,hlt⟩:=hel;subst hdd;simp only at e1 e2 e3
  obtain ⟨A,n,c,hA,hAn⟩:=ambWay_ok (u:=t1.tmps.getD ss Go.undef) hwy (hf1.val ss (fun he=>by rw [he] at hwy;simp [ambWay] at hwy))
  have hwant:=want_ok (ops:=ops) hf1 (g:=gd1) (by rw [e3];rfl) hgd1
  rw [e3] at hwant;simp only [wpOps,g1]
  rw [if_pos (by rw [←hwant];rfl)]
  left
  unfold Oper.wp
  have hr:(execOp t1.eval o1).run P w1=.ok (.value (.bool A.isNone)) w1:=by
   have:=run_nil (P:=P) ((hT.ty _ _ hti).slice hel) A n c (.tmp ss) (.const (.slice none 0 0)) w1;have ev:t1.eval (.tmp ss)=.slice A n c:=hA;simp only [execOp,e1];simp only [Sem.run_bind] at this ⊢;rw [ev];have ec:t1.eval (.const (.slice none 0 0))=.slice none 0 0:=rfl;rw [ec,this];rfl
  rw [hr,Oper.upon_value];refine (?_:(Code.cond _ ca cb).wp P _ (t1.put o1.dst (.bool A.isNone)) w1);rw [e2];have hf2:=hf1.putAny d2 (.bool A.isNone)
  have hev:(t1.put (some d2) (.bool A.isNone)).eval (.tmp d2)=.bool A.isNone:=by
   have:d2<t1.tmps.size:=by rw [←hf1.len];exact hlt
   simp [Act.eval,Act.put,this]
  cases hb:A.isNone with
  | true =>
   rw [hb] at hev hf2
   have hbt:b=true:=by
    cases b with
    | true=>rfl
    | false=>exact absurd (by simpa using hb) (hAn rfl)
   exact wp_cond_true hev (branch p1 q1 ca ce _ (hb1 hbt) X1 w1 _ (s1.low (by omega)) hS1 hf2)
  | false =>
   rw [hb] at hev hf2
   exact wp_cond_false hev (branch p2 q2 cb ce _ hb2 X1 w1 _ (s1.low (by omega)) hS1 hf2)
 refine wp_seq (wp_seq (wp_region ?_));rw [hsz];show wpOps P ops _ [0,1] a w;simp only [evOps] at h0
 by_cases hkn:known fr gd0=true
 case neg=>rw [if_neg hkn] at h0;cases h0
 rw [if_pos hkn,want_ok hf hkn hgd0] at h0;rw [wpOps];simp only [g0];split at h0
 · rename_i hw;rw [if_pos hw];split at h0
   · cases h0
   · rename_i v1 S1' h1;simp only [Option.some.injEq,Prod.mk.injEq] at h0;obtain ⟨rfl,rfl⟩:=h0
     left
     exact evOp_ok hT (evCall_ok hT hF) hS hf h1 _ _ (fun v' w' X' s1 hS1 hv1=>second X' w' _ s1 hS1 (hf.put s1 o0.dst hv1))
 · rename_i hw;rw [if_neg hw];simp only [Option.some.injEq,Prod.mk.injEq] at h0;obtain ⟨rfl,rfl⟩:=h0;exact second X w _ (Stn.refl w X) hS (hf.put (Stn.refl w X) o0.dst (VR.undef w X))
theorem sc_all (hT:TabOk P T)(hD:DrawSound P T)(hX:FxSound P T){F:Nat→List AV→St→Option (AV×St)}(hF:FOK P T F):∀k,SC P T F k:=by
 intro k
 induction k using Nat.strongRecOn with
 | _ k ih =>
 cases k with
 | zero=>intro n0 p c fr S ex fr' S' h;simp [evC] at h
 | succ k =>
  have hk:SC P T F k:=ih k (Nat.lt_succ_self k);intro n0 p c fr S ex fr' S' h hm w X a hS hf;have hN:=hS.n
  have hrefl:StB n0 w X w X:=StB.refl w X (by omega)
  cases p with
  | pre hh p =>
   simp only [lay,evC] at h;split at h
   · rename_i fr1 S1 ht;obtain ⟨X1,s1,hS1,hf1⟩:=tidy_ok hm hS hf ht;have hN1:=hS1.n
     exact wp_mono (hk _ _ _ _ _ _ _ _ h (by have:=s1.le;omega) w X1 a hS1 hf1) (fun e a' w' hq=>hq.from s1)
   · cases h
  | post p hh =>
   simp only [lay,evC] at h;split at h
   · rename_i fr1 S1 h1;obtain ⟨rfl,ht⟩:=norm_some h;refine wp_mono (hk _ _ _ _ _ _ _ _ h1 hm w X a hS hf) ?_
     rintro e a' w' ⟨rfl,X1,s1,hS1,hf1⟩
     obtain ⟨X2,s2,hS2,hf2⟩:=tidy_ok (by rw [←hS1.n];exact s1.le) hS1 hf1 ht
     exact ⟨rfl,X2,s1.trans s2,hS2,hf2⟩
   · rename_i hne;exact hk _ _ _ _ _ _ _ _ h hm w X a hS hf
  | skip =>
   cases c<;>first | (simp [lay,evC] at h;done) | skip
   simp only [lay,evC,Option.some.injEq,Prod.mk.injEq] at h;obtain ⟨rfl,rfl,rfl⟩:=h;exact wp_skip ⟨rfl,X,hrefl,hS,hf⟩
  | exit i =>
   cases c<;>first | (simp [lay,evC] at h;done) | skip
   simp only [lay,evC,Option.some.injEq,Prod.mk.injEq] at h;obtain ⟨rfl,rfl,rfl⟩:=h;exact wp_exit ⟨rfl,X,hrefl,hS,hf⟩
  | ret =>
   cases c<;>first | (simp [lay,evC] at h;done) | skip
   simp only [lay,evC,Option.some.injEq,Prod.mk.injEq] at h;obtain ⟨rfl,rfl,rfl⟩:=h;exact wp_ret ⟨rfl,X,hrefl,hS,hf⟩
  | bad=>cases c<;>simp [lay,evC] at h
  | reg l =>
   cases c<;>first | (simp [lay,evC] at h;done) | skip
   rename_i id ops d
   cases d with
   | true=>simp [lay,evC] at h
   | false =>
    simp only [lay] at h;split at h
    · simp [evC] at h
    rename_i sl hsl;simp only [evC] at h;obtain ⟨rfl,h1⟩:=norm_some h;refine wp_region ?_
    have:=evOps_ok (ops:=ops) (Q:=Left T n0 w X .normal fr' S') hT (evCall_ok hT hF) ops.toList [] sl fr S X a w rfl hsl h1 hS hf (Stn.refl w X) (fun a' w' X' s hS' hf'=>⟨rfl,X',s.low (by omega),hS',hf'⟩)
    simpa [List.range_eq_range'] using this
  | nest l kk mm =>
   cases c<;>first | (simp [lay,evC] at h;done) | skip
   rename_i id ops d
   cases d with
   | true=>simp [lay,evC] at h
   | false =>
    simp only [lay] at h;split at h
    · simp [evC] at h
    rename_i sl hsl;simp only [evC] at h;obtain ⟨rfl,h1⟩:=norm_some h;refine wp_region ?_
    have:=evNest_ok (ops:=ops) (Q:=Left T n0 w X .normal fr' S') hT (evCall_ok hT hF) hsl h1 hS hf (fun a' w' X' s hS' hf'=>⟨rfl,X',s.low (by omega),hS',hf'⟩)
    simpa [List.range_eq_range'] using this
  | fz l =>
   cases c<;>first | (simp [lay,evC] at h;done) | skip
   rename_i id ops d
   cases d with
   | false=>simp [lay,evC] at h
   | true =>
    simp only [lay] at h;split at h
    · simp [evC] at h
    rename_i sl hsl;split at h
    · rename_i hd;simp only [evC] at h;obtain ⟨rfl,h1⟩:=norm_some h
      refine wp_region_draw (fun t=>?_)
      exact hD F ops sl fr S fr' S' hF hd hsl h1 _ X a _ (sr_drew hS) (hf.stn stn_drew) (fun a' w' X' s hS' hf'=>⟨rfl,X',(stn_drew.trans s).low (by omega),hS',hf'⟩) t
    · simp [evC] at h
  | fx l x =>
   cases c<;>first | (simp [lay,evC] at h;done) | skip
   rename_i id ops d
   cases d with
   | false=>simp [lay,evC] at h
   | true =>
    simp only [lay] at h;split at h
    · simp [evC] at h
    rename_i sl hsl;split at h
    · rename_i hd;simp only [evC] at h;obtain ⟨rfl,h1⟩:=norm_some h
      refine wp_region_draw (fun t=>?_)
      exact hX n0 F ops sl x fr S fr' S' hF hd hsl h1 hm _ X a _ (sr_drew hS) (hf.stn stn_drew) (fun a' w' X' s hS' hf'=>⟨rfl,X',(stn_drew.low (by omega)).trans s,hS',hf'⟩) t
    · simp [evC] at h
  | seq p q =>
   cases c<;>first | (simp [lay,evC] at h;done) | skip
   simp only [lay,evC] at h;split at h
   · rename_i fr1 S1 h1;refine wp_seq (wp_mono (hk _ _ _ _ _ _ _ _ h1 hm w X a hS hf) ?_)
     rintro e a' w' ⟨rfl,X',s,hS',hf'⟩
     have hN':=hS'.n
     exact wp_mono (hk _ _ _ _ _ _ _ _ h (by have:=s.le;omega) w' X' a' hS' hf') (fun e a'' w'' hq=>hq.from s)
   · rename_i hne;refine wp_seq (wp_mono (hk _ _ _ _ _ _ _ _ h hm w X a hS hf) ?_)
     rintro e a' w' hq
     have hq':=hq;obtain ⟨rfl,_⟩:=hq
     cases ex with
     | normal=>exact absurd h (hne _ _)
     | exit id=>exact hq'
     | ret=>exact hq'
  | amb l x p q =>
   cases p<;>first | (simp [lay,evC] at h;done) | skip
   rename_i p1 q1
   cases q<;>first | (simp [lay,evC] at h;done) | skip
   rename_i p2 q2
   cases c<;>first | (simp [lay,evC] at h;done) | skip
   rename_i c12 ce
   cases c12<;>first | (simp [lay,evC] at h;done) | skip
   rename_i cr cc
   cases cr<;>first | (simp [lay,evC] at h;done) | skip
   rename_i id ops d
   cases cc<;>first | (simp [lay,evC] at h;done) | skip
   rename_i x' ca cb
   cases d with
   | true=>simp [lay,evC] at h
   | false =>
    simp only [lay] at h;split at h
    · simp [evC] at h
    rename_i sl hsl
    exact sc_amb hT hF (fun j hj=>ih j hj) hsl h hm hS hf
  | cond _ p q =>
   cases c<;>first | (simp [lay,evC] at h;done) | skip
   simp only [lay,evC] at h;split at h
   · rename_i hx;exact wp_cond_true (evO_ok hf hx).bool_inv (hk _ _ _ _ _ _ _ _ h hm w X a hS hf)
   · rename_i hx;exact wp_cond_false (evO_ok hf hx).bool_inv (hk _ _ _ _ _ _ _ _ h hm w X a hS hf)
   · cases h
  | block _ p =>
   cases c<;>first | (simp [lay,evC] at h;done) | skip
   simp only [lay,evC] at h;split at h
   · rename_i i fr1 S1 h1;have hwp1:=hk _ _ _ _ _ _ _ _ h1 hm w X a hS hf;split at h
     · rename_i hi;cases h;refine wp_block (wp_mono hwp1 ?_)
       rintro e a' w' ⟨rfl,hq⟩
       simp only [exOf,Exit.inBlock,hi,if_true];exact ⟨rfl,hq⟩
     · rename_i hi;cases h;refine wp_block (wp_mono hwp1 ?_)
       rintro e a' w' ⟨rfl,hq⟩
       simp only [exOf,Exit.inBlock,hi,if_false];exact ⟨rfl,hq⟩
   · rename_i hne;refine wp_block (wp_mono (hk _ _ _ _ _ _ _ _ h hm w X a hS hf) ?_)
     rintro e a' w' hq
     have hq':=hq;obtain ⟨rfl,_⟩:=hq
     cases ex with
     | normal=>exact hq'
     | exit id=>exact absurd h (hne _ _ _)
     | ret=>exact hq'
  | loop p =>
   cases c<;>first | (simp [lay,evC] at h;done) | skip
   simp only [lay] at h;intro b kk cs
   obtain ⟨e,a',w',hq,harr⟩:=loop_key (w0:=w) (X0:=X) (k+1) (fun j hj=>ih j hj) fr S h hm X a w hS hf hrefl b kk cs
   exact ⟨e,a',w',hq,.of_steps (.one step_loop) harr⟩
theorem fok_all (hT:TabOk P T)(hD:∀b,DrawSound P (T.at b))(hX:∀b,FxSound P (T.at b)):∀k,FOK P T (evF T k):=by
 intro k
 induction k with
 | zero=>intro f args S0 res S' h;simp [evF] at h
 | succ k ih=>exact fok_of_sc hT (fun b=>sc_all (hT.at b) (hD b) (hX b) ih k)
end Go.Pi

namespace Go.Pi
open Go
variable {P:Program} {T:Tab} {o:Oper} {a:Act} {w w':World} {X X' Xc:Cx} {fr fr':Fr} {S S':St} {v:AV} {C:Nat→List AV→St→Option (AV×St)}
theorem evArgs_congr {l:List Operand}(h:∀x∈l,evO fr x=evO fr' x):evArgs fr l=evArgs fr' l:=by
 induction l with
 | nil=>rfl
 | cons x l ih=>simp only [evArgs,h x (by simp),ih fun y hy=>h y (by simp [hy])]
theorem evParts_congr {l:List (Nat×Operand)}(h:∀x∈l,evO fr x.2=evO fr' x.2):evParts fr l=evParts fr' l:=by
 induction l with
 | nil=>rfl
 | cons x l ih =>
  obtain ⟨i,x⟩:=x
  have:=h (i,x) (by simp)
  simp only at this
  simp only [evParts,this,ih fun y hy=>h y (by simp [hy])]
theorem evOp_congr {op:Op}(h:∀x∈op.operands,evO fr x=evO fr' x):evOp T C op fr S=evOp T C op fr' S:=by
 cases op with
 | build t ps =>
  have:evParts fr ps.toList=evParts fr' ps.toList:=evParts_congr fun x hx=>h x.2 (by simp only [Op.operands,List.mem_toArray,List.mem_map];exact ⟨x,hx,rfl⟩)
  simp only [evOp,this]
 | buildSlice t n ps =>
  have:evParts fr ps.toList=evParts fr' ps.toList:=evParts_congr fun x hx=>h x.2 (by simp only [Op.operands,List.mem_toArray,List.mem_map];exact ⟨x,hx,rfl⟩)
  simp only [evOp,this]
 | makeFunc f first caps =>
  have:evArgs fr caps.toList=evArgs fr' caps.toList:=evArgs_congr fun x hx=>h x (by simp [Op.operands];right;simpa using hx)
  cases f<;>simp only [evOp,this]
 | call c =>
  have:evArgs fr c.args.toList=evArgs fr' c.args.toList:=evArgs_congr fun x hx=>h x (by simp [Op.operands,Call.operands];right;simpa using hx)
  cases hc:c.callee with
  | value x =>
   have h2:evO fr x=evO fr' x:=h x (by simp [Op.operands,Call.operands,hc])
   simp only [evOp,hc,this,h2]
  | builtin b=>simp only [evOp,hc,this]
  | invoke r n=>simp only [evOp,hc]
 | slice t x lo hi mx =>
  have hx:evO fr x=evO fr' x:=h x (by simp [Op.operands])
  have opt:∀y:Option Operand,(∀z,y=some z→evO fr z=evO fr' z)→evOpt fr y=evOpt fr' y:=by
   intro y hy
   cases y with
   | none=>rfl
   | some z=>simp only [evOpt,hy z rfl]
  have hl:evOpt fr lo=evOpt fr' lo:=opt lo fun z hz=>h z (by simp [Op.operands,hz])
  have hh:evOpt fr hi=evOpt fr' hi:=opt hi fun z hz=>h z (by simp [Op.operands,hz])
  cases mx<;>simp only [evOp,hx,hl,hh]
 | pick c x y =>
  have h1:=h c (by simp [Op.operands])
  have h2:=h x (by simp [Op.operands])
  have h3:=h y (by simp [Op.operands])
  simp only [evOp,h1,h2,h3]
 | store t x y =>
  have h1:=h x (by simp [Op.operands])
  have h2:=h y (by simp [Op.operands])
  simp only [evOp,h1,h2]
 | binOp op t x y t' =>
  have h1:=h x (by simp [Op.operands])
  have h2:=h y (by simp [Op.operands])
  simp only [evOp,h1,h2]
 | makeSlice t x y =>
  have h1:=h x (by simp [Op.operands])
  have h2:=h y (by simp [Op.operands])
  simp only [evOp,h1,h2]
 | indexAddr t x y =>
  have h1:=h x (by simp [Op.operands])
  have h2:=h y (by simp [Op.operands])
  simp only [evOp,h1,h2]
 | index t x y =>
  have h1:=h x (by simp [Op.operands])
  have h2:=h y (by simp [Op.operands])
  simp only [evOp,h1,h2]
 | move x=>simp only [evOp,h x (by simp [Op.operands])]
 | assign x=>simp only [evOp,h x (by simp [Op.operands])]
 | alloc t=>simp only [evOp]
 | box t x=>simp only [evOp,h x (by simp [Op.operands])]
 | load t x=>simp only [evOp,h x (by simp [Op.operands])]
 | nilCheck x=>simp only [evOp,h x (by simp [Op.operands])]
 | unOp op t x=>simp only [evOp,h x (by simp [Op.operands])]
 | convert s d x=>simp only [evOp,h x (by simp [Op.operands])]
 | fieldAddr t x f=>simp only [evOp,h x (by simp [Op.operands])]
 | field t x f=>simp only [evOp,h x (by simp [Op.operands])]
 | extract x i=>simp only [evOp,h x (by simp [Op.operands])]
 | _=>simp only [evOp]
theorem calm_same (hC:∀f args S v S',C f args S=some (v,S')→S'=S){op:Op}(hc:calm op=true)(h:evOp T C op fr S=some (v,S')):S'=S:=by
 cases op with
 | call c =>
  simp only [evOp] at h;simp only [calm] at hc;split at h
  · rename_i b hb;split at h
    · rename_i vs hvs;rw [hb] at hc;unfold evBuiltin at h;split at h
      · simp at hc
      · split at h<;>cases h;rfl
      · split at h<;>cases h;rfl
      · split at h<;>cases h;rfl
      · simp at hc
      · simp at hc
      · cases h
    · cases h
  · split at h
    · exact hC _ _ _ _ _ h
    · cases h
  · cases h
 | move x=>simp only [evOp] at h;split at h<;>cases h;rfl
 | assign x=>simp only [evOp] at h;split at h<;>cases h;rfl
 | pick c x y =>
  simp only [evOp] at h;split at h
  · split at h<;>cases h;rfl
  · split at h<;>cases h;rfl
  · cases h
 | build t ps =>
  simp only [evOp] at h;split at h
  · split at h
    · split at h<;>cases h;rfl
    · cases h
  · cases h
 | load t x =>
  simp only [evOp] at h;split at h
  · split at h<;>cases h;rfl
  · cases h
 | nilCheck x=>simp only [evOp] at h;split at h<;>cases h<;>rfl
 | binOp op t x y t' =>
  simp only [evOp] at h;split at h
  · split at h<;>cases h;rfl
  · cases h
 | unOp op t x =>
  simp only [evOp] at h;split at h
  · split at h<;>cases h;rfl
  · cases h
 | convert s d x =>
  simp only [evOp] at h;split at h
  · split at h<;>cases h;rfl
  · cases h
 | makeFunc f first caps =>
  cases f with
  | func f =>
   simp only [evOp] at h;split at h
   · split at h<;>cases h;rfl
   · cases h
  | _=>simp [evOp] at h
 | slice t x lo hi mx =>
  cases mx with
  | some y=>simp [evOp] at h
  | none =>
   simp only [evOp] at h;split at h
   · split at h
     · split at h<;>cases h;rfl
     · cases h
   · split at h<;>cases h;rfl
   · split at h
     · split at h<;>cases h;rfl
     · cases h
   · split at h
     · split at h<;>cases h;rfl
     · cases h
   · cases h
 | fieldAddr t x f =>
  simp only [evOp] at h;split at h
  · split at h
    · split at h<;>cases h;rfl
    · split at h<;>cases h;rfl
    · cases h
  · cases h
 | field t x f =>
  simp only [evOp] at h;split at h
  · split at h
    · split at h
      · split at h
        · cases h;rfl
        · split at h<;>cases h;rfl
      · cases h
    · cases h
  · cases h
 | indexAddr t x ix =>
  simp only [evOp] at h;split at h
  · split at h
    · split at h<;>cases h;rfl
    · cases h
  · split at h<;>cases h;rfl
  · cases h
 | index t x ix =>
  simp only [evOp] at h;split at h
  · split at h
    · split at h<;>cases h;rfl
    · cases h
  · cases h
 | extract x i =>
  simp only [evOp] at h;split at h
  · split at h<;>cases h;rfl
  · cases h
 | _=>simp [calm] at hc
end Go.Pi

namespace Go.Pi
open Go
variable {P:Program} {T:Tab} {o:Oper} {a:Act} {w w':World} {X X' Xc:Cx} {fr fr':Fr} {S S':St} {v:AV} {C:Nat→List AV→St→Option (AV×St)}
def foldPut:List PO→List AV→Fr→Fr
 | o::os,v::vs,fr=>foldPut os vs (put fr o.dst v)
 | _,_,fr=>fr
theorem foldPut_snoc:∀ {os:List PO} {vs:List AV} {fr:Fr} {o:PO} {v:AV},os.length=vs.length→foldPut (os++[o]) (vs++[v]) fr=put (foldPut os vs fr) o.dst v:=by
 intro os
 induction os with
 | nil=>intro vs fr o v h;cases vs with
  | nil=>rfl
  | cons=>simp at h
 | cons o' os ih=>intro vs fr o v h;cases vs with
  | nil=>simp at h
  | cons v' vs=>simp only [List.cons_append,foldPut];exact ih (by simpa using h)
theorem trace_of (hC:∀f args S v S',C f args S=some (v,S')→S'=S):∀(sl:List PO) (fr:Fr) (S:St),(∀o∈sl,calm o.op=true)→evOps T C sl fr S=some (fr',S') →
    S'=S∧∃vs:List AV,vs.length=sl.length∧fr'=foldPut sl vs fr ∧
     ∀k (hk:k<sl.length),known (foldPut (sl.take k) (vs.take k) fr) sl[k].guard=true∧if want (foldPut (sl.take k) (vs.take k) fr) sl[k].guard=true then evOp T C sl[k].op (foldPut (sl.take k) (vs.take k) fr) S=some (vs.getD k .undef,S) else vs.getD k .undef=.undef:=by
 intro sl
 induction sl with
 | nil =>
  intro fr S _ h;simp only [evOps,Option.some.injEq,Prod.mk.injEq] at h;obtain ⟨rfl,rfl⟩:=h
  exact ⟨rfl,[],rfl,rfl,fun k hk=>absurd hk (Nat.not_lt_zero k)⟩
 | cons o sl ih =>
  intro fr S hc h;simp only [evOps] at h
  have hc':∀o∈sl,calm o.op=true:=fun x hx=>hc x (by simp [hx])
  have step : ∀ v, evOps T C sl (put fr o.dst v) S = some (fr', S') → (known fr o.guard = true ∧ if want fr o.guard = true then evOp T C o.op fr S = some (v, S) else v = .undef) →
      S'=S∧∃vs:List AV,vs.length=(o::sl).length∧fr'=foldPut (o::sl) vs fr ∧
   ∀k (hk:k<(o::sl).length),known (foldPut ((o::sl).take k) (vs.take k) fr) (o::sl)[k].guard=true∧if want (foldPut ((o::sl).take k) (vs.take k) fr) (o::sl)[k].guard=true then evOp T C (o::sl)[k].op (foldPut ((o::sl).take k) (vs.take k) fr) S=some (vs.getD k .undef,S) else vs.getD k .undef=.undef:=by
   intro v h hv;obtain ⟨rfl,vs,hl,hfr,hall⟩:=ih _ _ hc' h
   refine ⟨rfl,v::vs,by simp [hl],by simpa [foldPut] using hfr,fun k hk=>?_⟩
   cases k with
   | zero=>simpa [foldPut] using hv
   | succ k=>simpa [foldPut] using hall k (by simpa using hk)
  by_cases hkn:known fr o.guard=true
  case neg=>rw [if_neg hkn] at h;cases h
  rw [if_pos hkn] at h;split at h
  · rename_i hw;split at h
    · cases h
    · rename_i v S1 h1
      have:=calm_same hC (hc o (by simp)) h1
      subst this
      exact step v h ⟨hkn,by rw [if_pos hw];exact h1⟩
  · rename_i hw
    exact step .undef h ⟨hkn,by rw [if_neg hw]⟩
structure Ag (sl:List PO) (vs:List AV) (fr:Fr) (D:Nat→Prop) (g:Fr):Prop where
 len:g.length=fr.length
 wr:∀t,t<fr.length→∀j (hj:j<sl.length),D j→sl[j].dst=some t→g.getD t .undef=vs.getD j .undef
 un:∀t,t<fr.length→(∀j (hj:j<sl.length),D j→sl[j].dst≠some t)→g.getD t .undef=fr.getD t .undef
theorem put_getD {g:Fr}{d:Option Nat}{v:AV}{t:Nat}(ht:t<g.length):(put g d v).getD t .undef=if d=some t then v else g.getD t .undef:=by
 cases d with
 | none=>simp [put]
 | some d =>
  simp only [put,List.getD_eq_getElem?_getD,List.getElem?_set]
  by_cases h:d=t
  · subst h;simp [ht]
  · simp [h]
theorem Ag.put {sl:List PO}{vs:List AV}{D:Nat→Prop}{g:Fr}(h:Ag sl vs fr D g){k:Nat}(hk:k<sl.length)(hnd:¬D k)(hdist:∀j (hj:j<sl.length),j≠k→∀t,sl[j].dst=some t→sl[k].dst≠some t) :
    Ag sl vs fr (fun j=>D j∨j=k) (put g sl[k].dst (vs.getD k .undef)):=by
 refine ⟨by cases sl[k].dst<;>simp [Pi.put,h.len],fun t ht j hj hD hd=>?_,fun t ht hn=>?_⟩
 · rw [put_getD (by rw [h.len];exact ht)]
   by_cases hjk:j=k
   · subst hjk;rw [if_pos hd]
   · rw [if_neg (hdist j hj hjk t hd)];exact h.wr t ht j hj (hD.resolve_right hjk) hd
 · rw [put_getD (by rw [h.len];exact ht),if_neg (hn k hk (.inr rfl))]
   exact h.un t ht (fun j hj hD=>hn j hj (.inl hD))
theorem ag_listed {sl:List PO}{vs:List AV}(hl:vs.length=sl.length)(hdist:∀k (hk:k<sl.length) j (hj:j<sl.length),j≠k→∀t,sl[j].dst=some t→sl[k].dst≠some t) :
    ∀k,k≤sl.length→Ag sl vs fr (·<k) (foldPut (sl.take k) (vs.take k) fr):=by
 intro k
 induction k with
 | zero=>intro _;exact ⟨rfl,fun t ht j hj hD=>absurd hD (Nat.not_lt_zero j),fun t ht _=>rfl⟩
 | succ k ih =>
  intro hk
  have hk':k<sl.length:=by omega
  have h:=(ih (by omega)).put hk' (Nat.lt_irrefl k) (hdist k hk')
  have e:foldPut (sl.take (k+1)) (vs.take (k+1)) fr=Pi.put (foldPut (sl.take k) (vs.take k) fr) sl[k].dst (vs.getD k .undef):=by
   have e1:sl.take (k+1)=sl.take k++[sl[k]]:=by rw [List.take_succ_eq_append_getElem hk']
   have e2:vs.take (k+1)=vs.take k++[vs.getD k .undef]:=by
    rw [List.take_succ_eq_append_getElem (by omega)]
    simp [List.getD_eq_getElem?_getD,(by omega:k<vs.length)]
   rw [e1,e2,foldPut_snoc (by simp;omega)]
  rw [e]
  refine ⟨h.len,fun t ht j hj hD=>h.wr t ht j hj (by omega),fun t ht hn=>h.un t ht (fun j hj hD=>hn j hj (by omega))⟩
def AhOk (ops:List Oper)(A:List (List Nat)):Prop :=
 ∀i j,j∈A.getD i []→∃o,ops[i]?=some o∧∃e∈o.after.toList,Region.binds .any e=true∧(j=e.on∨(e.on<i∧j∈A.getD e.on []))
theorem aheadsGo_ok (ops:List Oper):∀(l pre:List Oper) (acc:List (List Nat)),ops=pre++l→acc.length=pre.length→AhOk ops acc→AhOk ops (aheadsGo acc l):=by
 intro l
 induction l with
 | nil=>intro pre acc _ _ h;exact h
 | cons o l ih =>
  intro pre acc he hl h;simp only [aheadsGo]
  refine ih (pre++[o]) _ (by rw [he];simp) (by simp [hl]) ?_
  have getl:∀n i (q:List Nat),i<acc.length→(acc++[q]).getD i n=acc.getD i n:=by
   intro n i q hi;simp [List.getD_eq_getElem?_getD,List.getElem?_append_left hi]
  intro i j hj
  rcases Nat.lt_trichotomy i acc.length with hi|hi|hi
  · rw [getl _ _ _ hi] at hj;obtain ⟨o',ho',e,he',hb,hc⟩:=h i j hj;refine ⟨o',ho',e,he',hb,?_⟩
    rcases hc with hc|⟨h1,h2⟩
    · exact .inl hc
    · exact .inr ⟨h1,by rw [getl _ _ _ (by omega)];exact h2⟩
  · subst hi
    have:(acc++[o.after.toList.flatMap fun e=>if Region.binds .any e then e.on::acc.getD e.on [] else []]).getD acc.length []=o.after.toList.flatMap fun e=>if Region.binds .any e then e.on::acc.getD e.on [] else []:=by
     simp [List.getD_eq_getElem?_getD]
    rw [this] at hj;obtain ⟨e,he',hj⟩:=List.mem_flatMap.1 hj
    refine ⟨o,by rw [he,hl];simp,e,he',?_⟩
    split at hj
    · rename_i hb;refine ⟨hb,?_⟩
      rcases List.mem_cons.1 hj with hj|hj
      · exact .inl hj
      · have hlt : e.on < acc.length := by
          apply Classical.byContradiction
          intro hn;simp [List.getD_eq_getElem?_getD,List.getElem?_eq_none (Nat.le_of_not_lt hn)] at hj
        exact .inr ⟨hlt,by rw [getl _ _ _ hlt];exact hj⟩
    · cases hj
  · rw [List.getD_eq_getElem?_getD,List.getElem?_eq_none (by simp;omega)] at hj
    simp at hj
theorem aheads_ok (ops:List Oper):AhOk ops (aheads ops) :=
 aheadsGo_ok ops ops [] [] rfl rfl (fun i j h=>by simp at h)
theorem aheads_done {ops:List Oper}{D:Nat→Prop}(hD:∀i o,D i→ops[i]?=some o→∀e∈o.after.toList,Region.binds .any e=true→D e.on):∀i,D i→∀j∈(aheads ops).getD i [],D j:=by
 intro i
 induction i using Nat.strongRecOn with
 | _ i ih =>
  intro hi j hj;obtain ⟨o,ho,e,he,hb,hc⟩:=aheads_ok ops i j hj;have hon:=hD i o hi ho e he hb
  rcases hc with rfl|⟨h1,h2⟩
  · exact hon
  · exact ih e.on h1 hon j h2
theorem aheads_lt {ops:List Oper}(hlt:∀i o,ops[i]?=some o→∀e∈o.after.toList,Region.binds .any e=true→e.on<i):∀i,∀j∈(aheads ops).getD i [],j<i:=by
 intro i
 induction i using Nat.strongRecOn with
 | _ i ih =>
  intro j hj;obtain ⟨o,ho,e,he,hb,hc⟩:=aheads_ok ops i j hj;have:=hlt i o ho e he hb
  rcases hc with rfl|⟨h1,h2⟩
  · exact this
  · have:=ih e.on h1 j h2;omega
theorem slimOps_get:∀ {ops l:List Oper} {sl:List PO},slimOps ops l=some sl→sl.length=l.length∧∀k (hk:k<l.length) (hk':k<sl.length),sl[k].dst=l[k].dst∧sl[k].op=l[k].op∧slimGuard ops l[k]=some sl[k].guard:=by
 intro ops l
 induction l with
 | nil=>intro sl h;simp only [slimOps,Option.some.injEq] at h;subst h;exact ⟨rfl,fun k hk=>absurd hk (Nat.not_lt_zero k)⟩
 | cons o l ih =>
  intro sl h;simp only [slimOps] at h;split at h
  · cases h
  rename_i g hg
  split at h<;>cases h
  rename_i sl hsl;obtain ⟨h1,h2⟩:=ih hsl
  refine ⟨by simp [h1],fun k hk hk'=>?_⟩
  cases k with
  | zero=>exact ⟨rfl,rfl,hg⟩
  | succ k=>simpa using h2 k (by simpa using hk) (by simpa using hk')
end Go.Pi

namespace Go.Pi
open Go
variable {P:Program} {T:Tab} {o:Oper} {a:Act} {w w':World} {X X' Xc:Cx} {fr fr':Fr} {S S':St} {v:AV} {C:Nat→List AV→St→Option (AV×St)}
structure DrawFacts (ops:List Oper):Prop where
 calm:∀(i:Nat) (o:Oper),ops[i]?=some o→calm o.op=true
 lt:∀(i:Nat) (o:Oper),ops[i]?=some o→∀e∈o.after.toList,Region.binds .any e=true→e.on<i
 acy:∀md,acyc md ops=true
 dist:∀(i j:Nat) (oi oj:Oper),ops[i]?=some oi→ops[j]?=some oj→i≠j→∀d,oj.dst=some d→oi.dst≠some d
 ord:∀(i j:Nat) (oi oj:Oper),ops[i]?=some oi→ops[j]?=some oj→i≠j→∀d,oj.dst=some d→d∈tmpsOf ops oi→j∈(aheads ops).getD i []∨i∈(aheads ops).getD j []
theorem zipIdx_all {α:Type}{l:List α}{p:α×Nat→Bool}(h:l.zipIdx.all p=true){i:Nat}{x:α}(hi:l[i]?=some x):p (x,i)=true:=by
 have hm:(x,i)∈l.zipIdx:=by
  rw [List.mem_zipIdx_iff_getElem?];simpa using hi
 exact List.all_eq_true.1 h _ hm
theorem forward_lt {md:Region.Mode}{ops:List Oper}(h:forwardOk md ops=true){i:Nat}{o:Oper}(hi:ops[i]?=some o){e:Edge}(he:e∈o.after.toList)(hb:Region.binds md e=true):e.on<i:=by
 have k:=zipIdx_all h hi;simp only at k;have k2:=List.all_eq_true.1 k e he;simpa [hb] using k2
theorem all_done {md:Region.Mode}{ops:List Oper}{D:Nat→Prop}(h:acyc md ops=true)(hD:∀i o,ops[i]?=some o→(∀e∈o.after.toList,Region.binds md e=true→D e.on)→D i):∀i,i<ops.length→D i:=by
 simp only [acyc,Bool.or_eq_true] at h
 rcases h with h|h
 · intro i
   induction i using Nat.strongRecOn with
   | _ i ih =>
    intro hi
    exact hD i _ (List.getElem?_eq_getElem hi) fun e he hb=>by
     have hlt:=forward_lt h (List.getElem?_eq_getElem hi) he hb
     exact ih e.on hlt (by omega)
 · have key : ∀ k i, (marks md ops k).getD i false = true → D i := by
     intro k
     induction k with
     | zero=>intro i hi;simp [marks] at hi
     | succ k ih =>
      intro i hi;simp only [marks,markRound,List.getD_eq_getElem?_getD,List.getElem?_map] at hi
      cases ho:ops[i]? with
      | none=>rw [ho] at hi;simp at hi
      | some o =>
       rw [ho] at hi;simp only [Option.map_some,Option.getD_some] at hi
       refine hD i o ho fun e he hb=>?_
       have:=List.all_eq_true.1 hi e he;simp only [hb,Bool.not_true,Bool.false_or] at this
       exact ih e.on (by rw [List.getD_eq_getElem?_getD];exact this)
   intro i hi
   have hl:(marks md ops ops.length).length=ops.length:=by
    cases hn:ops.length with
    | zero=>omega
    | succ k=>simp [marks,markRound,hn]
   refine key ops.length i ?_
   rw [List.getD_eq_getElem?_getD,List.getElem?_eq_getElem (by omega)]
   exact List.all_eq_true.1 h _ (List.getElem_mem _)
theorem drawFacts {ops:List Oper}(h:drawOk ops=true):DrawFacts ops:=by
 simp only [drawOk,clashOk,Bool.and_eq_true] at h;obtain ⟨⟨h1,h2,h4,h5⟩,h3⟩:=h
 have key:∀(i j:Nat) (oi oj:Oper),ops[i]?=some oi→ops[j]?=some oj→i≠j→∀d,oj.dst=some d→oi.dst≠some d∧(d∈tmpsOf ops oi→j∈(aheads ops).getD i []∨i∈(aheads ops).getD j []):=by
  intro i j oi oj hi hj hij d hd;have k:=zipIdx_all h3 hj;simp only [hd] at k;have k2:=zipIdx_all k hi;simp only [Bool.or_eq_true,Bool.and_eq_true,beq_iff_eq,Bool.not_eq_true',List.contains_eq_mem,decide_eq_true_eq,decide_eq_false_iff_not] at k2
  rcases k2 with k2|⟨k3,k4⟩
  · exact absurd k2 hij
  · refine ⟨fun e=>by rw [e] at k3;simp at k3,fun hm=>?_⟩
    rcases k4 with (k4|k4) | k4
    · exact absurd hm k4
    · exact .inl k4
    · exact .inr k4
 refine ⟨fun i o hi=>List.all_eq_true.1 h1 o (List.mem_of_getElem? hi),fun i o hi e he hb=>forward_lt h2 hi he hb,fun md=>?_,fun i j oi oj hi hj hij d hd=>(key i j oi oj hi hj hij d hd).1,fun i j oi oj hi hj hij d hd=>(key i j oi oj hi hj hij d hd).2⟩
 cases md with
 | text=>exact h4
 | gc=>exact h5
 | any=>simp [acyc,h2]
theorem mem_tmpsOf_operand {ops:List Oper}{o:Oper}{t:Nat}(h:Operand.tmp t∈o.op.operands):t∈tmpsOf ops o:=by
 unfold tmpsOf
 exact List.mem_append_left _ (List.mem_filterMap.2 ⟨.tmp t,by simpa using h,rfl⟩)
theorem mem_tmpsOf_guard {ops:List Oper}{o:Oper}{d:Nat}{w:Bool}(h:slimGuard ops o=some (some (d,w))):d∈tmpsOf ops o:=by
 unfold slimGuard at h;unfold tmpsOf;split at h
 · cases h
 · rename_i j b he;split at h
   · cases h
   · rename_i oj hoj
     split at h<;>cases h
     rename_i hd;refine List.mem_append_right _ ?_;simp [hoj,hd]
theorem same_at {ops:List Oper}{o:Oper}{g:Option (Nat×Bool)}(hg:slimGuard ops o=some g){f1 f2:Fr}(hl:f1.length=f2.length)(h:∀t∈tmpsOf ops o,t<f1.length→f1.getD t .undef=f2.getD t .undef) :
    want f1 g=want f2 g∧evOp T C o.op f1 S=evOp T C o.op f2 S∧known f1 g=known f2 g:=by
 have hgd:∀d b,g=some (d,b)→f1[d]?=f2[d]?:=by
  rintro d b rfl
  have hd:=mem_tmpsOf_guard hg
  by_cases hlt:d<f1.length
  · have:=h d hd hlt;simp only [List.getD_eq_getElem?_getD] at this
    rw [List.getElem?_eq_getElem hlt,List.getElem?_eq_getElem (by omega)] at this ⊢
    simp only [Option.getD_some] at this;rw [this]
  · rw [List.getElem?_eq_none (by omega),List.getElem?_eq_none (by omega)]
 refine ⟨?_,evOp_congr fun x hx=>?_,?_⟩
 · cases g with
   | none=>rfl
   | some p=>obtain ⟨d,b⟩:=p;simp only [want,hgd d b rfl]
 · cases x with
   | tmp t =>
    have e:f1.getD t .undef=f2.getD t .undef:=by
     by_cases hlt:t<f1.length
     · exact h t (mem_tmpsOf_operand hx) hlt
     · rw [List.getD_eq_getElem?_getD,List.getD_eq_getElem?_getD,List.getElem?_eq_none (Nat.le_of_not_lt hlt),List.getElem?_eq_none (by rw [←hl];exact Nat.le_of_not_lt hlt)]
    simp only [evO,e]
   | _=>rfl
 · cases g with
   | none=>rfl
   | some p=>obtain ⟨d,b⟩:=p;simp only [known,hgd d b rfl]
def Done (listed:Array Bool)(i:Nat):Prop:=listed.getD i false=true
theorem count_set {l:List Bool}{i:Nat}(hi:l[i]?=some false):(l.set i true).count false+1=l.count false:=by
 induction l generalizing i with
 | nil=>simp at hi
 | cons b l ih =>
  cases i with
  | zero=>simp at hi;subst hi;simp
  | succ i =>
   have:=ih (by simpa using hi)
   simp only [List.set_cons_succ,List.count_cons];omega
theorem done_set {listed:Array Bool}{i:Nat}(hi:i<listed.size):Done (listed.setIfInBounds i true)=fun j=>Done listed j∨j=i:=by
 funext j
 apply propext
 unfold Done
 by_cases h:i=j
 · subst h;simp [Array.getD_eq_getD_getElem?,hi]
 · rw [getD_set_ne false h]
   constructor
   · exact .inl
   · rintro (h' | h')
     · exact h'
     · exact absurd h'.symm h
theorem ag_full {sl:List PO}{vs:List AV}{D D':Nat→Prop}{g g':Fr}(h:Ag sl vs fr D g)(h':Ag sl vs fr D' g')(hD:∀i,i<sl.length→D i)(hD':∀i,i<sl.length→D' i):g=g':=by
 refine List.ext_getElem (by rw [h.len,h'.len]) (fun t h1 h2=>?_)
 have ht:t<fr.length:=by rw [←h.len];exact h1
 have e:g.getD t .undef=g'.getD t .undef:=by
  by_cases hw:∃j,∃hj:j<sl.length,sl[j].dst=some t
  · obtain ⟨j,hj,hd⟩:=hw;rw [h.wr t ht j hj (hD j hj) hd,h'.wr t ht j hj (hD' j hj) hd]
  · rw [h.un t ht (fun j hj _ hd=>hw ⟨j,hj,hd⟩),h'.un t ht (fun j hj _ hd=>hw ⟨j,hj,hd⟩)]
 simpa [List.getD_eq_getElem?_getD,h1,h2] using e
theorem draw_main (hT:TabOk P T)(hC:COK P T C){ops:Array Oper}{sl:List PO}(df:DrawFacts ops.toList)(hsl:slimOps ops.toList ops.toList=some sl){vs:List AV}(hvl:vs.length=sl.length)
    (hval:∀k (hk:k<sl.length),known (foldPut (sl.take k) (vs.take k) fr) sl[k].guard=true∧if want (foldPut (sl.take k) (vs.take k) fr) sl[k].guard=true then evOp T C sl[k].op (foldPut (sl.take k) (vs.take k) fr) S=some (vs.getD k .undef,S) else vs.getD k .undef=.undef)
    {Q:Exit→Act→World→Prop} {w0:World} {X0:Cx} (hQ:∀a' w' X',Stn w0 X0 w' X'→SR T w' X' S→FrR w' X' (foldPut sl vs fr) a'→Q .normal a' w')
    {md:Region.Mode} (hmd:∀e,Region.binds .any e=true→Region.binds md e=true):∀(fuel:Nat) (listed:Array Bool) (a:Act) (w:World) (X:Cx) (g:Fr),listed.size=ops.size→listed.toList.count false≤fuel →
     (∀(i:Nat) (o:Oper),Done listed i→ops.toList[i]?=some o→∀e∈o.after.toList,Region.binds .any e=true→Done listed e.on)→Ag sl vs fr (Done listed) g→SR T w X S→FrR w X g a→Stn w0 X0 w X→wpAny P md ops Q fuel listed a w:=by
 obtain ⟨hll,hget⟩:=slimOps_get hsl
 have hsz:ops.toList.length=ops.size:=by simp
 have hdist:∀k (hk:k<sl.length) j (hj:j<sl.length),j≠k→∀t,sl[j].dst=some t→sl[k].dst≠some t:=by
  intro k hk j hj hjk t ht
  rw [(hget j (by omega) hj).1] at ht
  rw [(hget k (by omega) hk).1]
  exact df.dist k j _ _ (List.getElem?_eq_getElem (by omega)) (List.getElem?_eq_getElem (by omega)) (Ne.symm hjk) t ht
 have hend:∀(listed:Array Bool) (a:Act) (w:World) (X:Cx) (g:Fr),(∀i,i<ops.size→Done listed i)→Ag sl vs fr (Done listed) g→SR T w X S→FrR w X g a→Stn w0 X0 w X→Q .normal a w:=by
  intro listed a w X g hall hag hS hf s;have hL:=ag_listed (fr:=fr) hvl hdist sl.length (Nat.le_refl _);rw [List.take_length,←hvl,List.take_length] at hL
  have:=ag_full hag hL (fun i hi=>hall i (by omega)) (fun i hi=>by omega)
  subst this;exact hQ a w X s hS hf
 have hfull:∀(listed:Array Bool),listed.size=ops.size→Region.ready md ops listed=[]→∀i,i<ops.size→Done listed i:=by
  intro listed hls hr i hi
  refine all_done (df.acy md) (fun i o ho hed=>?_) i (by omega)
  apply Classical.byContradiction
  intro hn
  have hio:ops[i]?=some o:=by rw [←Array.getElem?_toList];exact ho
  have hi':i<listed.size:=by rw [hls];exact (Array.getElem?_eq_some_iff.1 hio).1
  have hmem:i∈Region.ready md ops listed:=by
   rw [mem_ready]
   refine ⟨?_,o,hio,fun e he hb=>hed e (by simpa using he) hb⟩
   unfold Done at hn;simp only [Array.getD_eq_getD_getElem?,Array.getElem?_eq_getElem hi',Option.getD_some] at hn ⊢;simpa using hn
  rw [hr] at hmem;cases hmem
 intro fuel
 induction fuel with
 | zero =>
  intro listed a w X g hls hcnt hdown hag hS hf s
  have hall:∀i,i<ops.size→Done listed i:=by
   intro i hi
   have hi':i<listed.size:=by omega
   unfold Done
   have hne:listed[i]≠false:=by
    intro he
    have:false∈listed.toList:=by rw [←he];simp
    have:=List.count_pos_iff.2 this;omega
   simp only [Array.getD_eq_getD_getElem?,Array.getElem?_eq_getElem hi',Option.getD_some];simpa using hne
  refine ⟨?_,hend listed a w X g hall hag hS hf s⟩
  apply List.eq_nil_iff_forall_not_mem.2
  intro i hi;rw [mem_ready] at hi;obtain ⟨h1,o,ho,_⟩:=hi;have hlt:i<ops.size:=(Array.getElem?_eq_some_iff.1 ho).1;have:=hall i hlt;unfold Done at this
  have hi':i<listed.size:=by omega
  simp only [Array.getD_eq_getD_getElem?,Array.getElem?_eq_getElem hi',Option.getD_some] at this h1;rw [this] at h1;cases h1
 | succ fuel ih =>
  intro listed a w X g hls hcnt hdown hag hS hf s
  refine ⟨fun hr=>hend listed a w X g (hfull listed hls hr) hag hS hf s,fun i hi=>?_⟩
  rw [mem_ready] at hi;obtain ⟨hnl,o,ho,hedge⟩:=hi;have hin:i<ops.size:=(Array.getElem?_eq_some_iff.1 ho).1
  have hil:i<listed.size:=by omega
  have his:i<sl.length:=by omega
  have hot:ops.toList[i]?=some o:=by rw [Array.getElem?_toList];exact ho
  have hotg:ops.toList[i]'(by omega)=o:=by
   have:=List.getElem?_eq_some_iff.1 hot;exact this.2
  obtain ⟨hd1,hd2,hd3⟩:=hget i (by omega) his
  rw [hotg] at hd1 hd2 hd3
  have hnd:¬Done listed i:=by
   unfold Done;simp only [Array.getD_eq_getD_getElem?,Array.getElem?_eq_getElem hil,Option.getD_some] at hnl ⊢;simpa using hnl
  have hah:∀j∈(aheads ops.toList).getD i [],Done listed j:=by
   intro j hj;obtain ⟨o',ho',e,he,hb,hc⟩:=aheads_ok ops.toList i j hj;rw [hot] at ho'
   injection ho' with ho'
   subst ho'
   have hon:Done listed e.on:=hedge e (by simpa using he) (hmd e hb)
   rcases hc with rfl|⟨_,h2⟩
   · exact hon
   · exact aheads_done hdown e.on hon j h2
  have hahlt:=aheads_lt (ops:=ops.toList) (fun i o hi e he hb=>df.lt i o hi e he hb)
  have hL:=ag_listed (fr:=fr) hvl hdist i (by omega)
  have hsame:=same_at (T:=T) (C:=C) (S:=S) hd3 (f1:=g) (f2:=foldPut (sl.take i) (vs.take i) fr) (by rw [hag.len,hL.len]) (fun t ht htl=>by
   rw [hag.len] at htl
   by_cases hw:∃j,∃hj:j<sl.length,j≠i∧sl[j].dst=some t
   · obtain ⟨j,hj,hji,hdj⟩:=hw
     have hjo:ops.toList[j]?=some (ops.toList[j]'(by omega)):=List.getElem?_eq_getElem (by omega)
     have hdj':=hdj
     rw [(hget j (by omega) hj).1] at hdj'
     rcases df.ord i j o _ hot hjo (Ne.symm hji) t hdj' ht with h1|h1
     · rw [hag.wr t htl j hj (hah j h1) hdj,hL.wr t htl j hj (hahlt i j h1) hdj]
     · have hij:=hahlt j i h1
       have hndj:¬Done listed j:=fun hdn=>hnd (aheads_done hdown j hdn i h1)
       rw [hag.un t htl (fun j' hj' hD hd=>?_),hL.un t htl (fun j' hj' hD hd=>?_)]
       · by_cases hjj:j'=j
         · omega
         · exact hdist j hj j' hj' hjj t hd hdj
       · by_cases hjj:j'=j
         · subst hjj;exact hndj hD
         · exact hdist j hj j' hj' hjj t hd hdj
   · rw [hag.un t htl (fun j' hj' hD hd=>hw ⟨j',hj',fun e=>hnd (e▸hD),hd⟩),hL.un t htl (fun j' hj' hD hd=>hw ⟨j',hj',by omega,hd⟩)])
  obtain ⟨hkn,hvi⟩:=hval i his;rw [←hsame.2.2] at hkn;rw [hd2,←hsame.1,←hsame.2.1] at hvi
  have hls':(listed.setIfInBounds i true).size=ops.size:=by simpa using hls
  have hcnt':(listed.setIfInBounds i true).toList.count false≤fuel:=by
   have:listed.toList[i]?=some false:=by
    rw [Array.getElem?_toList,Array.getElem?_eq_getElem hil];simp only [Array.getD_eq_getD_getElem?,Array.getElem?_eq_getElem hil,Option.getD_some] at hnl;rw [hnl]
   have:=count_set this;rw [Array.toList_setIfInBounds];omega
  have hdown':∀(j:Nat) (o':Oper),Done (listed.setIfInBounds i true) j→ops.toList[j]?=some o'→∀e∈o'.after.toList,Region.binds .any e=true→Done (listed.setIfInBounds i true) e.on:=by
   rw [done_set hil];intro j o' hj ho' e he hb
   rcases hj with hj|rfl
   · exact .inl (hdown j o' hj ho' e he hb)
   · rw [hot] at ho'
     injection ho' with ho'
     subst ho'
     exact .inl (hedge e (by simpa using he) (hmd e hb))
  have hag':Ag sl vs fr (Done (listed.setIfInBounds i true)) (put g o.dst (vs.getD i .undef)):=by
   rw [done_set hil,←hd1];exact hag.put his hnd (hdist i his)
  have hw:=want_ok hf hkn hd3;unfold wpOp;rw [ho];simp only;rw [←hw];split at hvi
  · rename_i hwt;rw [if_pos hwt]
    left
    refine evOp_ok hT hC hS hf hvi _ _ (fun v' w' X' s1 hS1 hv1=>?_)
    exact ih _ _ _ X' _ hls' hcnt' hdown' hag' hS1 (hf.put s1 o.dst hv1) (s.trans s1)
  · rename_i hwt;rw [if_neg hwt];rw [hvi] at hag';exact ih _ _ _ X _ hls' hcnt' hdown' hag' hS (hf.put (Stn.refl w X) o.dst (VR.undef w X)) s
theorem binds_any {md:Region.Mode}{e:Edge}(h:Region.binds .any e=true):Region.binds md e=true:=by
 unfold Region.binds at h ⊢
 cases hg:e.ground<;>rw [hg] at h<;>first | rfl | (cases h)
theorem draw_sound (hT:TabOk P T):DrawSound P T:=by
 intro F ops sl fr S fr' S' hF hd hsl hev w0 X0 a0 Q hS0 hf0 hQ t;have df:=drawFacts hd;obtain ⟨hll,hget⟩:=slimOps_get hsl;have hC:=evCallFz_ok hF
 obtain ⟨rfl,vs,hvl,rfl,hval⟩:=trace_of (C:=evCallFz T F) (fun f args S v S' h=>evCallFz_same h) sl fr S (fun o ho=>by
  obtain ⟨k,hk,rfl⟩:=List.getElem_of_mem ho
  rw [(hget k (by omega) hk).2.1]
  exact df.calm k _ (List.getElem?_eq_getElem (by omega))) hev
 have go:∀md t,wpOps P ops Q (Region.linearise md ops t) a0 w0:=by
  intro md t
  have:=draw_main hT hC df hsl hvl hval (w0:=w0) (X0:=X0) hQ (md:=md) (fun e=>binds_any) ops.size (Array.replicate ops.size false) a0 w0 X0 fr (by simp) (by
   simp) (fun i o hi=>by
   unfold Done at hi;simp only [Array.getD_eq_getD_getElem?,Array.getElem?_replicate] at hi
   split at hi<;>simp at hi) ⟨rfl,fun t ht j hj hD=>by
    unfold Done at hD;simp only [Array.getD_eq_getD_getElem?,Array.getElem?_replicate] at hD
    split at hD<;>simp at hD,fun t ht _=>rfl⟩ hS0 hf0 (Stn.refl w0 X0)
  exact wpAny_sound ops.size t _ a0 w0 this
 unfold Region.schedule;split
 · exact go _ _
 · exact go _ _
end Go.Pi

namespace Go.Pi
open Go
variable {P:Program} {T:Tab} {o:Oper} {a:Act} {w w' w1:World} {X X' X1:Cx} {fr fr':Fr} {S S' S1:St} {v:AV} {C:Nat→List AV→St→Option (AV×St)} {n r:Nat}
def Cx.place (X:Cx)(n r:Nat):Cx where
 N:=n
 root b:=match X.root b with
  | some id=>if id=n then some r else if id=r then none else some id
  | none=>none
 par:=X.par
 φ j:=if j=r then X.φ n else X.φ j
 pro:=X.pro
 soft:=X.soft
structure StR (r:Nat) (w:World) (X:Cx) (w':World) (X':Cx):Prop extends Stp w X w' X' where
 N:X'.N=X.N
 φ:∀id,id<X.N→id≠r→X'.φ id=X.φ id
theorem StR.low {n0:Nat}(s:StR r w X w' X')(h:n0≤X.N)(hr:n0≤r):StB n0 w X w' X' :=
 ⟨s.toStp,by rw [s.N];exact h,fun id hid=>s.φ id (by omega) (by omega)⟩
theorem VR.strep (s:StR r w X w' X')(hr:X.φ r=none){av:AV}{u:Value}(h:VR w X av u):VR w' X' av u:=by
 induction h with
 | int k n=>exact .int k n
 | bool b=>exact .bool b
 | str s=>exact .str s
 | nil=>exact .nil
 | nilp=>exact .nilp
 | fn f caps cv hl _ ih=>exact .fn f caps cv hl ih
 | agg cs cv hl _ ih=>exact .agg cs cv hl ih
 | tup cs cv hl _ ih=>exact .tup cs cv hl ih
 | ts q hq sz els v h=>exact .ts q hq sz els v (h.stp s.toStp)
 | tp q hq sz els i j v h=>exact .tp q hq sz els i j v (h.stp s.toStp)
 | sl id lo n cap I hid hI hn hc hm=>exact .sl id lo n cap I (by rw [s.N];exact hid) ((s.φ id hid (fun e=>by rw [e,hr] at hI;cases hI)).trans hI) hn hc hm
 | slz id lo A hid=>exact .slz id lo A (by rw [s.N];exact hid)
 | ptr id i j I hid hI=>exact .ptr id i j I (by rw [s.N];exact hid) ((s.φ id hid (fun e=>by rw [e,hr] at hI;cases hI)).trans hI)
theorem FrR.str (s:StR r w X w' X')(hr:X.φ r=none)(hf:FrR w X fr a):FrR w' X' fr a:=⟨hf.len,fun i hi=>(hf.val i hi).strep s hr,hf.defers⟩
theorem FrR.put_str (s:StR r w X w' X')(hr:X.φ r=none)(hf:FrR w X fr a)(dst:Option Nat){v:AV}{v':Value}(h:VR w' X' v v'):FrR w' X' (Pi.put fr dst v) (a.put dst v') :=
 (hf.str s hr).put (Stn.refl w' X') dst h
theorem stp_place:Stp w X1 w (X1.place n r):=by
 refine ⟨rfl,⟨rfl,Nat.le_refl _⟩,rfl,Nat.le_refl _,fun b hb hr=>⟨rfl,?_⟩,fun b hb hr=>by simp [Cx.place,hr],rfl,rfl⟩
 rintro ⟨h1,h2⟩
 exact hr ⟨fun hn=>by simp [Cx.place,hn] at h1,h2⟩
theorem str_place (s:Stn w X w1 X1)(hN:X.N=n):StR r w X w1 (X1.place n r):=by
 refine ⟨s.toStp.trans stp_place,by simp [Cx.place,hN],fun id hid hne=>?_⟩
 simp only [Cx.place,if_neg hne];exact s.φ id hid
theorem VR.place_old (hN:X.N=n)(hr:X1.φ r=none){av:AV}{u:Value}(h:VR w1 X1 av u):∀ {u0:Value},VR w X av u0→VR w1 (X1.place n r) av u:=by
 induction h with
 | int k n=>intro _ _;exact .int k n
 | bool b=>intro _ _;exact .bool b
 | str s=>intro _ _;exact .str s
 | nil=>intro _ _;exact .nil
 | nilp=>intro _ _;exact .nilp
 | fn f caps cv hl _ ih=>intro u0 h0;obtain ⟨cv0,_,_,h0⟩:=h0.fn_inv;exact .fn f caps cv hl (fun i hi=>ih i hi (h0 i hi))
 | agg cs cv hl _ ih=>intro u0 h0;obtain ⟨cv0,_,_,h0⟩:=h0.agg_inv;exact .agg cs cv hl (fun i hi=>ih i hi (h0 i hi))
 | tup cs cv hl _ ih=>intro u0 h0;obtain ⟨cv0,_,_,h0⟩:=h0.tup_inv;exact .tup cs cv hl (fun i hi=>ih i hi (h0 i hi))
 | ts q hq sz els v h=>intro _ _;exact .ts q hq sz els v (h.stp stp_place)
 | tp q hq sz els i j v h=>intro _ _;exact .tp q hq sz els i j v (h.stp stp_place)
 | sl id lo m cap I hid hI hn hc hm =>
  intro u0 h0
  have hlt:id<n:=by cases h0<;>omega
  have hne:id≠r:=fun e=>by rw [e,hr] at hI;cases hI
  exact .sl id lo m cap I (by simp only [Cx.place];omega) (by simp [Cx.place,hne,hI]) hn hc hm
 | slz id lo A hid =>
  intro u0 h0
  have hlt:id<n:=by cases h0<;>omega
  exact .slz id lo A (by simp only [Cx.place];omega)
 | ptr id i j I hid hI =>
  intro u0 h0
  have hlt:id<n:=by cases h0<;>omega
  have hne:id≠r:=fun e=>by rw [e,hr] at hI;cases hI
  exact .ptr id i j I (by simp only [Cx.place];omega) (by simp [Cx.place,hne,hI])
theorem sr_place {ob:Ob}(hS:SR T w X S)(s:Stn w X w1 X1)(hS1:SR T w1 X1 (S1++[some ob]))(hl:S1.length=S.length)(hrl:r<S.length)(hsub:∀id ob',getOb S1 id=some ob'→getOb S id=some ob')(hr:X.φ r=none)(hr1:getOb S r=none)
    (hbox:ob.kd=.box→∀i j,i<ob.els.length→j<ob.sz→∃u,VR w X (at2 ob.els i j) u):SR T w1 (X1.place S.length r) (S1.set r (some ob)):=by
 have hN:=hS.n
 have hφr:X1.φ r=none:=(s.φ r (by omega)).trans hr
 have hN1:=hS1.n
 refine ⟨by simp [Cx.place,hl],fun b hb=>hS1.lab b (fun hn=>by simp [Cx.place,hn] at hb),hS1.pro,fun id ob' hg=>?_,hS1.sft⟩
 rcases getOb_set hg with ⟨rfl,rfl⟩|⟨hne,hg⟩
 · 
   have hnew:getOb (S1++[some ob']) S.length=some ob':=by
    unfold getOb;rw [←hl];simp
   have hok:=hS1.obs _ _ hnew;unfold OK at hok ⊢
   have e:(X1.place S.length id).φ id=X1.φ S.length:=by simp [Cx.place]
   rw [e]
   cases hI:X1.φ S.length with
   | none=>rw [hI] at hok;exact hok
   | some I =>
    rw [hI] at hok;obtain ⟨c,hor⟩:=hok
    refine ⟨c,hor.sz,hor.rows,by simp [Cx.place,hor.root],hor.par,hor.npro,hor.blk,hor.fits,hor.cell,fun i j hi hj=>?_⟩
    have h0:=hor.val i j hi hj
    by_cases hk:ob'.kd=.box
    · rw [if_pos hk] at h0 ⊢;obtain ⟨u0,hu0⟩:=hbox hk i j hi hj;exact h0.place_old hN hφr hu0
    · rw [if_neg hk] at h0 ⊢
      exact h0.reloc stp_place (fun l=>l) (fun _ _ _=>rfl) (fun b _ hb _=>⟨by simp [Cx.place,hb],by simp [Cx.place]⟩) (fun _ _ _ _ _=>rfl)
 · have hg0:=hsub id ob' hg;have hlt:=getOb_lt hg0;have hg1:getOb (S1++[some ob]) id=some ob':=getOb_left hg;have hok:=hS1.obs _ _ hg1;unfold OK at hok ⊢
   have e:(X1.place S.length r).φ id=X1.φ id:=by simp [Cx.place,hne]
   rw [e]
   cases hI:X1.φ id with
   | none=>rw [hI] at hok;exact hok
   | some I =>
    rw [hI] at hok;obtain ⟨c,hor⟩:=hok
    have hlab:∀b,X1.root b=some id→(X1.place S.length r).root b=some id:=by
     intro b hb
     have h1:¬id=S.length:=by omega
     simp only [Cx.place,hb,if_neg h1,if_neg hne]
    refine ⟨c,hor.sz,hor.rows,hlab _ hor.root,hor.par,hor.npro,hor.blk,hor.fits,hor.cell,fun i j hi hj=>?_⟩
    have h0:=hor.val i j hi hj
    by_cases hk:ob'.kd=.box
    · rw [if_pos hk] at h0 ⊢
      obtain ⟨c0,hor0⟩:=row_of hS hg0 (by rw [←s.φ id (by omega)];exact hI)
      have h1:=hor0.val i j hi hj;rw [if_pos hk] at h1;exact h0.place_old hN hφr h1
    · rw [if_neg hk] at h0 ⊢
      exact h0.reloc stp_place (fun l=>l) (fun _ _ _=>rfl) (fun b _ hb _=>⟨hlab b hb,by simp [Cx.place]⟩) (fun _ _ _ _ _=>rfl)
theorem fillRow_mono {es:List Nat}{sz:Nat}:∀ {ps:List (Nat×AV)} {els els':List (List AV)} {S S1:St},fillRow es sz els S ps=some (els',S1)→S1.length=S.length∧∀id ob,getOb S1 id=some ob→getOb S id=some ob:=by
 intro ps
 induction ps with
 | nil=>intro els els' S S1 h;simp only [fillRow,Option.some.injEq,Prod.mk.injEq] at h;obtain ⟨_,rfl⟩:=h;exact ⟨rfl,fun _ _ h=>h⟩
 | cons p ps ih =>
  obtain ⟨i,v⟩:=p;intro els els' S S1 h;simp only [fillRow] at h;split at h
  · split at h
    · cases h
    · rename_i cs S2 hab;obtain ⟨h1,h2⟩:=ih h
      exact ⟨h1.trans (absorbL_len hab).1,fun id ob hg=>absorbL_mono hab (h2 id ob hg)⟩
  · cases h
theorem evAt_ok (hT:TabOk P T)(hC:COK P T C)(hS:SR T w X S)(hf:FrR w X fr a)(hr:X.φ r=none)(h:evAt T r o.op fr S=some (v,S')) :
    ∀(next:Act→World→Prop) (Q:Exit→Act→World→Prop),
     (∀v' w' X',StR r w X w' X'→SR T w' X' S'→VR w' X' v v'→next (a.put o.dst v') w')→o.wp P a w next Q:=by
 unfold evAt at h;split at h
 · cases h
 rename_i hg
 by_cases hrl:r<S.length
 case neg=>rw [if_neg hrl] at h;cases h
 rw [if_pos hrl] at h;have hN:=hS.n
 have go : ∀ {v0 : AV} {S1 : St} {ob : Ob}, evOp T C o.op fr S = some (v0, S1 ++ [some ob]) → S' = S1.set r (some ob) → S1.length = S.length → (∀ id ob', getOb S1 id = some ob' → getOb S id = some ob') →
     (ob.kd=.box→∀i j,i<ob.els.length→j<ob.sz→∃u,VR w X (at2 ob.els i j) u)→((v0=.ptr S.length 0 0∧v=.ptr r 0 0)∨∃n,v0=.sl S.length 0 n∧v=.sl r 0 n) →
     ∀(next:Act→World→Prop) (Q:Exit→Act→World→Prop),(∀v' w' X',StR r w X w' X'→SR T w' X' S'→VR w' X' v v'→next (a.put o.dst v') w')→o.wp P a w next Q:=by
  intro v0 S1 ob he hS' hl hsub hbox hv next Q hnext
  refine evOp_ok hT hC hS hf he next Q (fun v' w1 X1 s hS1 hv1=>hnext v' w1 (X1.place S.length r) (str_place s hN) ?_ ?_)
  · rw [hS'];exact sr_place hS s hS1 hl hrl hsub hr hg hbox
  · rcases hv with ⟨rfl,rfl⟩|⟨n,rfl,rfl⟩
    · cases hv1 with
      | ptr id i j I hid hI=>exact .ptr r 0 0 I hrl (by simp [Cx.place,hI])
    · cases hv1 with
      | sl id lo n cap I hid hI hn hc hm=>exact .sl r 0 n cap I hrl (by simp [Cx.place,hI]) hn hc hm
      | slz id lo A hid=>exact .slz r 0 A hrl
 cases hop:o.op with
 | alloc t =>
  rw [hop] at h;simp only at h
  split at h<;>cases h
  rename_i ti hti
  refine go (v0:=.ptr S.length 0 0) (S1:=S) (ob:=⟨.box,ti.size,[ti.zero]⟩) (by rw [hop];simp only [evOp,hti]) rfl rfl (fun _ _ h=>h) (fun _ i j hi hj=>?_) (.inl ⟨rfl,rfl⟩)
  have hok:=hT.ty _ _ hti;simp at hi;subst hi
  have hj':j<ti.zero.length:=by simpa [hok.zlen] using hj
  have hzk:zOk ti.zero[j]=true:=List.all_eq_true.1 hok.zok _ (List.getElem_mem hj')
  exact ⟨zOf ti.zero[j],by simpa [at2,List.getD_eq_getElem?_getD,hj'] using zOf_ok w X hzk⟩
 | box t x =>
  rw [hop] at h;simp only at h;split at h
  · rename_i ti v1 hti hx
    split at h<;>cases h
    rename_i hlen
    refine go (v0:=.ptr S.length 0 0) (S1:=S) (ob:=⟨.box,ti.size,[v1.cells]⟩) (by rw [hop];simp only [evOp,hti,hx,hlen,if_true]) rfl rfl (fun _ _ h=>h) (fun _ i j hi hj=>?_) (.inl ⟨rfl,rfl⟩)
    simp at hi;subst hi;obtain ⟨hvl,hvc⟩:=(evO_ok hf hx).cells
    have hj':j<v1.cells.length:=by simpa [hlen] using hj
    exact ⟨_,by simpa [at2] using hvc j hj'⟩
  · cases h
 | buildSlice t len parts =>
  rw [hop] at h;simp only at h;split at h
  · rename_i te ps hte hps;split at h
    · rename_i hb
      split at h<;>cases h
      rename_i els S1 hfr;obtain ⟨h1,h2⟩:=fillRow_mono hfr
      refine go (v0:=.sl S.length 0 len) (S1:=S1) (ob:=⟨.lit,te.size,els⟩) (by rw [hop];simp only [evOp,hte,hps,hb,if_true,hfr,h1]) rfl h1 h2 (fun hk=>by cases hk) (.inr ⟨len,rfl,rfl⟩)
    · cases h
  · cases h
 | _=>rw [hop] at h;simp at h
end Go.Pi

namespace Go.Pi
open Go
variable {P:Program} {T:Tab} {o:Oper} {a:Act} {w w':World} {X X' Xc:Cx} {fr fr':Fr} {S S':St} {v:AV} {C:Nat→List AV→St→Option (AV×St)}
structure OrdFacts (ops:List Oper):Prop where
 lt:∀(i:Nat) (o:Oper),ops[i]?=some o→∀e∈o.after.toList,Region.binds .any e=true→e.on<i
 acy:∀md,acyc md ops=true
 dist:∀(i j:Nat) (oi oj:Oper),ops[i]?=some oi→ops[j]?=some oj→i≠j→∀d,oj.dst=some d→oi.dst≠some d
 ord:∀(i j:Nat) (oi oj:Oper),ops[i]?=some oi→ops[j]?=some oj→i≠j→∀d,oj.dst=some d→d∈tmpsOf ops oi→j∈(aheads ops).getD i []∨i∈(aheads ops).getD j []
theorem ordFacts {ops:List Oper}(h2:forwardOk .any ops=true)(h4:acyc .text ops=true)(h5:acyc .gc ops=true)(h3:clashOk ops=true):OrdFacts ops:=by
 simp only [clashOk] at h3
 have key:∀(i j:Nat) (oi oj:Oper),ops[i]?=some oi→ops[j]?=some oj→i≠j→∀d,oj.dst=some d→oi.dst≠some d∧(d∈tmpsOf ops oi→j∈(aheads ops).getD i []∨i∈(aheads ops).getD j []):=by
  intro i j oi oj hi hj hij d hd;have k:=zipIdx_all h3 hj;simp only [hd] at k;have k2:=zipIdx_all k hi;simp only [Bool.or_eq_true,Bool.and_eq_true,beq_iff_eq,Bool.not_eq_true',List.contains_eq_mem,decide_eq_true_eq,decide_eq_false_iff_not] at k2
  rcases k2 with k2|⟨k3,k4⟩
  · exact absurd k2 hij
  · refine ⟨fun e=>by rw [e] at k3;simp at k3,fun hm=>?_⟩
    rcases k4 with (k4|k4) | k4
    · exact absurd hm k4
    · exact .inl k4
    · exact .inr k4
 refine ⟨fun i o hi e he hb=>forward_lt h2 hi he hb,fun md=>?_,fun i j oi oj hi hj hij d hd=>(key i j oi oj hi hj hij d hd).1,fun i j oi oj hi hj hij d hd=>(key i j oi oj hi hj hij d hd).2⟩
 cases md with
 | text=>exact h4
 | gc=>exact h5
 | any=>simp [acyc,h2]
theorem looks_any {op:Op}(hl:looks op=true)(C':Nat→List AV→St→Option (AV×St)):evOp T C op fr S=evOp T C' op fr S:=by
 cases op with
 | call c =>
  simp only [looks,Bool.and_eq_true] at hl
  cases hc:c.callee with
  | value x=>rw [hc] at hl;simp at hl
  | builtin b=>simp only [evOp,hc]
  | invoke a b=>simp only [evOp,hc]
 | makeFunc f first caps=>cases f<;>rfl
 | slice t x lo hi mx=>cases mx<;>rfl
 | _=>rfl
def noCall (_:Nat)(_:List AV)(_:St):Option (AV×St):=none
theorem looks_same {op:Op}(hl:looks op=true)(h:evOp T C op fr S=some (v,S')):S'=S:=by
 rw [looks_any hl noCall] at h
 have hc:calm op=true:=by simp only [looks,Bool.and_eq_true] at hl;exact hl.1
 exact calm_same (C:=noCall) (fun f args S v S' h=>by cases h) hc h
theorem trc_ops {b:Nat}:∀ {sl:List PO} {R:List (Option Nat)} {fr:Fr} {S:St} {t:List TrE} {fr':Fr} {S':St},trc T C b sl R fr S=some (t,fr',S') →
    t.length=sl.length∧fr'=foldPut sl (t.map (·.v)) fr∧(t.map (·.S)).getD 0 S'=S ∧
    ∀k (hk:k<sl.length) (ht:k<t.length),t[k].fr=foldPut (sl.take k) ((t.map (·.v)).take k) fr∧known t[k].fr sl[k].guard=true ∧
     (if want t[k].fr sl[k].guard=true then evOpX T C b (R.getD k none) sl[k].op t[k].fr t[k].S=some (t[k].v,(t.map (·.S)).getD (k+1) S') else t[k].v=.undef∧(t.map (·.S)).getD (k+1) S'=t[k].S):=by
 intro sl
 induction sl with
 | nil =>
  intro R fr S t fr' S' h;simp only [trc,Option.some.injEq,Prod.mk.injEq] at h;obtain ⟨rfl,rfl,rfl⟩:=h
  exact ⟨rfl,rfl,rfl,fun k hk=>absurd hk (Nat.not_lt_zero k)⟩
 | cons o sl ih =>
  intro R fr S t fr' S' h
  cases R with
  | nil=>simp [trc] at h
  | cons x R =>
  have step : ∀ v S1 t1, trc T C b sl R (put fr o.dst v) S1 = some (t1, fr', S') → t = ⟨fr, S, v⟩ :: t1 → known fr o.guard = true → (if want fr o.guard = true then evOpX T C b x o.op fr S = some (v, S1) else v = .undef ∧ S1 = S) →
      t.length=(o::sl).length∧fr'=foldPut (o::sl) (t.map (·.v)) fr∧(t.map (·.S)).getD 0 S'=S ∧
  ∀k (hk:k<(o::sl).length) (ht:k<t.length),t[k].fr=foldPut ((o::sl).take k) ((t.map (·.v)).take k) fr∧known t[k].fr (o::sl)[k].guard=true ∧
   (if want t[k].fr (o::sl)[k].guard=true then evOpX T C b ((x::R).getD k none) (o::sl)[k].op t[k].fr t[k].S=some (t[k].v,(t.map (·.S)).getD (k+1) S') else t[k].v=.undef∧(t.map (·.S)).getD (k+1) S'=t[k].S):=by
   intro v S1 t1 h1 ht hkn hv;subst ht;obtain ⟨e2,e3,hf,e4⟩:=ih h1
   refine ⟨by simp [e2],by simpa [foldPut] using e3,by simp,fun k hk ht=>?_⟩
   cases k with
   | zero =>
    refine ⟨rfl,hkn,?_⟩;simp only [List.map_cons,List.getElem_cons_zero,List.getD_cons_succ,List.getD_cons_zero,hf];exact hv
   | succ k =>
    have:=e4 k (by simpa using hk) (by simpa using ht)
    simpa [foldPut] using this
  simp only [trc] at h
  by_cases hkn:known fr o.guard=true
  case neg=>rw [if_neg hkn] at h;cases h
  rw [if_pos hkn] at h;split at h
  · rename_i hw;split at h
    · cases h
    · rename_i v S1 h1;split at h
      · cases h
      · rename_i t1 fr1 S2 h2;cases h
        exact step v S1 t1 h2 rfl hkn (by rw [if_pos hw];exact h1)
  · rename_i hw;split at h
    · cases h
    · rename_i t1 fr1 S2 h2;cases h
      exact step .undef S t1 h2 rfl hkn (by rw [if_neg hw];exact ⟨rfl,rfl⟩)
theorem mem_ins {i j:Nat}{l:List Nat}:j∈ins i l↔j=i∨j∈l:=by
 induction l with
 | nil=>simp [ins]
 | cons x l ih =>
  simp only [ins];split
  · simp
  · split
    · rename_i h;subst h;simp
    · simp only [List.mem_cons,ih]
      constructor
      · rintro (h | h | h)
        · exact .inr (.inl h)
        · exact .inl h
        · exact .inr (.inr h)
      · rintro (h | h | h)
        · exact .inr (.inl h)
        · exact .inl h
        · exact .inr (.inr h)
theorem preN_in {E:List Nat}(hE:E.Pairwise (·<·)):∀ {i:Nat},i∈E→E[preN E i]?=some i∧preN E (i+1)=preN E i+1:=by
 induction E with
 | nil=>intro i h;cases h
 | cons e E ih =>
  intro i h;rw [List.pairwise_cons] at hE
  rcases List.mem_cons.1 h with rfl|h
  · have h1:¬i+1≤i:=by omega
    simp only [preN,if_pos (Nat.le_refl i),if_neg h1];refine ⟨rfl,?_⟩
    cases E with
    | nil=>rfl
    | cons e2 E =>
     have:=hE.1 e2 (by simp)
     simp only [preN]
     rw [if_pos (by omega)]
  · have hlt:=hE.1 i h
    have h1:¬i≤e:=by omega
    have h2:¬i+1≤e:=by omega
    obtain ⟨k1,k2⟩:=ih hE.2 h;simp only [preN,if_neg h1,if_neg h2]
    exact ⟨by simpa using k1,by omega⟩
theorem preN_out {E:List Nat}:∀ {i:Nat},i∉E→preN E (i+1)=preN E i:=by
 induction E with
 | nil=>intro i _;rfl
 | cons e E ih =>
  intro i h;simp only [List.mem_cons,not_or] at h;simp only [preN]
  have:(i+1≤e)↔(i≤e):=by omega
  simp only [this,ih h.2]
theorem preN_all {E:List Nat}{n:Nat}:(∀e∈E,e<n)→preN E n=E.length:=by
 induction E with
 | nil=>intro _;rfl
 | cons e E ih =>
  intro h
  have h1:=h e (by simp)
  simp only [preN,if_neg (by omega:¬n≤e),ih fun x hx=>h x (by simp [hx]),List.length_cons]
theorem preSts_get {t:List TrE}{Sf:St}:∀ {E:List Nat} {k:Nat},(preSts t Sf E)[k]?=if k<E.length then some (match t[E.getD k 0]? with | some e=>e.S | none=>Sf) else if k=E.length then some Sf else none:=by
 intro E
 induction E with
 | nil=>intro k;cases k<;>simp [preSts]
 | cons e E ih =>
  intro k
  cases k with
  | zero=>simp [preSts];cases t[e]?<;>rfl
  | succ k=>simp only [preSts,List.getElem?_cons_succ,ih,List.length_cons,Nat.add_lt_add_iff_right,List.getD_cons_succ,Nat.add_right_cancel_iff]
theorem moreSts_get {b:Nat}{l:List PO}{R:List (Option Nat)}{t:List TrE}:∀ {G:List (Nat×Nat)} {Ss Ss':List St} {k:Nat},moreSts T C b l R t G Ss=some Ss'→k<Ss.length→Ss'[k]?=Ss[k]?:=by
 intro G
 induction G with
 | nil=>intro Ss Ss' k h _;simp only [moreSts,Option.some.injEq] at h;rw [h]
 | cons g G ih =>
  obtain ⟨k1,i⟩:=g;intro Ss Ss' k h hk;simp only [moreSts] at h;split at h
  · cases h
  · rw [ih h (by simp;omega),List.getElem?_append_left hk]
theorem chkAt_all {b:Nat}{l:List PO}{R:List (Option Nat)}{t:List TrE}{Ss:List St}{u:Unit}:∀ {Q:List (Nat×Nat×Nat)},chkAt T C b l R t Ss Q=some u→∀i k k',(i,k,k')∈Q→∃e,t[i]?=some e∧stepAt T C b l R t i (Ss.getD k [])=some (e.v,Ss.getD k' []):=by
 intro Q
 induction Q with
 | nil=>intro _ i k k' h;cases h
 | cons q Q ih =>
  obtain ⟨i0,k0,k0'⟩:=q;intro h i k k' hm;simp only [chkAt] at h;split at h
  · cases h
  · rename_i q hq;split at h
    · cases h
    · rename_i e he;split at h
      · rename_i heq
        rcases List.mem_cons.1 hm with hm|hm
        · cases hm
          exact ⟨e,he,by rw [hq,heq]⟩
        · exact ih h i k k' hm
      · cases h
theorem still_any {op:Op}(h:still op=true){S1 S2:St}{v:AV}{C':Nat→List AV→St→Option (AV×St)}(he:evOp T C op fr S=some (v,S1)):evOp T C' op fr S2=some (v,S2):=by
 cases op<;>simp only [still,Bool.false_eq_true] at h<;>simp only [evOp] at he ⊢<;>(repeat' split at he)<;>simp_all
theorem evAt_congr {op:Op}{r:Nat}(h:∀x∈op.operands,evO fr x=evO fr' x):evAt T r op fr S=evAt T r op fr' S:=by
 unfold evAt;split
 · rfl
 · split
   · cases op with
     | box t x=>simp only [h x (by simp [Op.operands])]
     | buildSlice t n ps =>
      have:evParts fr ps.toList=evParts fr' ps.toList:=evParts_congr fun x hx=>h x.2 (by simp only [Op.operands,List.mem_toArray,List.mem_map];exact ⟨x,hx,rfl⟩)
      simp only [this]
     | _=>rfl
   · rfl
theorem same_ops {ops:List Oper}{o:Oper}{f1 f2:Fr}(hl:f1.length=f2.length)(h:∀t∈tmpsOf ops o,t<f1.length→f1.getD t .undef=f2.getD t .undef):∀x∈o.op.operands,evO f1 x=evO f2 x:=by
 intro x hx
 cases x with
 | tmp t =>
  have e:f1.getD t .undef=f2.getD t .undef:=by
   by_cases hlt:t<f1.length
   · exact h t (mem_tmpsOf_operand hx) hlt
   · rw [List.getD_eq_getElem?_getD,List.getD_eq_getElem?_getD,List.getElem?_eq_none (Nat.le_of_not_lt hlt),List.getElem?_eq_none (by rw [←hl];exact Nat.le_of_not_lt hlt)]
  simp only [evO,e]
 | _=>rfl
theorem fx_main (hT:TabOk P T)(hC:COK P T C){ops:Array Oper}{sl:List PO}(df:OrdFacts ops.toList)(hsl:slimOps ops.toList ops.toList=some sl){vs:List AV}(hvl:vs.length=sl.length){E:List Nat}{Ds:List (List Nat)}{R:List (Option Nat)}{b n0:Nat}{σ:Nat→St}{Pr:Nat→Nat→Nat→Prop}
    (hval : ∀ i (hi : i < sl.length), known (foldPut (sl.take i) (vs.take i) fr) sl[i].guard = true ∧ ∀ k k', Pr i k k' → if want (foldPut (sl.take i) (vs.take i) fr) sl[i].guard = true then
        evOpX T C b (R.getD i none) sl[i].op (foldPut (sl.take i) (vs.take i) fr) (σ k)=some (vs.getD i .undef,σ k')
     else vs.getD i .undef=.undef∧σ k'=σ k)
    (hmay:∀k i,k<Ds.length→i<ops.size→mayAt (aheads ops.toList) E (Ds.getD k []) i=true→∃k',k'<Ds.length∧Ds.getD k' []=setBehind E (Ds.getD k []) i∧Pr i k k')
    (hRE:∀i r,i<ops.size→R.getD i none=some r→i∈E) (hRinj:∀i j r,i<ops.size→j<ops.size→R.getD i none=some r→R.getD j none=some r→i=j)
    {kE:Nat} (hfin:∀k,k<Ds.length→(∀e∈E,e∈Ds.getD k [])→k=kE) (hElt:∀e∈E,e<ops.size) (hbn:n0≤b)
    {Q:Exit→Act→World→Prop} {w0:World} {X0:Cx} (hQ:∀a' w' X',StB n0 w0 X0 w' X'→SR T w' X' (σ kE)→FrR w' X' (foldPut sl vs fr) a'→Q .normal a' w')
    {md:Region.Mode} (hmd:∀e,Region.binds .any e=true→Region.binds md e=true):∀(fuel:Nat) (listed:Array Bool) (a:Act) (w:World) (X:Cx) (g:Fr) (k:Nat),listed.size=ops.size→listed.toList.count false≤fuel →
     (∀(i:Nat) (o:Oper),Done listed i→ops.toList[i]?=some o→∀e∈o.after.toList,Region.binds .any e=true→Done listed e.on)→k<Ds.length→(∀i,i∈Ds.getD k []↔i∈E∧Done listed i) →
     (∀i r,i<ops.size→R.getD i none=some r→¬Done listed i→b+r<X.N∧X.φ (b+r)=none)→Ag sl vs fr (Done listed) g→SR T w X (σ k)→FrR w X g a→StB n0 w0 X0 w X→wpAny P md ops Q fuel listed a w:=by
 obtain ⟨hll,hget⟩:=slimOps_get hsl
 have hsz:ops.toList.length=ops.size:=by simp
 have hdist:∀k (hk:k<sl.length) j (hj:j<sl.length),j≠k→∀t,sl[j].dst=some t→sl[k].dst≠some t:=by
  intro k hk j hj hjk t ht
  rw [(hget j (by omega) hj).1] at ht
  rw [(hget k (by omega) hk).1]
  exact df.dist k j _ _ (List.getElem?_eq_getElem (by omega)) (List.getElem?_eq_getElem (by omega)) (Ne.symm hjk) t ht
 have hend:∀(listed:Array Bool) (a:Act) (w:World) (X:Cx) (g:Fr) (k:Nat),(∀i,i<ops.size→Done listed i)→k<Ds.length→(∀i,i∈Ds.getD k []↔i∈E∧Done listed i)→Ag sl vs fr (Done listed) g→SR T w X (σ k)→FrR w X g a→StB n0 w0 X0 w X→Q .normal a w:=by
  intro listed a w X g k hall hk hD hag hS hf s
  have hkE:=hfin k hk (fun e he=>(hD e).2 ⟨he,hall e (hElt e he)⟩)
  subst hkE;have hL:=ag_listed (fr:=fr) hvl hdist sl.length (Nat.le_refl _);rw [List.take_length,←hvl,List.take_length] at hL
  have:=ag_full hag hL (fun i hi=>hall i (by omega)) (fun i hi=>by omega)
  subst this;exact hQ a w X s hS hf
 have hfull:∀(listed:Array Bool),listed.size=ops.size→Region.ready md ops listed=[]→∀i,i<ops.size→Done listed i:=by
  intro listed hls hr i hi
  refine all_done (df.acy md) (fun i o ho hed=>?_) i (by omega)
  apply Classical.byContradiction
  intro hn
  have hio:ops[i]?=some o:=by rw [←Array.getElem?_toList];exact ho
  have hi':i<listed.size:=by rw [hls];exact (Array.getElem?_eq_some_iff.1 hio).1
  have hmem:i∈Region.ready md ops listed:=by
   rw [mem_ready]
   refine ⟨?_,o,hio,fun e he hb=>hed e (by simpa using he) hb⟩
   unfold Done at hn;simp only [Array.getD_eq_getD_getElem?,Array.getElem?_eq_getElem hi',Option.getD_some] at hn ⊢;simpa using hn
  rw [hr] at hmem;cases hmem
 intro fuel
 induction fuel with
 | zero =>
  intro listed a w X g k hls hcnt hdown hk hD hres hag hS hf s
  have hall:∀i,i<ops.size→Done listed i:=by
   intro i hi
   have hi':i<listed.size:=by omega
   unfold Done
   have hne:listed[i]≠false:=by
    intro he
    have:false∈listed.toList:=by rw [←he];simp
    have:=List.count_pos_iff.2 this;omega
   simp only [Array.getD_eq_getD_getElem?,Array.getElem?_eq_getElem hi',Option.getD_some];simpa using hne
  refine ⟨?_,hend listed a w X g k hall hk hD hag hS hf s⟩
  apply List.eq_nil_iff_forall_not_mem.2
  intro i hi;rw [mem_ready] at hi;obtain ⟨h1,o,ho,_⟩:=hi;have hlt:i<ops.size:=(Array.getElem?_eq_some_iff.1 ho).1;have:=hall i hlt;unfold Done at this
  have hi':i<listed.size:=by omega
  simp only [Array.getD_eq_getD_getElem?,Array.getElem?_eq_getElem hi',Option.getD_some] at this h1;rw [this] at h1;cases h1
 | succ fuel ih =>
  intro listed a w X g k hls hcnt hdown hk hD hres hag hS hf s
  refine ⟨fun hr=>hend listed a w X g k (hfull listed hls hr) hk hD hag hS hf s,fun i hi'=>?_⟩
  rw [mem_ready] at hi';obtain ⟨hnl,o,ho,hedge⟩:=hi';have hin:i<ops.size:=(Array.getElem?_eq_some_iff.1 ho).1
  have hil:i<listed.size:=by omega
  have his:i<sl.length:=by omega
  have hot:ops.toList[i]?=some o:=by rw [Array.getElem?_toList];exact ho
  have hotg:ops.toList[i]'(by omega)=o:=by
   have:=List.getElem?_eq_some_iff.1 hot;exact this.2
  obtain ⟨hd1,hd2,hd3⟩:=hget i (by omega) his
  rw [hotg] at hd1 hd2 hd3
  have hnd:¬Done listed i:=by
   unfold Done;simp only [Array.getD_eq_getD_getElem?,Array.getElem?_eq_getElem hil,Option.getD_some] at hnl ⊢;simpa using hnl
  have hah:∀j∈(aheads ops.toList).getD i [],Done listed j:=by
   intro j hj;obtain ⟨o',ho',e,he,hb,hc⟩:=aheads_ok ops.toList i j hj;rw [hot] at ho'
   injection ho' with ho'
   subst ho'
   have hon:Done listed e.on:=hedge e (by simpa using he) (hmd e hb)
   rcases hc with rfl|⟨_,h2⟩
   · exact hon
   · exact aheads_done hdown e.on hon j h2
  have hahlt:=aheads_lt (ops:=ops.toList) (fun i o hi e he hb=>df.lt i o hi e he hb)
  have hL:=ag_listed (fr:=fr) hvl hdist i (by omega)
  have hag2:∀t∈tmpsOf ops.toList o,t<g.length→g.getD t .undef=(foldPut (sl.take i) (vs.take i) fr).getD t .undef:=(fun t ht htl=>by
   rw [hag.len] at htl
   by_cases hw:∃j,∃hj:j<sl.length,j≠i∧sl[j].dst=some t
   · obtain ⟨j,hj,hji,hdj⟩:=hw
     have hjo:ops.toList[j]?=some (ops.toList[j]'(by omega)):=List.getElem?_eq_getElem (by omega)
     have hdj':=hdj
     rw [(hget j (by omega) hj).1] at hdj'
     rcases df.ord i j o _ hot hjo (Ne.symm hji) t hdj' ht with h1|h1
     · rw [hag.wr t htl j hj (hah j h1) hdj,hL.wr t htl j hj (hahlt i j h1) hdj]
     · have hij:=hahlt j i h1
       have hndj:¬Done listed j:=fun hdn=>hnd (aheads_done hdown j hdn i h1)
       rw [hag.un t htl (fun j' hj' hD hd=>?_),hL.un t htl (fun j' hj' hD hd=>?_)]
       · by_cases hjj:j'=j
         · omega
         · exact hdist j hj j' hj' hjj t hd hdj
       · by_cases hjj:j'=j
         · subst hjj;exact hndj hD
         · exact hdist j hj j' hj' hjj t hd hdj
   · rw [hag.un t htl (fun j' hj' hD hd=>hw ⟨j',hj',fun e=>hnd (e▸hD),hd⟩),hL.un t htl (fun j' hj' hD hd=>hw ⟨j',hj',by omega,hd⟩)])
  have hsame:=same_at (T:=T) (C:=C) (S:=σ k) hd3 (f1:=g) (f2:=foldPut (sl.take i) (vs.take i) fr) (by rw [hag.len,hL.len]) hag2
  have hsame2:=same_ops (ops:=ops.toList) (o:=o) (f1:=g) (f2:=foldPut (sl.take i) (vs.take i) fr) (by rw [hag.len,hL.len]) hag2
  have hls':(listed.setIfInBounds i true).size=ops.size:=by simpa using hls
  have hcnt':(listed.setIfInBounds i true).toList.count false≤fuel:=by
   have:listed.toList[i]?=some false:=by
    rw [Array.getElem?_toList,Array.getElem?_eq_getElem hil];simp only [Array.getD_eq_getD_getElem?,Array.getElem?_eq_getElem hil,Option.getD_some] at hnl;rw [hnl]
   have:=count_set this;rw [Array.toList_setIfInBounds];omega
  have hdown':∀(j:Nat) (o':Oper),Done (listed.setIfInBounds i true) j→ops.toList[j]?=some o'→∀e∈o'.after.toList,Region.binds .any e=true→Done (listed.setIfInBounds i true) e.on:=by
   rw [done_set hil];intro j o' hj ho' e he hb
   rcases hj with hj|rfl
   · exact .inl (hdown j o' hj ho' e he hb)
   · rw [hot] at ho'
     injection ho' with ho'
     subst ho'
     exact .inl (hedge e (by simpa using he) (hmd e hb))
  have hag':Ag sl vs fr (Done (listed.setIfInBounds i true)) (put g o.dst (vs.getD i .undef)):=by
   rw [done_set hil,←hd1];exact hag.put his hnd (hdist i his)
  obtain ⟨hkn,hpairs⟩:=hval i his;rw [←hsame.2.2] at hkn
  have hmayi:mayAt (aheads ops.toList) E (Ds.getD k []) i=true:=by
   simp only [mayAt,Bool.and_eq_true,List.all_eq_true,Bool.or_eq_true,Bool.not_eq_true',List.contains_eq_mem,decide_eq_true_eq,decide_eq_false_iff_not]
   refine ⟨⟨fun e he=>?_,fun e he hi=>?_⟩,fun hi=>hnd ((hD i).1 hi).2⟩
   · by_cases hm:e∈(aheads ops.toList).getD i []
     · exact .inr ((hD e).2 ⟨he,hah e hm⟩)
     · exact .inl hm
   · exact hnd (aheads_done hdown e ((hD e).1 he).2 i hi)
  obtain ⟨k',hk',hDk',hpr⟩:=hmay k i hk hin hmayi;have hvi:=hpairs k k' hpr;rw [hd2,←hsame.1] at hvi
  have hD':∀j,j∈Ds.getD k' []↔j∈E∧Done (listed.setIfInBounds i true) j:=by
   intro j;rw [hDk',done_set hil];unfold setBehind
   by_cases hiE:i∈E
   · rw [if_pos (by simpa using hiE),mem_ins,hD j]
     constructor
     · rintro (rfl | ⟨h1,h2⟩)
       · exact ⟨hiE,.inr rfl⟩
       · exact ⟨h1,.inl h2⟩
     · rintro ⟨h1,h2 | h2⟩
       · exact .inr ⟨h1,h2⟩
       · exact .inl h2
   · rw [if_neg (by simpa using hiE),hD j]
     constructor
     · rintro ⟨h1,h2⟩;exact ⟨h1,.inl h2⟩
     · rintro ⟨h1,h2 | h2⟩
       · exact ⟨h1,h2⟩
       · exact absurd (h2▸h1) hiE
  have hdone':∀j,¬Done (listed.setIfInBounds i true) j→j≠i∧¬Done listed j:=by
   intro j hj;rw [done_set hil] at hj
   exact ⟨fun e=>hj (.inr e),fun h=>hj (.inl h)⟩
  have hN:=hS.n;unfold wpOp;rw [ho];simp only;rw [←want_ok hf hkn hd3];split at hvi
  · rename_i hwt;rw [if_pos hwt]
    left
    cases hR:R.getD i none with
    | none =>
     rw [hR] at hvi;simp only [evOpX] at hvi;rw [←hsame.2.1] at hvi
     refine evOp_ok hT hC hS hf hvi _ _ (fun v' w' X' s1 hS1 hv1=>?_)
     exact ih _ _ _ X' _ k' hls' hcnt' hdown' hk' hD' (fun j r hj hRj hnj=>by
      obtain ⟨h1,h2⟩:=hres j r hj hRj (hdone' j hnj).2
      exact ⟨Nat.lt_of_lt_of_le h1 s1.le,(s1.φ _ h1).trans h2⟩) hag' hS1 (hf.put s1 o.dst hv1) (s.trans (s1.low s.le))
    | some r =>
     rw [hR] at hvi;simp only [evOpX] at hvi;rw [←evAt_congr hsame2] at hvi;obtain ⟨h1,h2⟩:=hres i r hin hR hnd
     refine evAt_ok hT hC hS hf h2 hvi _ _ (fun v' w' X' s1 hS1 hv1=>?_)
     exact ih _ _ _ X' _ k' hls' hcnt' hdown' hk' hD' (fun j r' hj hRj hnj=>by
      obtain ⟨hji,hnj⟩:=hdone' j hnj;obtain ⟨h3,h4⟩:=hres j r' hj hRj hnj
      have hne:r'≠r:=fun e=>hji (hRinj j i r hj hin (e▸hRj) hR)
      exact ⟨by rw [s1.N];exact h3,(s1.φ _ h3 (by omega)).trans h4⟩) hag' hS1 (hf.put_str s1 h2 o.dst hv1) (s.trans (s1.low s.le (by omega)))
  · rename_i hwt;rw [if_neg hwt];rw [hvi.1] at hag'
    refine ih _ _ _ X _ k' hls' hcnt' hdown' hk' hD' (fun j r hj hRj hnj=>hres j r hj hRj (hdone' j hnj).2) hag' (by rw [hvi.2];exact hS) (hf.put (Stn.refl w X) o.dst (VR.undef w X)) s
theorem sr_reserve (hS:SR T w X S)(n:Nat):∃X',Stn w X w X'∧SR T w X' (S++List.replicate n none)∧∀r,r<n→S.length+r<X'.N∧X'.φ (S.length+r)=none:=by
 have hN:=hS.n
 let X':Cx:={ X with N:=X.N+n,φ:=fun j=>if j<X.N then X.φ j else none }
 have st:Stn w X w X':=⟨⟨rfl,⟨rfl,Nat.le_refl _⟩,rfl,Nat.le_refl _,fun b _ hr=>⟨rfl,hr⟩,fun b _ hr=>hr,rfl,rfl⟩,Nat.le_add_right _ _,fun id hid=>by simp [X',hid]⟩
 refine ⟨X',st,⟨by simp [X',hN],hS.lab,hS.pro,fun id ob h=>?_,hS.sft⟩,fun r hr=>⟨by simp only [X'];omega,?_⟩⟩
 · rcases getOb_two h with ⟨hlt,h'⟩|⟨_,h'⟩
   · refine (hS.obs id ob h').keep st (by omega) (fun b _ hb=>⟨hb,rfl⟩) (fun _ _=>rfl) (fun _ _ _ _ _=>rfl)
   · unfold getOb at h';rw [List.getElem?_replicate] at h'
     split at h'<;>first | (cases h';done) | skip
     rename_i he
     split at he<;>cases he
 · have:¬S.length+r<X.N:=by omega
   simp only [X',if_neg this]
theorem fx_sound (hT:TabOk P T):FxSound P T:=by
 intro n0 F ops sl x fr S fr' S' hF hok hsl hev hn0 w0 X0 a0 Q hS0 hf0 hQ tape;unfold evFx at hev;split at hev
 · cases hev
 rename_i t fr1 S1 htr;split at hev
 · cases hev
 rename_i Ss hSs;split at hev
 · cases hev
 rename_i hall0;have hall:=chkAt_all hall0;simp only [Option.some.injEq,Prod.mk.injEq] at hev;obtain ⟨hev1,hev2⟩:=hev;subst hev1;subst hev2;simp only [fxOk,Bool.and_eq_true] at hok;obtain ⟨⟨⟨⟨⟨⟨⟨⟨⟨h2,h4,h5⟩,h3⟩,hRl⟩,hkinds⟩,hDpre⟩,hDl⟩,hDfin⟩,hEs⟩,hcomp⟩:=hok;have df:=ordFacts h2 h4 h5 h3;have hC:=evCall_ok hT hF;obtain ⟨hll,hget⟩:=slimOps_get hsl
 have hsz:ops.toList.length=ops.size:=by simp
 have hsl':sl.length=ops.size:=by rw [hll];exact hsz
 obtain ⟨htl,rfl,hst0,hat⟩:=trc_ops htr;obtain ⟨hEsort,hElt⟩:=hEs;simp only [decide_eq_true_eq] at hEsort hDl
 have hElt':∀e∈x.E,e<ops.size:=fun e he=>by
  have:=List.all_eq_true.1 hElt e he;simpa using this
 have kinds:∀(i:Nat) (hi:i<ops.size),(i∈x.E∨looks (ops.toList[i]'(by omega)).op=true)∧∀r,x.R.getD i none=some r→r<x.n∧i∈x.E∧∀j,j<ops.size→j≠i→x.R.getD j none≠some r:=by
  intro i hi
  have k:=zipIdx_all hkinds (List.getElem?_eq_getElem (by omega:i<ops.toList.length))
  simp only [Bool.and_eq_true,Bool.or_eq_true,List.contains_eq_mem,decide_eq_true_eq] at k
  refine ⟨k.1,fun r hr=>?_⟩
  have k2:=k.2;rw [hr] at k2;simp only [Bool.and_eq_true,decide_eq_true_eq] at k2
  exact ⟨k2.1.1.2,k2.1.2,fun j hj hne=>k2.2 j (by simpa using hj) hne⟩
 have hpl:(preSts t S1 x.E).length=x.E.length+1:=by
  generalize x.E=E
  induction E with
  | nil=>rfl
  | cons e E ih=>simp only [preSts,List.length_cons,ih]
 have hpre:∀k,k≤x.E.length→Ss.getD k []=(preSts t S1 x.E).getD k []:=by
  intro k hk
  rw [List.getD_eq_getElem?_getD,List.getD_eq_getElem?_getD,moreSts_get hSs (by omega)]
 have hkeep:∀i,i<sl.length→i∉x.E→(t.map (·.S)).getD (i+1) S1=(t.map (·.S)).getD i S1:=by
  intro i hi hiE
  have hti:i<t.length:=by omega
  have e0:(t.map (·.S)).getD i S1=t[i].S:=by simp [List.getD_eq_getElem?_getD,hti]
  rw [e0];obtain ⟨_,_,h1⟩:=hat i hi hti
  obtain ⟨k1,k2⟩:=kinds i (by omega)
  have hlk:=k1.resolve_left hiE
  have hRn:x.R.getD i none=none:=by
   cases hR:x.R.getD i none with
   | none=>rfl
   | some r=>exact absurd (k2 r hR).2.1 hiE
  split at h1
  · rw [hRn,(hget i (by omega) hi).2.1] at h1
    simp only [evOpX] at h1;exact looks_same hlk h1
  · exact h1.2
 have hσ:∀d i,i+d=sl.length→(t.map (·.S)).getD i S1=Ss.getD (preN x.E i) []:=by
  intro d
  induction d with
  | zero =>
   intro i hi
   have e1:preN x.E i=x.E.length:=preN_all (fun e he=>by have:=hElt' e he;omega)
   rw [e1,hpre _ (Nat.le_refl _),List.getD_eq_getElem?_getD (l:=preSts t S1 x.E),preSts_get,if_neg (Nat.lt_irrefl _),if_pos rfl]
   simp [List.getD_eq_getElem?_getD,List.getElem?_eq_none (by simp;omega:(t.map (·.S)).length≤i)]
  | succ d ih =>
   intro i hi
   by_cases hiE:i∈x.E
   · obtain ⟨e1,_⟩:=preN_in hEsort hiE;have hlt:preN x.E i<x.E.length:=(List.getElem?_eq_some_iff.1 e1).1
     have hti:i<t.length:=by omega
     rw [hpre _ (by omega),List.getD_eq_getElem?_getD (l:=preSts t S1 x.E),preSts_get,if_pos hlt,List.getD_eq_getElem?_getD (l:=x.E),e1]
     simp [List.getD_eq_getElem?_getD,hti]
   · rw [←hkeep i (by omega) hiE,←preN_out hiE]
     exact ih (i+1) (by omega)
 have hvd:∀i (hi:i<sl.length),(t.map (·.v)).getD i .undef=(t[i]'(by omega)).v:=fun i hi=>by simp [List.getD_eq_getElem?_getD,htl,hi]
 obtain ⟨Xr,sr,hSr,hres⟩:=sr_reserve hS0 x.n;have hN0:=hS0.n
 have go:∀md tp,wpOps P ops Q (Region.linearise md ops tp) a0 w0:=by
  intro md tp
  have:=fx_main hT hC df hsl (vs:=t.map (·.v)) (by simp [htl]) (E:=x.E) (Ds:=x.Ds) (R:=x.R) (b:=S.length) (n0:=n0) (σ:=fun k=>Ss.getD k []) (fr:=fr) (Pr:=fun i k k'=>pairOk x i k k'=true∨(k=k'∧i∉x.E∧∃o,ops.toList[i]?=some o∧still o.op=true))
   (fun i hi=>by
    have hti:i<t.length:=by omega
    obtain ⟨e1,e2,e3⟩:=hat i hi hti;rw [←e1,hvd i hi]
    refine ⟨e2,fun k k' hp=>?_⟩
    rcases hp with hp|⟨rfl,hiE,o,ho,hst⟩
    case inr =>
     have hop:sl[i].op=o.op:=by
      rw [(hget i (by omega) hi).2.1]
      congr 1
      rw [List.getElem?_eq_getElem (by omega:i<ops.toList.length)] at ho
      exact Option.some.inj ho
     have hRn:x.R.getD i none=none:=by
      cases hR:x.R.getD i none with
      | none=>rfl
      | some r=>exact absurd ((kinds i (by omega)).2 r hR).2.1 hiE
     split at e3
     · rename_i hw;rw [if_pos hw];rw [hRn] at e3 ⊢;simp only [evOpX] at e3 ⊢;rw [hop] at e3 ⊢;exact still_any hst e3
     · rename_i hw;rw [if_neg hw];exact ⟨e3.1,rfl⟩
    simp only [pairOk,Bool.or_eq_true,Bool.and_eq_true,beq_iff_eq] at hp
    rcases hp with ⟨rfl,rfl⟩|hp
    · have s1:=hσ (sl.length-i) i (by omega)
      have s2:=hσ (sl.length-(i+1)) (i+1) (by omega)
      have e0:(t.map (·.S)).getD i S1=t[i].S:=by simp [List.getD_eq_getElem?_getD,hti]
      rw [←s1,←s2,e0];exact e3
    · obtain ⟨e,he,this⟩:=hall i k k' (by simpa using hp)
      rw [List.getElem?_eq_getElem hti] at he;cases he;unfold stepAt at this;rw [List.getElem?_eq_getElem hi,List.getElem?_eq_getElem hti] at this;simp only at this;split at this
      · rename_i hw;rw [if_pos hw];exact this
      · rename_i hw;rw [if_neg hw];simp only [Option.some.injEq,Prod.mk.injEq] at this
        exact ⟨this.1.symm,this.2.symm⟩)
   (fun k i hk hi hm=>by
    have h1:=List.all_eq_true.1 hcomp k (by simpa using hk)
    have h6:=List.all_eq_true.1 h1 i (by simpa using hi)
    simp only [Bool.or_eq_true,Bool.not_eq_true'] at h6
    rcases h6 with h6|h6
    · rw [hm] at h6;cases h6
    · obtain ⟨k',hk',h7⟩:=List.any_eq_true.1 h6;simp only [Bool.and_eq_true,beq_iff_eq] at h7
      refine ⟨k',by simpa using hk',h7.1,?_⟩
      have h8:=h7.2;rw [Bool.or_eq_true] at h8
      rcases h8 with h8|h8
      · exact .inl h8
      · simp only [Bool.and_eq_true,beq_iff_eq,Bool.not_eq_true',List.contains_eq_mem,decide_eq_false_iff_not] at h8;obtain ⟨⟨h9,h10⟩,h11⟩:=h8;refine .inr ⟨h9,h10,?_⟩;split at h11
        · rename_i o ho;exact ⟨o,ho,h11⟩
        · cases h11)
   (fun i r hi hr=>((kinds i hi).2 r hr).2.1) (fun i j r hi hj h1 h6=>Classical.byContradiction fun hne=>((kinds i hi).2 r h1).2.2 j hj (fun e=>hne e.symm) h6)
   (kE:=x.E.length) (fun k hk he=>by
    have h1:=List.all_eq_true.1 hDfin k (by simpa using hk)
    simp only [Bool.or_eq_true,Bool.not_eq_true',beq_iff_eq] at h1
    rcases h1 with h1|h1
    · have:(x.E.all fun e=>(x.Ds.getD k []).contains e)=true:=List.all_eq_true.2 fun e hee=>by simpa using he e hee
      rw [this] at h1;cases h1
    · exact h1)
   hElt' hn0 (Q:=Q) (w0:=w0) (X0:=X0) (fun a' w' X' s hS hf=>by
    have e1:=hσ 0 sl.length (by omega)
    have e2:preN x.E sl.length=x.E.length:=preN_all (fun e he=>by have:=hElt' e he;omega)
    rw [e2] at e1
    have e3:(t.map (·.S)).getD sl.length S1=S1:=by
     simp [List.getD_eq_getElem?_getD,List.getElem?_eq_none (by simp;omega:(t.map (·.S)).length≤sl.length)]
    rw [←e1,e3] at hS
    exact hQ a' w' X' s hS hf) (md:=md) (fun e=>binds_any) ops.size (Array.replicate ops.size false) a0 w0 Xr fr 0 (by simp) (by simp) (fun i o hi=>by
    unfold Done at hi;simp only [Array.getD_eq_getD_getElem?,Array.getElem?_replicate] at hi
    split at hi<;>simp at hi) (by omega) (fun i=>by
    have h1:=List.all_eq_true.1 hDpre 0 (by simp)
    simp only [List.take_zero,beq_iff_eq] at h1;rw [h1]
    constructor
    · intro h;cases h
    · rintro ⟨_,hD⟩
      unfold Done at hD;simp only [Array.getD_eq_getD_getElem?,Array.getElem?_replicate] at hD
      split at hD<;>simp at hD) (fun i r hi hr _=>hres r ((kinds i hi).2 r hr).1) ⟨rfl,fun t ht j hj hD=>by
    unfold Done at hD;simp only [Array.getD_eq_getD_getElem?,Array.getElem?_replicate] at hD
    split at hD<;>simp at hD,fun t ht _=>rfl⟩ (by
     have e1:(Ss.getD 0 [])=S++List.replicate x.n none:=by
      rw [←hst0,hσ sl.length 0 (by omega)]
      have:preN x.E 0=0:=by cases x.E<;>simp [preN]
      rw [this]
     show SR T w0 Xr (Ss.getD 0 [])
     rw [e1];exact hSr) (hf0.stn sr) (sr.low (by omega))
  exact wpAny_sound ops.size tp _ a0 w0 this
 unfold Region.schedule;split
 · exact go _ _
 · exact go _ _
theorem fok (hT:TabOk P T)(k:Nat):FOK P T (evF T k):=fok_all hT (fun b=>draw_sound (hT.at b)) (fun b=>fx_sound (hT.at b)) k
end Go.Pi
