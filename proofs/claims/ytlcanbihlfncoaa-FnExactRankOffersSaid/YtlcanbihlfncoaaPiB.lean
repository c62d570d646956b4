/- no condition -/
import Derived.Test.YtlcanbihlfncoaaPiA
import Derived.Laws.CopyRow
set_option linter.all false
namespace Go.Pi
open Go
variable {P:Program} {T:Tab} {w w':World} {X X':Cx} {S S':St} {v:AV}
theorem sr_heap (hS:SR T w X S)(hh:w'.heap=w.heap)(h1:w'.os=w.os)(h2:TapeLe w w')(h3:w'.output=w.output):Stn w X w' X∧SR T w' X S:=by
 have s:Stn w X w' X:=⟨⟨h1,h2,h3,by rw [hh];exact Nat.le_refl _,fun b _ hr=>⟨by rw [hh],hr⟩,fun _ _ hr=>hr,rfl,rfl⟩,Nat.le_refl _,fun _ _=>rfl⟩
 exact ⟨s,hS.n,fun b hb=>by rw [hh];exact hS.lab b hb,fun b hb=>by rw [hh];exact hS.pro b hb,fun id ob h=>(hS.obs id ob h).keep s (by rw [hS.n];exact getOb_lt h) (fun b _ hr=>⟨hr,rfl⟩) (fun _ _=>by rw [hh]) (fun _ _ _ _ _=>by rw [hh]),hS.sft⟩
def Cx.renM (X:Cx)(id:Nat)(I:Info)(ρ:Nat×Nat→Nat×Nat):Cx where
 N:=X.N+1
 root b:=if X.root b=some id then some X.N else X.root b
 par b:=if X.root b=some id then (X.par b).map ρ else X.par b
 φ i:=if i=X.N then some I else X.φ i
 pro:=X.pro
 soft:=X.soft
theorem place_ok (hS:SR T w X S){id:Nat}{ob:Ob}{I:Info}(hob:getOb S id=some ob)(hI:X.φ id=some I){cur R:Array Value}{e:TypeId}(hb:w.heap[I.g]?=some (.cells cur e (0,0)))
    (hw:w'.heap=(w.setRow I.g R).heap) (h1:w'.os=w.os) (h2:TapeLe w w') (h3:w'.output=w.output) (hR:R.size=I.size)
    (ρ:Nat×Nat→Nat×Nat) (hρ:∀b off,b≠I.g→ρ (b,off)=(b,off)) {els:List (List AV)} {c:Nat→Nat→Value} (hrows:∀r∈els,r.length=ob.sz) (hfit:I.o+els.length*ob.sz≤I.size)
    (hcell:∀i j,i<els.length→j<ob.sz→R[I.o+i*ob.sz+j]?=some (c i j))
    (hval:∀i j,i<els.length→j<ob.sz→CR w X X.N (I.g,I.o+i*ob.sz+j) (at2 els i j) (c i j)∨∃loc,CR w X id loc (at2 els i j) (c i j)∧ρ loc=(I.g,I.o+i*ob.sz+j)) :
    ∃X',Stn w X w' X'∧SR T w' X' (S.set id none++[some ⟨.arr,ob.sz,els⟩])∧X'.N=X.N+1∧X'.φ X.N=some I:=by
 obtain ⟨co,hor⟩:=row_of hS hob hI;have hidlt:=getOb_lt hob;have hN:=hS.n
 have hne:id≠X.N:=by omega
 have hsz:=hor.sz
 have hother:∀b,b≠I.g→w'.heap[b]?=w.heap[b]?:=fun b h=>by rw [hw];exact setRow_other w I.g b _ h
 have hsize:w'.heap.size=w.heap.size:=by rw [hw];simp
 have hrow:w'.heap[I.g]?=some (.cells R e (0,0)):=by rw [hw];exact setRow_heap w I.g cur R e (0,0) hb
 have s:Stn w X w' (X.renM id I ρ):=by
  refine ⟨⟨h1,h2,h3,by rw [hsize];exact Nat.le_refl _,fun b hb hr=>⟨?_,?_⟩,fun b hb hr=>by simp [Cx.renM,hr],rfl,rfl⟩,by simp [Cx.renM],fun i hi=>by
   have:i≠X.N:=by omega
   simp [Cx.renM,this]⟩
  · have:b≠I.g:=by rintro rfl;exact hr ⟨by rw [hor.root];simp,.inl hor.par⟩
    exact hother b this
  · rintro ⟨k1,k2⟩
    refine hr ⟨fun hn=>by simp [Cx.renM,hn] at k1,?_⟩
    rcases k2 with k2|k2
    · refine .inl ?_;simp only [Cx.renM] at k2;split at k2
      · simpa using k2
      · exact k2
    · exact .inr k2
 refine ⟨_,s,⟨by simp [Cx.renM,hN],fun b hb=>?_,fun b hb=>by rw [hsize];exact hS.pro b hb,fun id' ob' h=>?_,hS.sft⟩,rfl,by simp [Cx.renM]⟩
 · have:=hS.lab b (fun hn=>by simp [Cx.renM,hn] at hb)
   rw [hsize];exact this
 · rcases getOb_append h with ⟨hlt,h'⟩|⟨rfl,rfl⟩
   · obtain ⟨hne',h''⟩:=getOb_kill h'
     refine (hS.obs id' ob' h'').keep s (by rw [hN];exact getOb_lt h'') (fun b hb hr=>by simp [Cx.renM,hr,hne']) (fun I' hI'=>?_) (fun _ b _ _ hp=>hother b (by rintro rfl;exact hp hor.par))
     obtain ⟨c',hor'⟩:=row_of hS h'' hI'
     have:I'.g≠I.g:=by
      intro he;have:=hor'.root;rw [he,hor.root] at this
      injection this with this
      exact hne' this.symm
     exact hother I'.g this
   · unfold OK
     have e1:(X.renM id I ρ).φ (S.set id none).length=some I:=by simp [Cx.renM,hN]
     rw [e1]
     refine ⟨c,hsz,hrows,by simp [Cx.renM,hor.root,hN],by simp [Cx.renM,hor.root,hor.par],hor.npro,⟨_,e,hrow,hR⟩,by rw [hsz];exact hfit,fun i j hi hj=>?_,fun i j hi hj=>?_⟩
     · have hj:j<ob.sz:=hj;have:=hcell i j hi hj;rw [hsz];simp only [World.cell?,hrow];simpa using this
     · have hj:j<ob.sz:=hj
       rw [if_neg (by simp),hsz]
       rcases hval i j hi hj with h0|⟨loc,h0,hl⟩
       · have := h0.keep s.toStp (fun b _ hr _ => by
           have:¬X.N=id:=fun k=>hne k.symm
           simp [Cx.renM,hr,this]) (fun _ b _ _ hp=>hother b (by rintro rfl;exact hp hor.par))
         simpa [hN] using this
       · have:=h0.reloc s.toStp (rid:=X.N) ρ (fun b off hp=>hρ b off (by rintro rfl;exact hp hor.par)) (fun b _ hr _=>by simp [Cx.renM,hr]) (fun _ b _ _ hp=>hother b (by rintro rfl;exact hp hor.par))
         rw [hl] at this;simpa [hN] using this
theorem laid_get (l x:List Value)(a:Nat)(ha:a≤l.length)(p:Nat):(l.take a++x++l.drop (a+x.length))[p]?=if p<a then l[p]? else if p<a+x.length then x[p-a]? else l[p]?:=by
 by_cases h1:p<a
 · rw [if_pos h1,List.append_assoc,List.getElem?_append_left (by rw [List.length_take];omega),List.getElem?_take_of_lt h1]
 · rw [if_neg h1]
   by_cases h2:p<a+x.length
   · rw [if_pos h2,List.append_assoc,List.getElem?_append_right (by rw [List.length_take];omega),List.getElem?_append_left (by rw [List.length_take];omega),List.length_take,Nat.min_eq_left ha]
   · rw [if_neg h2,List.getElem?_append_right (by rw [List.length_append,List.length_take];omega),List.getElem?_drop,List.length_append,List.length_take,Nat.min_eq_left ha]
     congr 1;omega
theorem rowB_get (cur:Array Value)(off i m sz:Nat)(vs:List Value)(hv:vs.length=m*sz)(h:off+i*sz≤cur.size)(p:Nat) :
    (rowB cur off i m sz vs)[p]?=if p<off+i*sz then cur[p]? else if p<off+i*sz+m*sz then vs[p-(off+i*sz)]? else cur[p]?:=by
 have:=laid_get cur.toList vs (off+i*sz) (by simpa using h) p
 rw [hv] at this;simpa [rowB,hv] using this
theorem rowA_get (cur:Array Value)(off i n m sz:Nat)(cs:List Value)(hv:cs.length=n*sz)(h:off+(i+m)*sz≤cur.size)(p:Nat) :
    (rowA cur off i n m sz cs)[p]?=if p<off+(i+m)*sz then cur[p]? else if p<off+(i+m)*sz+(n-i)*sz then cs[i*sz+(p-(off+(i+m)*sz))]? else cur[p]?:=by
 have hd:(cs.drop (i*sz)).length=(n-i)*sz:=by rw [List.length_drop,hv,Nat.sub_mul]
 have:=laid_get cur.toList (cs.drop (i*sz)) (off+(i+m)*sz) (by simpa using h) p
 rw [hd] at this;simpa [rowA,hd,List.getElem?_drop] using this
theorem rowA_size (cur:Array Value)(off i n m sz:Nat)(cs:List Value)(hv:cs.length=n*sz)(hi:i≤n)(h:off+(n+m)*sz≤cur.size):(rowA cur off i n m sz cs).size=cur.size:=by
 have e:(n+m)*sz=(i+m)*sz+(n-i)*sz:=by rw [←Nat.add_mul];congr 1;omega
 have hd:(cs.drop (i*sz)).length=(n-i)*sz:=by rw [List.length_drop,hv,Nat.sub_mul]
 simp only [rowA,List.size_toArray,List.length_append,List.length_take,List.length_drop,Array.length_toList,hv] at *;omega
theorem rowB_size (cur:Array Value)(off i m sz:Nat)(vs:List Value)(hv:vs.length=m*sz)(h:off+(i+m)*sz≤cur.size):(rowB cur off i m sz vs).size=cur.size:=by
 have e:(i+m)*sz=i*sz+m*sz:=Nat.add_mul _ _ _;simp only [rowB,List.size_toArray,List.length_append,List.length_take,List.length_drop,Array.length_toList,hv] at *;omega
def insC (co cn:Nat→Nat→Value)(i m:Nat)(a j:Nat):Value:=if a<i then co a j else if a<i+m then cn (a-i) j else co (a-m) j
theorem ins_at2 (E N:List (List AV))(i:Nat)(hi:i≤E.length)(a j:Nat) :
    at2 (E.take i++N++E.drop i) a j=if a<i then at2 E a j else if a<i+N.length then at2 N (a-i) j else at2 E (a-N.length) j:=by
 have hl:(E.take i).length=i:=by rw [List.length_take];omega
 rw [List.append_assoc,at2_append,hl]
 by_cases h1:a<i
 · rw [if_pos h1,if_pos h1];simp [at2,List.getD_eq_getElem?_getD,h1]
 · rw [if_neg h1,if_neg h1,at2_append]
   by_cases h2:a<i+N.length
   · rw [if_pos (by omega),if_pos h2]
   · rw [if_neg (by omega),if_neg h2]
     simp only [at2,List.getD_eq_getElem?_getD,List.getElem?_drop]
     have e:i+(a-i-N.length)=a-N.length:=by omega
     rw [e]
theorem ins_cells {co cn:Nat→Nat→Value}{sz i n m a j:Nat}(cs vs:List Value)(hcs:∀a j,a<n→j<sz→cs[a*sz+j]?=some (co a j))(hvs:∀a j,a<m→j<sz→vs[a*sz+j]?=some (cn a j))(R:Array Value)(off:Nat)(hi:i≤n)
    (hlo:∀p,p<i*sz→R[off+p]?=cs[p]?) (hmid:∀p,i*sz≤p→p<(i+m)*sz→R[off+p]?=vs[p-i*sz]?) (hhi:∀p,(i+m)*sz≤p→p<(n+m)*sz→R[off+p]?=cs[p-m*sz]?)
    (ha:a<n+m) (hj:j<sz):R[off+a*sz+j]?=some (insC co cn i m a j):=by
 have e1:(i+m)*sz=i*sz+m*sz:=Nat.add_mul _ _ _;unfold insC
 by_cases h1:a<i
 · have:=idx_lt (sz:=sz) h1 hj;rw [if_pos h1,Nat.add_assoc,hlo _ this]
   exact hcs a j (by omega) hj
 · rw [if_neg h1]
   have g1:i*sz≤a*sz:=Nat.mul_le_mul_right _ (by omega)
   by_cases h2:a<i+m
   · have:=idx_lt (sz:=sz) h2 hj
     rw [if_pos h2,Nat.add_assoc,hmid _ (by omega) this]
     have e:a*sz+j-i*sz=(a-i)*sz+j:=by rw [Nat.sub_mul];omega
     rw [e]
     exact hvs (a-i) j (by omega) hj
   · have:=idx_lt (sz:=sz) ha hj
     have g2:(i+m)*sz≤a*sz:=Nat.mul_le_mul_right _ (by omega)
     rw [if_neg h2,Nat.add_assoc,hhi _ (by omega) this]
     have e:a*sz+j-m*sz=(a-m)*sz+j:=by rw [Nat.sub_mul];omega
     rw [e]
     exact hcs (a-m) j (by omega) hj
theorem setRow_twice {g:Nat}{cur R1 R2:Array Value}{e:TypeId}(hb:w.heap[g]?=some (.cells cur e (0,0))):((w.setRow g R1).setRow g R2).heap=(w.setRow g R2).heap:=by
 apply Array.ext_getElem?
 intro i
 by_cases h:i=g
 · subst h;rw [setRow_heap _ _ R1 R2 e (0,0) (setRow_heap w i cur R1 e (0,0) hb),setRow_heap w i cur R2 e (0,0) hb]
 · rw [setRow_other _ g i _ h,setRow_other _ g i _ h,setRow_other _ g i _ h]
theorem alloc_setRow {R1 R2:Array Value}{e:TypeId}:((w.alloc (.cells R1 e (0,0))).setRow w.heap.size R2).heap=(w.alloc (.cells R2 e (0,0))).heap:=by
 have h0:∀R:Array Value,(w.alloc (.cells R e (0,0))).heap[w.heap.size]?=some (.cells R e (0,0)):=fun R=>by show (w.heap.push _)[w.heap.size]?=_;exact Array.getElem?_push_size
 apply Array.ext_getElem?
 intro i
 by_cases h:i=w.heap.size
 · subst h;rw [setRow_heap _ _ R1 R2 e (0,0) (h0 R1),h0]
 · rw [setRow_other _ _ i _ h];show (w.heap.push _)[i]?=(w.heap.push _)[i]?;rw [Array.getElem?_push,Array.getElem?_push,if_neg h,if_neg h]
theorem getOb_other {id id':Nat}{ob:Ob}(hne:id'≠id)(h:getOb S id'=some ob):getOb (S.set id none) id'=some ob:=by
 unfold getOb at h ⊢
 rw [List.getElem?_set_ne (fun k=>hne k.symm)]
 exact h
theorem isRow_other {id id':Nat}(hne:id'≠id):isRow (S.set id none) id'=isRow S id':=by
 unfold isRow getOb
 rw [List.getElem?_set_ne (fun k=>hne k.symm)]
theorem ins_ok (hT:TabOk P T){f t:Nat}(hi:InsOk P f t)(hS:SR T w X S){args:List AV}{us:List Value}(hl:args.length=us.length)(hv:∀i,i<args.length→VR w X (args.getD i .undef) (us.getD i Go.undef))
    (h:evIns T t args S=some (v,S')):Calls P f us.toArray w (fun e w'=>∃v' X',e=.returned v'∧Stn w X w' X'∧SR T w' X' S'∧VR w' X' v v'):=by
 unfold evIns at h;split at h
 rotate_left
 · cases h
 rename_i te s i vid m hte
 match us,hl,hv with
 | [u0,u1,u2],hl',hv =>
 clear hl'
 have h0:VR w X s u0:=by simpa using hv 0 (by simp)
 have h1:VR w X (.int .i64 i) u1:=by simpa using hv 1 (by simp)
 have h2:VR w X (.sl vid 0 m) u2:=by simpa using hv 2 (by simp)
 cases h1;clear hv;obtain ⟨e,hu,hok,hpos,hby⟩:=hT.elemSlice hte;obtain ⟨i0,zv,hinfo,hsz,hb,hz,hzc,_,_⟩:=hok.run_info
 have hzs:zv.cells.size=i0.size:=by rw [←Array.length_toList,hzc,hsz];simp [hok.zlen]
 have A:=hi e i0 zv hu hinfo hz hzs (by omega) (by omega)
 have hmr:maxRow=68719476736:=rfl;split at h
 · cases h
 rename_i vob hvrow;split at h
 rotate_left
 · cases h
 rename_i hc;obtain ⟨hlit,hvsz,hvm,hm⟩:=hc;obtain ⟨hvob,hvkd⟩:=isRow_ob hvrow
 cases h2 with
 | slz id lo A' hid=>omega
 | sl id' lo n' vcap Iv hvid hIv hvn hvcap hvmax =>
 have atEnd : ∀ (n : Nat), (i : Int) = (n : Int) → ∀ (A' : Option Addr) (c : Nat), u0 = .slice A' n c → n ≤ c → c ≤ maxLen → (A' = none → n = 0 ∧ c = 0) → evAppend T t s (.sl vid 0 m) S = some (v, S') →
     Calls P f [u0,.int .i64 i,.slice (some ⟨Iv.g,Iv.o+0*Iv.sz,none⟩) m vcap].toArray w (fun e w'=>∃v' X',e=.returned v'∧Stn w X w' X'∧SR T w' X' S'∧VR w' X' v v'):=by
  intro n hin A' c hu0 hnc hcm hnil happ;obtain ⟨v',w1,X',hrun,k1,k2,k3⟩:=append_ok (P:=P) (ty:=t) hT hS h0 (VR.sl vid 0 m vcap Iv hvid hIv hvn hvcap hvmax) happ;subst hu0;rw [hin]
  refine (A.atEnd A' n c _ _ m vcap w w1 v' hm hnc (by unfold maxLen at hcm;omega) hnil hrun).mono ?_
  rintro r w' ⟨rfl,rfl⟩
  exact ⟨v',X',rfl,k1,k2,k3⟩
 split at h
 · 
   split at h
   rotate_left
   · cases h
   rename_i hi0;cases h0
   exact atEnd 0 (by omega) none 0 rfl (Nat.le_refl _) (by unfold maxLen;omega) (fun _=>⟨rfl,rfl⟩) h
 · rename_i id n;split at h
   · cases h
   rename_i ob hrow;split at h
   rotate_left
   · cases h
   rename_i hc;obtain ⟨hne,hobsz,hn,hi1,hi2,hbig⟩:=hc;obtain ⟨hob,hkd⟩:=isRow_ob hrow;obtain ⟨k,rfl⟩:=Int.eq_ofNat_of_zero_le hi1
   have hkn:k≤n:=by omega
   by_cases hkn2:k=n
   · 
     have happ:evAppend T t (.sl id 0 n) (.sl vid 0 m) S=some (v,S'):=by
      rw [←h];unfold evAppend;rw [hte]
      have hsrc:sourceOf T S (te.es.any (· != 0)) te.size (.sl vid 0 m)=some (vob.els,S.set vid none):=by
       unfold sourceOf;simp [hvrow,hlit,hvm,hvsz]
      simp only [hsrc,isRow_other hne,hrow]
      rw [if_pos ⟨hobsz,by omega,by omega⟩]
      simp only [List.length_set,Int.toNat_natCast,List.drop_zero,hkn2]
      rw [List.take_of_length_le (by omega),List.drop_of_length_le (by omega),List.append_nil,hvm]
     cases h0 with
     | sl id lo n cap I hid hI hn' hcap hmax=>exact atEnd n (by omega) _ cap rfl hn' hmax (fun hh=>by cases hh) happ
     | slz id lo A' hid=>exact atEnd 0 (by omega) A' 0 rfl (Nat.le_refl _) (by unfold maxLen;omega) (fun _=>⟨rfl,rfl⟩) happ
   have hlt:k<n:=by omega
   cases h0 with
   | slz id lo A' hid=>omega
   | sl id lo n cap I hid hI hn' hcap hmax =>
   clear atEnd;cases h;simp only [Int.toNat_natCast];obtain ⟨co,hor⟩:=row_of hS hob hI;obtain ⟨cn,horv⟩:=row_of hS hvob hIv;obtain ⟨cur,eb,hblk,hcs⟩:=hor.blk;obtain ⟨vcur,ev,hvblk,hvcs⟩:=horv.blk;have hIsz:=hor.sz;have hIvsz:=horv.sz
   have hgne:Iv.g≠I.g:=by
    intro he;have:=horv.root;rw [he,hor.root] at this
    injection this with this
    exact hne this
   have hN:=hS.n;have hidlt:=getOb_lt hob;have hvidlt:=getOb_lt hvob
   have z1:I.o+0*I.sz=I.o:=by omega
   have z2:Iv.o+0*Iv.sz=Iv.o:=by omega
   rw [z1,z2]
   have rcs:∀j u,(flat n te.size co)[j]?=some u→w.cell? ⟨I.g,I.o+j,none⟩=some u:=fun j u hj=>by
    have:=flat_read (g:=I.g) (p:=I.o) (w:=w) (fun a j ha hj=>by have:=hor.cell a j (by omega) (by omega);rw [hIsz,hobsz] at this;exact this) j u hj
    simpa [Addr_add] using this
   have rvs:∀j u,(flat m te.size cn)[j]?=some u→w.cell? ⟨Iv.g,Iv.o+j,none⟩=some u:=fun j u hj=>by
    have:=flat_read (g:=Iv.g) (p:=Iv.o) (w:=w) (fun a j ha hj=>by have:=horv.cell a j (by omega) (by omega);rw [hIvsz,hvsz] at this;exact this) j u hj
    simpa [Addr_add] using this
   have crO:∀a j,a<n→j<te.size→CR w X id (I.g,I.o+a*te.size+j) (at2 ob.els a j) (co a j):=fun a j ha hj=>by
    have h0:=hor.val a j (by omega) (by omega)
    rw [if_neg hkd,hIsz,hobsz] at h0;exact h0
   have crV:∀a j,a<m→j<te.size→CR w X vid (Iv.g,Iv.o+a*te.size+j) (at2 vob.els a j) (cn a j):=fun a j ha hj=>by
    have h0:=horv.val a j (by omega) (by omega)
    rw [if_neg hvkd,hIvsz,hvsz] at h0;exact h0
   have one:∀(q:Nat) (cc:Nat→Nat→Value),(∀a j,a<q→j<te.size→(cc a j).oneCell'=true)→∀u∈flat q te.size cc,u.oneCell'=true:=fun q cc hcc u hu=>by
    obtain ⟨z,hzl,rfl⟩:=List.mem_iff_getElem.1 hu;rw [flat_length] at hzl;obtain ⟨h1,h2,_⟩:=flat_split hzl;have hg:=flat_get (c:=cc) hzl
    rw [List.getElem?_eq_getElem (by rw [flat_length];exact hzl)] at hg
    injection hg with hg
    rw [hg];exact hcc _ _ h1 h2
   have oc:=one n co fun a j ha hj=>(crO a j ha hj).one
   have ov:=one m cn fun a j ha hj=>(crV a j ha hj).one
   have lc:(flat n te.size co).length=n*i0.size:=by rw [flat_length,hsz]
   have lv:(flat m te.size cn).length=m*i0.size:=by rw [flat_length,hsz]
   have ec:∀a j,a<n→j<te.size→(flat n te.size co)[a*te.size+j]?=some (co a j):=fun a j ha hj=>flat_at ha hj
   have evv:∀a j,a<m→j<te.size→(flat m te.size cn)[a*te.size+j]?=some (cn a j):=fun a j ha hj=>flat_at ha hj
   have lels:(ob.els.take k++vob.els++ob.els.drop k).length=n+m:=by simp;omega
   have rels:∀r∈ob.els.take k++vob.els++ob.els.drop k,r.length=te.size:=fun r hr=>by
    rcases List.mem_append.1 hr with h|h
    · rcases List.mem_append.1 h with h|h
      · exact (hor.rows r (List.mem_of_mem_take h)).trans hobsz
      · exact (horv.rows r h).trans hvsz
    · exact (hor.rows r (List.mem_of_mem_drop h)).trans hobsz
   have e1:(k+m)*te.size=k*te.size+m*te.size:=Nat.add_mul _ _ _
   have e2:(n+m)*te.size=(k+m)*te.size+(n-k)*te.size:=by rw [←Nat.add_mul];congr 1;omega
   by_cases hroom:n+m≤cap
   · 
     have hfit:I.o+cap*te.size≤cur.size:=by
      rw [hcs];have:=hcap;rw [Nat.zero_add,hIsz,hobsz] at this;exact this
     have e3:(n+m)*te.size≤cap*te.size:=Nat.mul_le_mul_right _ hroom
     refine (A.shift I.g I.o n cap k Iv.g Iv.o m vcap cur vcur eb ev w hlt hm hroom (by unfold maxLen at hmax;omega) hgne hblk hvblk (by rw [hsz];exact hfit) _ _ lc lv rcs rvs oc ov).mono ?_
     rintro r w' ⟨rfl,hw'⟩
     rw [hsz] at hw';generalize hRA:rowA cur I.o k n m te.size (flat n te.size co)=RA at hw'
     have sRA:RA.size=cur.size:=by rw [←hRA];exact rowA_size _ _ _ _ _ _ _ (flat_length _ _ _) hkn (by omega)
     generalize hRB:rowB RA I.o k m te.size (flat m te.size cn)=RB at hw'
     have sRB:RB.size=cur.size:=by rw [←hRB,rowB_size _ _ _ _ _ _ (flat_length _ _ _) (by omega),sRA]
     have gA:=fun p=>rowA_get cur I.o k n m te.size (flat n te.size co) (flat_length _ _ _) (by omega) p
     rw [hRA] at gA
     have gB:=fun p=>rowB_get RA I.o k m te.size (flat m te.size cn) (flat_length _ _ _) (by omega) p
     rw [hRB] at gB
     have gcur:∀p,p<n*te.size→cur[I.o+p]?=(flat n te.size co)[p]?:=fun p hp=>by
      have hg:=flat_get (c:=co) hp;have:=rcs p _ hg;rw [hg];simpa [World.cell?,hblk] using this
     have e4:k*te.size≤n*te.size:=Nat.mul_le_mul_right _ hkn
     have hcells:∀a j,a<n+m→j<te.size→RB[I.o+a*te.size+j]?=some (insC co cn k m a j):=fun a j ha hj =>
      ins_cells (flat n te.size co) (flat m te.size cn) ec evv RB I.o hkn
       (fun p hp=>by rw [gB,if_pos (by omega),gA,if_pos (by omega)];exact gcur p (by omega))
       (fun p h1 h2=>by rw [gB,if_neg (by omega),if_pos (by omega)];congr 1;omega)
       (fun p h1 h2=>by rw [gB,if_neg (by omega),if_neg (by omega),gA,if_neg (by omega),if_pos (by omega)];congr 1;omega) ha hj
     have hS1:=sr_move hS vid X.N Iv.g (fun l=>if l.1=Iv.g then (I.g,I.o+k*te.size+(l.2-Iv.o)) else l)
     have s1:Stn w X w (X.move vid X.N Iv.g (fun l=>if l.1=Iv.g then (I.g,I.o+k*te.size+(l.2-Iv.o)) else l)):=stn_move
     obtain ⟨X2,s2,hS2,hN2,hφ2⟩:=place_ok hS1 (getOb_other hne hob) (I:=I) hI hblk (w':=w') (R:=RB)
      (by rw [hw'];exact setRow_twice (w:=w.drew) hblk) (by rw [hw'];rfl) (by rw [hw'];exact ⟨rfl,Nat.le_succ _⟩) (by rw [hw'];rfl) (by rw [sRB,hcs])
      (fun l=>if l.1=I.g then (if l.2<I.o+k*te.size then l else (l.1,l.2+m*te.size)) else l) (fun b off hb=>by simp [hb])
      (els:=ob.els.take k++vob.els++ob.els.drop k) (c:=insC co cn k m) (fun r hr=>(rels r hr).trans hobsz.symm) (by rw [lels,hobsz,←hcs];omega)
      (fun a j ha hj=>by rw [lels] at ha;rw [hobsz] at hj ⊢;exact hcells a j ha hj)
      (fun a j ha hj=>by
       rw [lels] at ha;rw [hobsz] at hj ⊢
       rw [ins_at2 _ _ _ (by omega),←hvm]
       unfold insC
       by_cases h1:a<k
       · rw [if_pos h1,if_pos h1]
         refine .inr ⟨_,cr_move_other hne (crO a j (by omega) hj),?_⟩
         have:=idx_lt (sz:=te.size) h1 hj;simp only [if_true]
         rw [if_pos (by omega)]
       · rw [if_neg h1,if_neg h1]
         have g1:k*te.size≤a*te.size:=Nat.mul_le_mul_right _ (by omega)
         by_cases h2:a<k+m
         · rw [if_pos h2,if_pos h2];refine .inl ?_
           have h0:=cr_move (rid:=X.N) horv.par (ρ:=fun l=>if l.1=Iv.g then (I.g,I.o+k*te.size+(l.2-Iv.o)) else l) (fun b off hb=>by simp [hb]) (crV (a-k) j (by omega) hj)
           simp only [if_true] at h0
           have he:I.o+k*te.size+(Iv.o+(a-k)*te.size+j-Iv.o)=I.o+a*te.size+j:=by rw [Nat.sub_mul];omega
           rw [he] at h0;exact h0
         · rw [if_neg h2,if_neg h2]
           refine .inr ⟨_,cr_move_other hne (crO (a-m) j (by omega) hj),?_⟩
           have g2:(k+m)*te.size≤a*te.size:=Nat.mul_le_mul_right _ (by omega)
           have g3:(a-m)*te.size=a*te.size-m*te.size:=Nat.sub_mul _ _ _;simp only [if_true]
           rw [if_neg (by omega)]
           congr 1;omega)
     refine ⟨_,X2,rfl,s1.trans s2,by rw [←hobsz];exact hS2,?_⟩
     have hφ3:X2.φ S.length=some I:=by rw [←hN];exact hφ2
     have:=VR.sl (w:=w') (X:=X2) S.length 0 (n+m) cap I (by rw [hN2];show S.length<X.N+1;omega) hφ3 hroom hcap hmax
     rw [z1] at this;exact this
   · 
     have hbb:(n+m)*i0.bytes≤140737488355328:=by rw [hb];exact mul_le_bytes (by omega) hby
     have hml:n+m≤maxLen:=by unfold maxLen;omega
     refine (A.grow I.g I.o n cap k Iv.g Iv.o m vcap w hlt hm hn' (by omega) hbb hml _ _ lc lv rcs rvs oc ov).mono ?_
     rintro r w' ⟨rfl,hw'⟩
     rw [hsz] at hw';have hGe:=grownCap_ge w (n+m) cap e;have hGl:=grownCap_le_maxLen w (n+m) cap e hml;generalize grownCap w (n+m) cap e=G at *;have e3:(n+m)*te.size≤G*te.size:=Nat.mul_le_mul_right _ hGe;have e4:k*te.size≤n*te.size:=Nat.mul_le_mul_right _ hkn;generalize hRZ:rowZ k n m te.size G (flat n te.size co) zv=RZ at hw'
     have sRZ:RZ.size=G*te.size:=by
      rw [←hRZ];simp only [rowZ,Array.size_append,List.size_toArray,List.length_take,flat_length,size_zeroCells];rw [hzs,hsz,Nat.min_eq_left e4,←Nat.add_mul,←Nat.add_mul]
      congr 1;omega
     have gZ:∀p,p<k*te.size→RZ[p]?=(flat n te.size co)[p]?:=fun p hp=>by
      rw [←hRZ];unfold rowZ
      rw [Array.append_assoc,Array.getElem?_append_left (by rw [List.size_toArray,List.length_take,flat_length];omega)]
      rw [List.getElem?_toArray,List.getElem?_take_of_lt hp]
     generalize hRB:rowB RZ 0 k m te.size (flat m te.size cn)=RB at hw'
     have sRB:RB.size=RZ.size:=by rw [←hRB];exact rowB_size _ _ _ _ _ _ (flat_length _ _ _) (by omega)
     generalize hRA:rowA RB 0 k n m te.size (flat n te.size co)=RA at hw'
     have sRA:RA.size=RZ.size:=by rw [←hRA,rowA_size _ _ _ _ _ _ _ (flat_length _ _ _) hkn (by omega),sRB]
     have gB:=fun p=>rowB_get RZ 0 k m te.size (flat m te.size cn) (flat_length _ _ _) (by omega) p
     rw [hRB] at gB
     have gA:=fun p=>rowA_get RB 0 k n m te.size (flat n te.size co) (flat_length _ _ _) (by omega) p
     rw [hRA] at gA
     have hcells:∀a j,a<n+m→j<te.size→RA[0+a*te.size+j]?=some (insC co cn k m a j):=fun a j ha hj =>
      ins_cells (flat n te.size co) (flat m te.size cn) ec evv RA 0 hkn
       (fun p hp=>by rw [gA,if_pos (by omega),gB,if_pos (by omega),Nat.zero_add];exact gZ p hp)
       (fun p h1 h2=>by rw [gA,if_pos (by omega),gB,if_neg (by omega),if_pos (by omega)];congr 1;omega)
       (fun p h1 h2=>by rw [gA,if_neg (by omega),if_pos (by omega)];congr 1;omega) ha hj
     have hRow:RA=(flat (ob.els.take k++vob.els++ob.els.drop k).length te.size (insC co cn k m)).toArray++(flat ([]:List (List AV)).length te.size (fun _ _=>Go.undef)).toArray++(RA.toList.drop ((n+m)*te.size)).toArray:=by
      apply Array.ext_getElem?
      intro p;rw [lels,List.length_nil]
      have hf0:flat 0 te.size (fun _ _=>Go.undef)=[]:=by simp [flat]
      rw [hf0]
      by_cases hp:p<(n+m)*te.size
      · rw [Array.append_assoc,Array.getElem?_append_left (by rw [List.size_toArray,flat_length];exact hp),show (flat (n+m) te.size (insC co cn k m)).toArray[p]?=(flat (n+m) te.size (insC co cn k m))[p]? by simp,flat_get hp]
        obtain ⟨h1,h2,h3⟩:=flat_split hp;have:=hcells _ _ h1 h2;rw [Nat.zero_add,←h3] at this;exact this
      · rw [Array.append_assoc,Array.getElem?_append_right (by rw [List.size_toArray,flat_length];omega),List.size_toArray,flat_length]
        have:([]:List Value).toArray++(RA.toList.drop ((n+m)*te.size)).toArray=(RA.toList.drop ((n+m)*te.size)).toArray:=by simp
        rw [this,show (RA.toList.drop ((n+m)*te.size)).toArray[p-(n+m)*te.size]?=(RA.toList.drop ((n+m)*te.size))[p-(n+m)*te.size]? by simp,List.getElem?_drop,Array.getElem?_toList]
        congr 1;omega
     have hS1:=sr_move hS vid X.N Iv.g (fun l=>if l.1=Iv.g then (w.heap.size,k*te.size+(l.2-Iv.o)) else l)
     have s1:Stn w X w (X.move vid X.N Iv.g (fun l=>if l.1=Iv.g then (w.heap.size,k*te.size+(l.2-Iv.o)) else l)):=stn_move
     generalize hX1:X.move vid X.N Iv.g (fun l=>if l.1=Iv.g then (w.heap.size,k*te.size+(l.2-Iv.o)) else l)=X1 at hS1 s1
     have hX1N:X1.N=X.N:=by rw [←hX1];rfl
     have hpar1:X1.par I.g=none:=by
      rw [←hX1];simp only [Cx.move,hor.root,hor.par]
      split<;>rfl
     have hS2:=sr_move hS1 id X.N I.g (fun l=>if l.1=I.g then (w.heap.size,if l.2<I.o+k*te.size then l.2-I.o else l.2-I.o+m*te.size) else l)
     have s2:Stn w X1 w (X1.move id X.N I.g (fun l=>if l.1=I.g then (w.heap.size,if l.2<I.o+k*te.size then l.2-I.o else l.2-I.o+m*te.size) else l)):=stn_move
     have hne2:X.N≠id:=by omega
     obtain ⟨X3,s3,hS3,hN3,hφ3⟩:=grow_ok hS2 (e:=e) (sz:=te.size) (os:=ob.els.take k++vob.els++ob.els.drop k) (news:=[]) (co:=insC co cn k m) (c:=fun _ _=>Go.undef) (RA.toList.drop ((n+m)*te.size)).toArray rels (by simp)
      (fun a j ha hj=>by
       rw [lels] at ha
       rw [ins_at2 _ _ _ (by omega),←hvm]
       show CR w (X1.move id X.N I.g _) X1.N _ _ _;rw [hX1N];unfold insC
       by_cases h1:a<k
       · rw [if_pos h1,if_pos h1]
         have h0:=cr_move_other (id:=vid) (rid:=X.N) (g:=Iv.g) (ρ:=fun l=>if l.1=Iv.g then (w.heap.size,k*te.size+(l.2-Iv.o)) else l) hne (crO a j (by omega) hj)
         rw [hX1] at h0
         have h5:=cr_move (rid:=X.N) hpar1 (ρ:=fun l=>if l.1=I.g then (w.heap.size,if l.2<I.o+k*te.size then l.2-I.o else l.2-I.o+m*te.size) else l) (fun b off hb=>by simp [hb]) h0
         have:=idx_lt (sz:=te.size) h1 hj;simp only [if_true] at h5
         rw [if_pos (by omega)] at h5
         have he:I.o+a*te.size+j-I.o=0+a*te.size+j:=by omega
         rw [he] at h5;exact h5
       · rw [if_neg h1,if_neg h1]
         have g1:k*te.size≤a*te.size:=Nat.mul_le_mul_right _ (by omega)
         by_cases h2:a<k+m
         · rw [if_pos h2,if_pos h2]
           have h0:=cr_move (rid:=X.N) horv.par (ρ:=fun l=>if l.1=Iv.g then (w.heap.size,k*te.size+(l.2-Iv.o)) else l) (fun b off hb=>by simp [hb]) (crV (a-k) j (by omega) hj)
           simp only [if_true] at h0
           have he:k*te.size+(Iv.o+(a-k)*te.size+j-Iv.o)=0+a*te.size+j:=by rw [Nat.sub_mul];omega
           rw [he,hX1] at h0;exact cr_move_other hne2 h0
         · rw [if_neg h2,if_neg h2]
           have g2:(k+m)*te.size≤a*te.size:=Nat.mul_le_mul_right _ (by omega)
           have g3:(a-m)*te.size=a*te.size-m*te.size:=Nat.sub_mul _ _ _
           have h0:=cr_move_other (id:=vid) (rid:=X.N) (g:=Iv.g) (ρ:=fun l=>if l.1=Iv.g then (w.heap.size,k*te.size+(l.2-Iv.o)) else l) hne (crO (a-m) j (by omega) hj)
           rw [hX1] at h0
           have h5:=cr_move (rid:=X.N) hpar1 (ρ:=fun l=>if l.1=I.g then (w.heap.size,if l.2<I.o+k*te.size then l.2-I.o else l.2-I.o+m*te.size) else l) (fun b off hb=>by simp [hb]) h0
           simp only [if_true] at h5
           rw [if_neg (by omega)] at h5
           have he:I.o+(a-m)*te.size+j-I.o+m*te.size=0+a*te.size+j:=by omega
           rw [he] at h5
           exact h5) (by simp)
     rw [←hRow] at s3 hS3 hφ3;rw [List.append_nil] at hS3
     obtain ⟨s4,hS4⟩:=sr_heap (w':=w') hS3 (by
      rw [hw'];refine (setRow_twice (w:=((w.alloc (.cells RZ e)))) (R1:=RB) (R2:=RA) (cur:=RZ) (e:=e) ?_).trans alloc_setRow;show (w.heap.push _)[w.heap.size]?=_
      exact Array.getElem?_push_size) (by rw [hw'];rfl) (by rw [hw'];exact ⟨rfl,Nat.le_succ _⟩) (by rw [hw'];rfl)
     refine ⟨_,X3,rfl,((s1.trans s2).trans s3).trans s4,hS4,?_⟩
     have hX2N:(X1.move id X.N I.g (fun l=>if l.1=I.g then (w.heap.size,if l.2<I.o+k*te.size then l.2-I.o else l.2-I.o+m*te.size) else l)).N=S.length:=by show X1.N=_;rw [hX1N,hN]
     rw [hX2N] at hφ3 hN3
     exact VR.fresh (g:=w.heap.size) (sz:=te.size) rfl (by omega) hφ3 hGe (by rw [sRA,sRZ];exact Nat.le_refl _) hGl
 · cases h
end Go.Pi

namespace Go.Pi
open Go
variable {P:Program} {T:Tab} {o:Oper} {a:Act} {w w':World} {X X':Cx} {fr:Fr} {S S':St} {v:AV} {C:Nat→List AV→St→Option (AV×St)} {mb:Nat}
theorem fold_ok {f:AV→AV→Option AV}{g:Value→Value→Sem Value}(hfg:∀ {x y z:AV} {xv yv:Value},f x y=some z→VR w X x xv→VR w X y yv→∃zv,(g xv yv).run P w=.ok zv w∧VR w X z zv) :
    ∀(l:List AV) (us:List Value) (x z:AV) (xv:Value),l.length=us.length→(∀i,i<l.length→VR w X (l.getD i .undef) (us.getD i Go.undef))→foldO f x l=some z→VR w X x xv →
    ∃zv,(us.foldlM g xv).run P w=.ok zv w∧VR w X z zv:=by
 intro l
 induction l with
 | nil =>
  intro us x z xv hl hv h hx
  cases us with
  | nil=>simp only [foldO,Option.some.injEq] at h;subst h;exact ⟨xv,by simp,hx⟩
  | cons _ _=>simp at hl
 | cons y l ih =>
  intro us x z xv hl hv h hx
  cases us with
  | nil=>simp at hl
  | cons u us =>
   simp only [foldO] at h;split at h
   · cases h
   · rename_i c hc
     obtain ⟨cv,h1,h2⟩:=hfg hc hx (by simpa using hv 0 (by simp))
     obtain ⟨zv,h3,h4⟩:=ih us c z cv (by simpa using hl) (fun i hi=>by simpa using hv (i+1) (by simpa using hi)) h h2
     exact ⟨zv,by simp [List.foldlM_cons,h1,h3],h4⟩
theorem min2_ok {x y z:AV}{xv yv:Value}(h:min2 x y=some z)(hx:VR w X x xv)(hy:VR w X y yv):∃zv,(Builtin.min2 xv yv).run P w=.ok zv w∧VR w X z zv:=by
 unfold min2 at h
 split at h<;>cases h
 rw [hx.int_inv,hy.int_inv]
 exact ⟨_,by simp [Builtin.min2],.int _ _⟩
theorem max2_ok {x y z:AV}{xv yv:Value}(h:max2 x y=some z)(hx:VR w X x xv)(hy:VR w X y yv):∃zv,(Builtin.max2 xv yv).run P w=.ok zv w∧VR w X z zv:=by
 unfold max2 at h
 split at h<;>cases h
 rw [hx.int_inv,hy.int_inv]
 exact ⟨_,by simp [Builtin.max2],.int _ _⟩
theorem len_ok (hT:TabOk P T){t:Nat}{ty:TypeId}{x:AV}{xv:Value}{n:Nat}(hx:VR w X x xv)(h:evLen T t x=some n) :
    (Builtin.len_ #[t] ty #[xv]).run P w=.ok (.int .i64 n) w:=by
 unfold evLen at h;split at h
 · split at h<;>cases h
   rename_i hb;rw [hx.str_inv];simp [Builtin.len_,run_underlying (hT.baseStr hb),goInt]
 · split at h<;>cases h
   rename_i te hte;obtain ⟨e,hu,_⟩:=hT.elemSlice hte;rw [hx.nil_inv];simp [Builtin.len_,run_underlying hu,goInt]
 · split at h<;>cases h
   rename_i te hte;obtain ⟨e,hu,_⟩:=hT.elemSlice hte
   cases hx<;>simp [Builtin.len_,run_underlying hu,goInt]
 · split at h<;>cases h
   rename_i te hte;obtain ⟨e,hu,_⟩:=hT.elemSlice hte
   cases hx with
   | ts q hq sz els v hr=>cases hr;simp [Builtin.len_,run_underlying hu,goInt]
 · cases h
theorem isRow_some {S:St}{id:Nat}{ob:Ob}(h:isRow S id=some ob):getOb S id=some ob∧ob.kd≠.box:=by
 unfold isRow at h;split at h
 · rename_i ob' h'
   split at h<;>cases h
   rename_i hk;exact ⟨h',hk⟩
 · cases h
theorem sr_cut (hS:SR T w X S){id:Nat}{ob:Ob}(hob:getOb S id=some ob)(hk:ob.kd≠.box)(lo:Nat):SR T w X (S.set id (some { ob with els:=ob.els.take lo })):=by
 refine ⟨by simp [hS.n],hS.lab,hS.pro,fun id' ob' h=>?_,hS.sft⟩
 rcases getOb_set h with ⟨rfl,rfl⟩|⟨hne,h'⟩
 · have hok:=hS.obs _ _ hob;unfold OK at hok ⊢;split at hok
   · exact ⟨by simp [hok.1],hk⟩
   · rename_i I hI;obtain ⟨c,hor⟩:=hok;have hl:(ob.els.take lo).length≤ob.els.length:=List.length_take_le' lo ob.els
     have hat:∀i j,i<(ob.els.take lo).length→at2 (ob.els.take lo) i j=at2 ob.els i j:=by
      intro i j hi
      have hi':i<lo:=by rw [List.length_take] at hi;omega
      have:=at2_window (els:=ob.els) (lo:=0) (n:=lo) hi' j;simpa [window] using this
     refine ⟨c,hor.sz,fun r hr=>hor.rows r (List.mem_of_mem_take hr),hor.root,hor.par,hor.npro,hor.blk,?_,fun i j hi hj=>hor.cell i j (Nat.lt_of_lt_of_le hi hl) hj,fun i j hi hj=>?_⟩
     · have:=hor.fits;have h2:(ob.els.take lo).length*I.sz≤ob.els.length*I.sz:=Nat.mul_le_mul_right _ hl;show I.o+(ob.els.take lo).length*I.sz≤I.size;omega
     · have:=hor.val i j (Nat.lt_of_lt_of_le hi hl) hj
       show if ob.kd=.box then VR w X (at2 (ob.els.take lo) i j) (c i j) else CR w X _ _ (at2 (ob.els.take lo) i j) (c i j)
       rw [hat i j hi];exact this
 · exact hS.obs id' ob' h'
theorem clear_ok (hT:TabOk P T)(hS:SR T w X S){t:Nat}{ty:TypeId}{id lo n:Nat}{xv:Value}(hx:VR w X (.sl id lo n) xv)(h:evClear T t id lo n S=some S') :
    ∃w',(Builtin.clear_ #[t] ty #[xv]).run P w=.ok (.tuple #[]) w'∧Stn w X w' X∧SR T w' X S':=by
 unfold evClear at h;split at h
 rotate_left
 · cases h
 rename_i ob te hrow hte
 split at h<;>cases h
 rename_i hc;obtain ⟨hln,hsz⟩:=hc;obtain ⟨hob,hk⟩:=isRow_some hrow;obtain ⟨e,hu,hok,hpos,hby⟩:=hT.elemSlice hte;have hcut:=sr_cut hS hob hk lo
 have still:n=0→(Builtin.clear_ #[t] ty #[xv]).run P w=.ok (.tuple #[]) w→∃w',(Builtin.clear_ #[t] ty #[xv]).run P w=.ok (.tuple #[]) w'∧Stn w X w' X∧SR T w' X (S.set id (some { ob with els:=ob.els.take lo })) :=
  fun _ hr=>⟨w,hr,Stn.refl w X,hcut⟩
 cases hx with
 | slz id lo A hid=>exact still rfl (by cases A<;>simp [Builtin.clear_,run_underlying hu])
 | sl id lo n cap I hid hI hn hcap hm =>
  by_cases hz:n=0
  · exact still hz (by subst hz;simp [Builtin.clear_,run_underlying hu])
  obtain ⟨i,zv,hi,hs,hb,hz',hzc,e1,e2⟩:=hok.run_info;obtain ⟨c0,hor⟩:=row_of hS hob hI;obtain ⟨cur,e',hblk,hcs⟩:=hor.blk;have hszI:=hor.sz
  have hzs:zv.cells.size=te.size:=by
   have:=congrArg List.length hzc;simp only [List.length_map,Array.length_toList] at this;rw [this];exact hok.zlen
  obtain ⟨vs,hvs⟩:∃vs,(Builtin.zeroCells zv.cells n).toList=vs:=⟨_,rfl⟩
  have hvl:vs.length=n*te.size:=by rw [←hvs];simp [Builtin.zeroCells,hzs]
  have hone:∀v∈vs,v.oneCell'=true:=by
   intro v hv;rw [←hvs] at hv;simp only [Builtin.zeroCells,Array.toList_map,List.mem_map] at hv;obtain ⟨k,_,rfl⟩:=hv
   have hlt:k % zv.cells.size<zv.cells.size:=Nat.mod_lt _ (by omega)
   have hm:zv.cells[k % zv.cells.size]! ∈ zv.cells.toList:=by
    rw [getElem!_pos zv.cells _ hlt];exact Array.getElem_mem_toList hlt
   rw [hzc] at hm;obtain ⟨z,hz1,hz2⟩:=List.mem_map.1 hm;rw [←hz2];have:=List.all_eq_true.1 hok.zok z hz1
   exact (zOf_ok w X this).one (by cases z<;>simp [zOk] at this<;>simp) (by cases z<;>simp [zOk] at this<;>simp)
  have hfit:I.o+lo*I.sz+vs.length≤cur.size:=by
   have h1:=hor.fits;rw [←hln,Nat.add_mul] at h1;rw [hvl,hsz,←hszI];omega
  have hst:=run_storeCells_at P I.g (I.o+lo*I.sz) e' vs 0 cur w hblk (by simpa using hfit) hone
  simp only [Nat.add_zero] at hst
  have hnew:(cur.toList.take (I.o+lo*I.sz)++vs++cur.toList.drop (I.o+lo*I.sz+vs.length)).toArray.size=cur.size:=by simp;omega
  obtain ⟨s, hS2⟩ := sr_setRow (new := (cur.toList.take (I.o + lo * I.sz) ++ vs ++ cur.toList.drop (I.o + lo * I.sz + vs.length)).toArray) (ob' := { ob with els := ob.els.take lo }) hcut (id := id) (ob := { ob with els := ob.els.take lo }) (by unfold getOb; rw [List.getElem?_set_self (getOb_lt hob)]) hI hblk hnew rfl rfl rfl (fun r hr => hor.rows r (List.mem_of_mem_take hr)) c0 (fun i j hi hj => by
      have hi':i<lo∧i<ob.els.length:=by rw [List.length_take] at hi;omega
      have hcell:=hor.cell i j hi'.2 hj
      have hlt:I.o+i*I.sz+j<I.o+lo*I.sz:=by
       have:(i+1)*I.sz≤lo*I.sz:=Nat.mul_le_mul_right _ hi'.1;rw [Nat.add_mul] at this
       have:j<I.sz:=by rw [hszI];exact hj
       omega
      rw [List.getElem?_toArray,List.append_assoc,List.getElem?_append_left (by rw [List.length_take,Array.length_toList];omega),List.getElem?_take_of_lt hlt,Array.getElem?_toList]
      simp only [World.cell?,hblk] at hcell
      simpa using hcell) (fun i j hi hj=>by
      have hok2:=hcut.obs id { ob with els:=ob.els.take lo } (by unfold getOb;rw [List.getElem?_set_self (getOb_lt hob)])
      have hi':i<lo∧i<ob.els.length:=by rw [List.length_take] at hi;omega
      have:=hor.val i j hi'.2 hj
      have hat:at2 (ob.els.take lo) i j=at2 ob.els i j:=by
       have:=at2_window (els:=ob.els) (lo:=0) (n:=lo) hi'.1 j;simpa [window] using this
      show if ob.kd=.box then VR w X (at2 (ob.els.take lo) i j) (c0 i j) else CR w X _ _ (at2 (ob.els.take lo) i j) (c0 i j)
      rw [hat];exact this)
  rw [List.set_set] at hS2;refine ⟨_,?_,s,hS2⟩;have hn0:n≠0:=hz
  obtain ⟨n',rfl⟩:∃n',n=n'+1:=⟨n-1,by omega⟩
  simp only [Builtin.clear_];simp [run_underlying hu,e2,hvs,hst]
theorem at2_splice {xs ys:List (List AV)}{lo k i:Nat}(hlo:lo+k≤xs.length)(hk:k≤ys.length)(hi:i<xs.length)(j:Nat) :
    at2 (xs.take lo++ys.take k++xs.drop (lo+k)) i j=if lo≤i∧i<lo+k then at2 ys (i-lo) j else at2 xs i j:=by
 have e1:(xs.take lo).length=lo:=by rw [List.length_take];omega
 have e2:(ys.take k).length=k:=by rw [List.length_take];omega
 have e3:(xs.take lo++ys.take k).length=lo+k:=by rw [List.length_append,e1,e2]
 have et:∀(l:List (List AV)) (a b:Nat),b<a→at2 (l.take a) b j=at2 l b j:=fun l a b h=>by simp [at2,List.getD_eq_getElem?_getD,List.getElem?_take,h]
 have ed:∀(l:List (List AV)) (a b:Nat),at2 (l.drop a) b j=at2 l (a+b) j:=fun l a b=>by simp [at2,List.getD_eq_getElem?_getD,List.getElem?_drop]
 rw [at2_append,e3]
 by_cases h1:i<lo+k
 · rw [if_pos h1,at2_append,e1]
   by_cases h2:i<lo
   · rw [if_pos h2,et _ _ _ h2,if_neg (by omega)]
   · rw [if_neg h2,et _ _ _ (by omega),if_pos (by omega)]
 · rw [if_neg h1,ed,if_neg (by omega)]
   congr 1;omega
theorem flat_take {m sz:Nat}{c:Nat→Nat→Value}{k:Nat}(hk:k≤m):(flat m sz c).take (k*sz)=flat k sz c:=by
 apply List.ext_getElem?
 intro i;have hb:k*sz≤m*sz:=Nat.mul_le_mul_right _ hk
 by_cases h:i<k*sz
 · rw [List.getElem?_take_of_lt h,flat_get h,flat_get (Nat.lt_of_lt_of_le h hb)]
 · rw [List.getElem?_eq_none (by rw [List.length_take,flat_length];omega),List.getElem?_eq_none (by rw [flat_length];omega)]
theorem copy_ok (hT:TabOk P T)(hS:SR T w X S){t:Nat}{ty:TypeId}{d x:AV}{dv xv:Value}{k:Nat}(hd:VR w X d dv)(hx:VR w X x xv)(h:evCopy T t d x S=some (k,S')) :
    ∃w',(Builtin.copy_ #[t,t] ty #[dv,xv]).run P w=.ok (.int .i64 k) w'∧Stn w X w' X∧SR T w' X S':=by
 unfold evCopy at h;split at h
 rotate_left
 · cases h
 rename_i id lo n te hte;split at h
 rotate_left
 · cases h
 rename_i ob news hrow hsv
 split at h<;>cases h
 rename_i hc;obtain ⟨hsz,hln⟩:=hc;obtain ⟨hob,hkd⟩:=isRow_some hrow;obtain ⟨e,hu,hok,hpos,hby⟩:=hT.elemSlice hte;obtain ⟨i,zv,hi,hs,hb,hz',hzc,e1,e2⟩:=hok.run_info;obtain ⟨cs,hsrc,hcr⟩:=sourceView_ok hS hsv hx;obtain ⟨A,cap,hxv,hrd⟩:=hsrc.val
 have hsame:∀ {l:Nat},l=0→ob.els.take lo++news.take l++ob.els.drop (lo+l)=ob.els:=by
  intro l hl;subst hl;simp
 by_cases hk0:min news.length n=0
 · refine ⟨w,?_,Stn.refl w X,?_⟩
   · have hmin:Nat.min news.length n=0:=hk0
     have key:∀(B:Option Addr) (cap':Nat),(Builtin.copy_ #[t,t] ty #[.slice B n cap',xv]).run P w=.ok (.int .i64 (min news.length n:Nat)) w:=by
      intro B cap';rw [hxv,hk0];have hm2:min news.length n=0:=hk0
      have h0:∀a,(loadCells a (0*te.size)).run P w=.ok #[] w:=fun a=>by
       have:=run_loadCells_list (P:=P) w a [] (by simp)
       simpa using this
      cases B<;>cases A<;>simp [Builtin.copy_,run_underlying hu,Builtin.lenOf,Builtin.firstCells,sizeOf,typeInfo,hi,hs,hmin,hm2,storeCells,goInt,Nat.zero_mul]<;>simp [Nat.zero_mul] at h0<;>simp [h0,storeCells]
     cases hd with
     | slz id lo A' hid=>exact key _ _
     | sl id lo n cap' I hid hI hn hcap hm=>exact key _ _
   · rw [hsame hk0]
     have:(some { ob with els:=ob.els }:Option Ob)=some ob:=rfl
     have hself:S.set id (some ob)=S:=by
      apply List.ext_getElem?
      intro j
      by_cases hj:j=id
      · subst hj;rw [List.getElem?_set_self (getOb_lt hob)];unfold getOb at hob;split at hob
        · rename_i ob' h';cases hob;exact h'.symm
        · cases hob
      · rw [List.getElem?_set_ne (fun h=>hj h.symm)]
     rw [hself];exact hS
 obtain ⟨k,hk⟩:∃k,min news.length n=k:=⟨_,rfl⟩;rw [hk] at hk0 ⊢
 have hkn:k≤n:=by omega
 have hkw:k≤news.length:=by omega
 cases hd with
 | slz id lo A' hid=>omega
 | sl id lo n cap' I hid hI hn hcap hm =>
  obtain ⟨c0,hor⟩:=row_of hS hob hI;obtain ⟨cur,e',hblk,hcs⟩:=hor.blk;have hszI:=hor.sz
  obtain ⟨g,p,rfl,hcell⟩:=hrd (by omega)
  obtain ⟨vs,hvs⟩:∃vs,flat k te.size cs=vs:=⟨_,rfl⟩
  have hvl:vs.length=k*te.size:=by rw [←hvs];exact flat_length _ _ _
  have hone:∀v∈vs,v.oneCell'=true:=by
   intro v hv;rw [←hvs] at hv;obtain ⟨z,hzl,rfl⟩:=List.mem_iff_getElem.1 hv;rw [flat_length] at hzl;obtain ⟨h1,h2,_⟩:=flat_split hzl;have:=(hcr 0 (0,0) _ _ (Nat.lt_of_lt_of_le h1 hkw) h2).one;have hg:=flat_get (c:=cs) hzl
   rw [List.getElem?_eq_getElem (by rw [flat_length];exact hzl)] at hg
   injection hg with hg
   rw [hg];exact this
  have hread:∀j v,vs[j]?=some v→w.cell? ((⟨g,p,none⟩:Addr).add j)=some v:=by
   intro j v hj;rw [←hvs,←flat_take hkw] at hj
   have hjlt:j<k*te.size:=by
    have:=(List.getElem?_eq_some_iff.1 hj).1;rw [List.length_take] at this;omega
   rw [List.getElem?_take_of_lt hjlt] at hj;exact flat_read hcell j v hj
  have hl:=run_loadCells_list (P:=P) w ⟨g,p,none⟩ vs hread
  have hfit:I.o+lo*I.sz+vs.length≤cur.size:=by
   have h1:=hor.fits
   have h2:(lo+k)*I.sz≤ob.els.length*I.sz:=Nat.mul_le_mul_right _ (by omega)
   rw [Nat.add_mul] at h2;rw [hvl,←hsz,←hszI];omega
  have hst:=run_storeCells_at P I.g (I.o+lo*I.sz) e' vs 0 cur w hblk (by simpa using hfit) hone
  simp only [Nat.add_zero] at hst
  have hnew:(cur.toList.take (I.o+lo*I.sz)++vs++cur.toList.drop (I.o+lo*I.sz+vs.length)).toArray.size=cur.size:=by simp;omega
  have hlen:(ob.els.take lo++news.take k++ob.els.drop (lo+k)).length=ob.els.length:=by simp only [List.length_append,List.length_take,List.length_drop];omega
  have hkl:vs.length=k*I.sz:=by rw [hvl,←hsz,←hszI]
  obtain ⟨s,hS2⟩:=sr_setRow (new:=(cur.toList.take (I.o+lo*I.sz)++vs++cur.toList.drop (I.o+lo*I.sz+vs.length)).toArray)
   (ob':={ ob with els:=ob.els.take lo++news.take k++ob.els.drop (lo+k) }) hS hob hI hblk hnew rfl rfl hlen (fun r hr=>by
    rcases List.mem_append.1 hr with hr|hr
    · rcases List.mem_append.1 hr with hr|hr
      · exact hor.rows r (List.mem_of_mem_take hr)
      · exact (hsrc.rows r (List.mem_of_mem_take hr)).trans hsz.symm
    · exact hor.rows r (List.mem_of_mem_drop hr)) (fun i j=>if lo≤i∧i<lo+k then cs (i-lo) j else c0 i j) (fun i j hi hj=>by
    rw [hlen] at hi;have hj':j<ob.sz:=hj;rw [List.getElem?_toArray,List.append_assoc]
    by_cases h1:i<lo
    · rw [if_neg (by omega)]
      have hcell:=hor.cell i j hi hj'
      have hlt:I.o+i*I.sz+j<I.o+lo*I.sz:=by
       have:(i+1)*I.sz≤lo*I.sz:=Nat.mul_le_mul_right _ h1;rw [Nat.add_mul] at this
       have:j<I.sz:=by rw [hszI];exact hj'
       omega
      rw [List.getElem?_append_left (by rw [List.length_take,Array.length_toList];omega),List.getElem?_take_of_lt hlt,Array.getElem?_toList]
      simp only [World.cell?,hblk] at hcell;simpa using hcell
    · have hge:lo*I.sz≤i*I.sz:=Nat.mul_le_mul_right _ (by omega)
      have htl:(cur.toList.take (I.o+lo*I.sz)).length=I.o+lo*I.sz:=by rw [List.length_take,Array.length_toList];omega
      rw [List.getElem?_append_right (by rw [htl];omega),htl]
      by_cases h2:i<lo+k
      · rw [if_pos (by omega)]
        have hb1:=idx_lt (show i-lo<k by omega) (show j<te.size by omega)
        have he:I.o+i*I.sz+j-(I.o+lo*I.sz)=(i-lo)*te.size+j:=by rw [←hsz,←hszI,Nat.sub_mul];omega
        rw [he,List.getElem?_append_left (by rw [hvl];exact hb1),←hvs]
        exact flat_at (show i-lo<k by omega) (show j<te.size by omega)
      · rw [if_neg (by omega)]
        have hcell:=hor.cell i j hi hj'
        have hge2:(lo+k)*I.sz≤i*I.sz:=Nat.mul_le_mul_right _ (by omega)
        rw [Nat.add_mul] at hge2
        rw [List.getElem?_append_right (by rw [hkl];omega),hkl,List.getElem?_drop]
        have he:I.o+lo*I.sz+k*I.sz+(I.o+i*I.sz+j-(I.o+lo*I.sz)-k*I.sz)=I.o+i*I.sz+j:=by omega
        rw [he,Array.getElem?_toList];simp only [World.cell?,hblk] at hcell
        simpa using hcell) (fun i j hi hj=>by
    rw [hlen] at hi;have hj':j<ob.sz:=hj
    rw [if_neg hkd,at2_splice (by omega) hkw hi]
    by_cases h2:lo≤i∧i<lo+k
    · rw [if_pos h2,if_pos h2]
      exact hcr id _ (i-lo) j (by omega) (by omega)
    · rw [if_neg h2,if_neg h2];have:=hor.val i j hi hj';rw [if_neg hkd] at this
      exact this)
  refine ⟨_,?_,s,hS2⟩;have hmin:Nat.min news.length n=k:=hk;rw [hxv];simp only [Builtin.copy_]
  have hl':(loadCells ⟨g,p,none⟩ (k*te.size)).run P w=.ok vs.toArray w:=by rw [←hvl];exact hl
  simp [run_underlying hu,Builtin.lenOf,Builtin.firstCells,sizeOf,typeInfo,hi,hs,hmin,hk,hl',hst,goInt]
theorem op_builtin (hT:TabOk P T)(hS:SR T w X S)(hf:FrR w X fr a){c:Call}{b:Builtin}(hop:o.op=.call c)(hcb:c.callee=.builtin b)
    (h:evOp T C o.op fr S=some (v,S')):Good T P o a w X v S':=by
 rw [hop] at h;simp only [evOp,hcb] at h;split at h
 · rename_i vs hvs;obtain ⟨hl,hv⟩:=evArgs_ok hf _ _ hvs
   have hargs:c.args.map a.eval=(c.args.toList.map a.eval).toArray:=by apply Array.ext';simp
   have hexec : ∀ {w' : World} {v' : Value} {X' : Cx}, (builtin b c.argTypes o.type (c.args.map fun | .const _ => true | _ => false) (c.args.map a.eval)).run P w = .ok (.value v') w' →
       Stn w X w' X'→SR T w' X' S'→VR w' X' v v'→Good T P o a w X v S':=by
    intro w' v' X' hr s h' hv'
    exact Good.one w' X' s h' v' (by simp only [execOp,hop,resolve,hcb,Sem.run_bind,Sem.run_pure,Result.andThen_ok,invoke];exact hr) hv'
   unfold evBuiltin at h;split at h
   · 
     rename_i t t' s x hat;split at h
     · rename_i htt;subst htt;obtain ⟨us,hus⟩:∃us,c.args.toList.map a.eval=us:=⟨_,rfl⟩;rw [hus] at hl hv hargs
       match us,hl,hv,hargs with
       | [su,xu],hl,hv,hargs =>
        obtain ⟨v',w',X',hr,s1,hS1,hv1⟩:=append_ok (ty:=o.type) hT hS (by simpa using hv 0 (by simp)) (by simpa using hv 1 (by simp)) h
        refine hexec (w':=w') (v':=v') (X':=X') ?_ s1 hS1 hv1
        have hat':c.argTypes=#[t,t]:=by apply Array.ext';rw [hat]
        rw [hargs,hat'];simp only [builtin,Sem.run_bind,hr,Result.andThen_ok,Sem.run_pure]
     · cases h
   · 
     rename_i t x hat
     split at h<;>cases h
     rename_i n hn;obtain ⟨us,hus⟩:∃us,c.args.toList.map a.eval=us:=⟨_,rfl⟩;rw [hus] at hl hv hargs
     match us,hl,hv,hargs with
     | [xu],hl,hv,hargs =>
      have hr:=len_ok (P:=P) (ty:=o.type) hT (by simpa using hv 0 (by simp)) hn
      refine hexec (w':=w) (v':=.int .i64 n) (X':=X) ?_ (Stn.refl w X) hS (.int _ _)
      have hat':c.argTypes=#[t]:=by apply Array.ext';rw [hat]
      rw [hargs,hat'];simp only [builtin,Sem.run_bind,hr,Result.andThen_ok,Sem.run_pure]
   · 
     rename_i x r
     split at h<;>cases h
     rename_i z hz;obtain ⟨us,hus⟩:∃us,c.args.toList.map a.eval=us:=⟨_,rfl⟩;rw [hus] at hl hv hargs
     match us,hl,hv,hargs with
     | xu::us,hl,hv,hargs =>
      obtain ⟨zv,h1,h2⟩:=fold_ok (P:=P) (g:=Builtin.min2) min2_ok r us x v xu (by simpa using hl) (fun i hi=>by simpa using hv (i+1) (by simpa using hi)) hz (by simpa using hv 0 (by simp))
      refine hexec (w':=w) (v':=zv) (X':=X) ?_ (Stn.refl w X) hS h2;rw [hargs];simp only [builtin,Sem.run_bind,Builtin.min_,h1,Result.andThen_ok,Sem.run_pure]
   · 
     rename_i x r
     split at h<;>cases h
     rename_i z hz;obtain ⟨us,hus⟩:∃us,c.args.toList.map a.eval=us:=⟨_,rfl⟩;rw [hus] at hl hv hargs
     match us,hl,hv,hargs with
     | xu::us,hl,hv,hargs =>
      obtain ⟨zv,h1,h2⟩:=fold_ok (P:=P) (g:=Builtin.max2) max2_ok r us x v xu (by simpa using hl) (fun i hi=>by simpa using hv (i+1) (by simpa using hi)) hz (by simpa using hv 0 (by simp))
      refine hexec (w':=w) (v':=zv) (X':=X) ?_ (Stn.refl w X) hS h2;rw [hargs];simp only [builtin,Sem.run_bind,Builtin.max_,h1,Result.andThen_ok,Sem.run_pure]
   · 
     rename_i t id lo n hat
     split at h<;>cases h
     rename_i hn;obtain ⟨us,hus⟩:∃us,c.args.toList.map a.eval=us:=⟨_,rfl⟩;rw [hus] at hl hv hargs
     match us,hl,hv,hargs with
     | [xu],hl,hv,hargs =>
      obtain ⟨w',hr,s,hS2⟩:=clear_ok (P:=P) (ty:=o.type) hT hS (by simpa using hv 0 (by simp)) hn
      refine hexec (w':=w') (v':=.tuple #[]) (X':=X) ?_ s hS2 (VR.undef w' X)
      have hat':c.argTypes=#[t]:=by apply Array.ext';rw [hat]
      rw [hargs,hat'];simp only [builtin,Sem.run_bind,hr,Result.andThen_ok,Sem.run_pure]
   · 
     rename_i t t' d x hat;split at h
     · rename_i htt;subst htt
       split at h<;>cases h
       rename_i k hn;obtain ⟨us,hus⟩:∃us,c.args.toList.map a.eval=us:=⟨_,rfl⟩;rw [hus] at hl hv hargs
       match us,hl,hv,hargs with
       | [du,xu],hl,hv,hargs =>
        obtain ⟨w',hr,s,hS2⟩:=copy_ok (P:=P) (ty:=o.type) hT hS (by simpa using hv 0 (by simp)) (by simpa using hv 1 (by simp)) hn
        refine hexec (w':=w') (v':=.int .i64 k) (X':=X) ?_ s hS2 (.int _ _)
        have hat':c.argTypes=#[t,t]:=by apply Array.ext';rw [hat]
        rw [hargs,hat'];simp only [builtin,Sem.run_bind,hr,Result.andThen_ok,Sem.run_pure]
     · cases h
   · cases h
 · cases h
end Go.Pi

namespace Go.Pi
open Go
variable {P:Program} {T:Tab} {o:Oper} {a:Act} {w w':World} {X X':Cx} {fr:Fr} {S S':St} {v:AV}
def Cx.inner (X:Cx)(sz:Nat)(A:Nat→Prop):Cx where
 N:=0
 root _:=none
 par:=X.par
 φ _:=none
 pro b:=X.pro b∨(b<sz∧¬A b)
 soft:=False
theorem sr_inner {T':Tab}(hT':T'.soft=false)(hS:SR T w X S)(A:Nat→Prop):SR T' w (X.inner w.heap.size A) [] :=
 ⟨rfl,fun b hb=>absurd rfl hb,fun b hb=>by
  rcases hb with h|h
  · exact hS.pro b h
  · exact h.1,fun id ob h=>by simp [getOb] at h,⟨fun k=>k.elim,fun k=>by rw [hT'] at k;cases k⟩⟩
theorem Rd.inner {A:Nat→Prop}{q:Ql}{av:AV}{u:Value}(h:Rd w (X.ok q) av u)(hA:∀b,b<w.heap.size→X.ok q b→A b):Rd w ((X.inner w.heap.size A).ok .imm) av u :=
 h.keep (Nat.le_refl _) fun b hb hok=>⟨rfl,rfl,fun hp=>by
  rcases hp with h|h
  · exact Cx.ok_npro hok h
  · exact h.2 (hA b hb hok)⟩
theorem ownOnlyL_mem {l:List AV}(h:ownOnlyL l=true):∀x∈l,ownOnly x=true:=by
 induction l with
 | nil=>simp
 | cons a l ih =>
  simp only [ownOnlyL,Bool.and_eq_true] at h;intro x hx
  rcases List.mem_cons.1 hx with rfl|hx
  · exact h.1
  · exact ih h.2 x hx
theorem ownOnlyLL_rows {l:List (List AV)}(h:ownOnlyLL l=true):∀r∈l,ownOnlyL r=true:=by
 induction l with
 | nil=>simp
 | cons a l ih =>
  simp only [ownOnlyLL,Bool.and_eq_true] at h;intro x hx
  rcases List.mem_cons.1 hx with rfl|hx
  · exact h.1
  · exact ih h.2 x hx
theorem ownOnlyLL_mem {l:List (List AV)}(h:ownOnlyLL l=true){i j:Nat}{sz:Nat}(hrow:∀r∈l,r.length=sz)(hi:i<l.length)(hj:j<sz):ownOnly (at2 l i j)=true:=by
 have h1:=ownOnlyLL_rows h l[i] (List.getElem_mem hi);have hlen:l[i].length=sz:=hrow _ (List.getElem_mem hi)
 have:=ownOnlyL_mem h1 (l[i][j]'(by omega)) (List.getElem_mem _)
 simpa [at2,List.getD_eq_getElem?_getD,hi,hlen,hj] using this
theorem CR.own_read {rid:Nat}{loc:Nat×Nat}{av:AV}{u:Value}(h:CR w X rid loc av u)(ho:ownOnly av=true):Rd w (fun b=>X.root b=some rid∧¬X.pro b) av u:=by
 induction h with
 | int loc k n=>exact .int k n
 | bool loc b=>exact .bool b
 | str loc s=>exact .str s
 | nil loc=>exact .nil
 | nilp loc=>exact .nilp
 | fn loc f=>exact .fn f
 | ts loc q hq sz els v h=>cases q<;>simp [ownOnly] at ho hq
 | tp loc q hq sz els i j v h=>simp [ownOnly] at ho
 | own loc sz els A cap g o c hrow hcap hA hc _ ih =>
  have hall:∀i j,i<els.length→j<sz→ownOnly (at2 els i j)=true:=by
   intro i j hi hj;simp only [ownOnly,Bool.and_eq_true] at ho;exact ownOnlyLL_mem ho.2 hrow hi hj
  refine .ts _ sz els A cap g o c hrow hcap (fun hn=>?_) hc (fun i j hi hj=>ih i j hi hj (hall i j hi hj))
  obtain ⟨h1,h2,h3,hnp,cur,e,h4,_⟩:=hA (by omega)
  exact ⟨h1,⟨h2,hnp⟩,(Array.getElem?_eq_some_iff.1 h4).1⟩
theorem fineL_mem {l:List AV}(h:fine.fineL l=true):∀x∈l,fine x=true:=by
 induction l with
 | nil=>simp
 | cons a l ih =>
  simp only [fine.fineL,Bool.and_eq_true] at h;intro x hx
  rcases List.mem_cons.1 hx with rfl|hx
  · exact h.1
  · exact ih h.2 x hx
theorem fineLL_rows {l:List (List AV)}(h:fine.fineLL l=true):∀r∈l,fine.fineL r=true:=by
 induction l with
 | nil=>simp
 | cons a l ih =>
  simp only [fine.fineLL,Bool.and_eq_true] at h;intro x hx
  rcases List.mem_cons.1 hx with rfl|hx
  · exact h.1
  · exact ih h.2 x hx
theorem fineLL_mem {l:List (List AV)}(h:fine.fineLL l=true){i j:Nat}{sz:Nat}(hrow:∀r∈l,r.length=sz)(hi:i<l.length)(hj:j<sz):fine (at2 l i j)=true:=by
 have h1:=fineLL_rows h l[i] (List.getElem_mem hi);have hlen:l[i].length=sz:=hrow _ (List.getElem_mem hi)
 have:=fineL_mem h1 (l[i][j]'(by omega)) (List.getElem_mem _)
 simpa [at2,List.getD_eq_getElem?_getD,hi,hlen,hj] using this
theorem CR.fine_read {rid:Nat}{loc:Nat×Nat}{av:AV}{u:Value}(h:CR w X rid loc av u)(ho:fine av=true):Rd w (fun b=>(X.root b=some rid∨X.root b=none)∧¬X.pro b) av u:=by
 induction h with
 | int loc k n=>exact .int k n
 | bool loc b=>exact .bool b
 | str loc s=>exact .str s
 | nil loc=>exact .nil
 | nilp loc=>exact .nilp
 | fn loc f=>exact .fn f
 | ts loc q hq sz els v h =>
  cases q with
  | imm=>exact h.keep (Nat.le_refl _) fun b _ hok=>⟨rfl,.inr hok.1,hok.2⟩
  | bor=>simp [fine] at ho
  | own=>exact absurd rfl hq
 | tp loc q hq sz els i j v h =>
  cases q with
  | imm=>exact h.keep (Nat.le_refl _) fun b _ hok=>⟨rfl,.inr hok.1,hok.2⟩
  | bor=>simp [fine] at ho
  | own=>exact absurd rfl hq
 | own loc sz els A cap g o c hrow hcap hA hc _ ih =>
  have hall:∀i j,i<els.length→j<sz→fine (at2 els i j)=true:=by
   intro i j hi hj;simp only [fine] at ho;exact fineLL_mem ho hrow hi hj
  refine .ts _ sz els A cap g o c hrow hcap (fun hn=>?_) hc (fun i j hi hj=>ih i j hi hj (hall i j hi hj))
  obtain ⟨h1,h2,h3,hnp,cur,e,h4,_⟩:=hA (by omega)
  exact ⟨h1,⟨.inl h2,hnp⟩,(Array.getElem?_eq_some_iff.1 h4).1⟩
theorem CR.readIn {A:Nat→Prop}{rid:Nat}(hid:∀b,X.root b=some rid→A b)(hbor:∀b,¬X.isRoot b→A b){loc:Nat×Nat}{av:AV}{u:Value}(h:CR w X rid loc av u):Rd w ((X.inner w.heap.size A).ok .imm) av u:=by
 induction h with
 | int loc k n=>exact .int k n
 | bool loc b=>exact .bool b
 | str loc s=>exact .str s
 | nil loc=>exact .nil
 | nilp loc=>exact .nilp
 | fn loc f=>exact .fn f
 | ts loc q hq sz els v h=>exact h.inner (fun b _ hok=>hbor b (Cx.ok_weak hok))
 | tp loc q hq sz els i j v h=>exact h.inner (fun b _ hok=>hbor b (Cx.ok_weak hok))
 | own loc sz els A' cap g o c hrow hcap hA hc _ ih =>
  refine .ts _ sz els A' cap g o c hrow hcap (fun hn=>?_) hc ih
  obtain ⟨h1,h2,h3,hnp,cur,e,h4,_⟩:=hA (by omega)
  refine ⟨h1,⟨rfl,fun hp=>?_⟩,(Array.getElem?_eq_some_iff.1 h4).1⟩
  rcases hp with hp|hp
  · exact hnp hp
  · exact hp.2 (hid g h2)
structure Lets (w:World) (X:Cx) (S:St) (A:Nat→Prop) (ids:List Nat):Prop where
 none:∀b,X.root b=none→A b
 ids:∀b id,id∈ids→X.root b=some id→A b
theorem lend_row (hS:SR T w X S){A:Nat→Prop}{id lo n:Nat}{ob:Ob}{u:Value}(hrow:isRow S id=some ob)(hln:lo+n≤ob.els.length)(hv:VR w X (.sl id lo n) u)
    (hid:∀b,X.root b=some id→A b) (hbor:(∀b,¬X.isRoot b→A b)∨(fine.fineLL (window ob.els lo n)=true∧∀b,X.root b=none→A b)∨ownOnlyLL (window ob.els lo n)=true) :
    Rd w ((X.inner w.heap.size A).ok .imm) (.ts .imm ob.sz (setQLL .imm (window ob.els lo n))) u:=by
 obtain ⟨hob,hkd⟩:=isRow_ob hrow;have hwl:=window_length (els:=ob.els) hln
 cases hv with
 | slz id lo A' hid' =>
  have:window ob.els lo 0=[]:=by simp [window]
  rw [this]
  exact .ts .imm ob.sz [] A' 0 0 0 (fun _ _=>undef) (by simp) (by simp) (by simp) (by simp) (by simp)
 | sl id lo n cap I hid' hI hn hcap hm =>
  obtain ⟨c,hor⟩:=row_of hS hob hI
  have hwr:∀r∈window ob.els lo n,r.length=ob.sz:=fun r hr=>hor.rows r (window_mem hr)
  have hml:(setQLL .imm (window ob.els lo n)).length=n:=by rw [setQLL_eq];simpa using hwl
  have key:Rd w ((X.inner w.heap.size A).ok .imm) (.ts .imm ob.sz (setQLL .imm (window ob.els lo n))) (.slice (some ⟨I.g,I.o+lo*I.sz,none⟩) (setQLL .imm (window ob.els lo n)).length cap):=by
   refine .ts .imm ob.sz _ _ cap I.g (I.o+lo*I.sz) (fun i j=>c (lo+i) j) (by rw [setQLL_eq];exact rows_map _ _ hwr) (by omega) (fun _=>⟨rfl,⟨rfl,fun hp=>?_⟩,?_⟩) (fun i j hi hj=>?_) (fun i j hi hj=>?_)
   · rcases hp with h|h
     · exact hor.npro h
     · exact h.2 (hid _ hor.root)
   · obtain ⟨cur,e,hb,_⟩:=hor.blk;exact (Array.getElem?_eq_some_iff.1 hb).1
   · rw [hml] at hi
     have:=hor.cell (lo+i) j (by omega) hj
     have e1:I.o+lo*I.sz+i*ob.sz+j=I.o+(lo+i)*I.sz+j:=by rw [Nat.add_mul,hor.sz];omega
     rw [e1];exact this
   · rw [hml] at hi
     rw [setQLL_eq,at2_map _ _ hwr (by omega) hj]
     have h0:=hor.val (lo+i) j (by omega) hj
     rw [if_neg hkd] at h0;refine Rd.setQ ?_;rw [at2_window hi]
     rcases hbor with hbor|hown|hown
     · exact h0.readIn hid hbor
     rotate_left
     · have ho:=ownOnlyLL_mem hown hwr (i:=i) (j:=j) (by omega) hj
       rw [at2_window hi] at ho
       refine (h0.own_read ho).keep (Nat.le_refl _) (fun b hb hok=>⟨rfl,rfl,fun hp=>?_⟩)
       rcases hp with h|h
       · exact hok.2 h
       · exact h.2 (hid b hok.1)
     · have ho:=fineLL_mem hown.1 hwr (i:=i) (j:=j) (by omega) hj
       rw [at2_window hi] at ho
       refine (h0.fine_read ho).keep (Nat.le_refl _) (fun b hb hok=>⟨rfl,rfl,fun hp=>?_⟩)
       rcases hp with h|h
       · exact hok.2 h
       · rcases hok.1 with hr|hr
         · exact h.2 (hid b hr)
         · exact h.2 (hown.2 b hr)
  rw [hml] at key;exact key
end Go.Pi

namespace Go.Pi
open Go
variable {P:Program} {T:Tab} {o:Oper} {a:Act} {w w':World} {X X':Cx} {fr:Fr} {S S':St} {v:AV}
theorem mapO_get {α β:Type}{f:α→Option β}:∀ {l:List α} {l':List β},mapO f l=some l'→l'.length=l.length∧∀i (h:i<l.length) (h':i<l'.length),f l[i]=some l'[i]:=by
 intro l
 induction l with
 | nil=>intro l' h;simp only [mapO,Option.some.injEq] at h;subst h;exact ⟨rfl,fun i h=>absurd h (Nat.not_lt_zero i)⟩
 | cons a l ih =>
  intro l' h;simp only [mapO] at h;split at h
  · cases h
  · rename_i b hb
    split at h<;>cases h
    rename_i bs hbs;obtain ⟨h1,h2⟩:=ih hbs
    refine ⟨by simp [h1],fun i hi hi'=>?_⟩
    cases i with
    | zero=>simpa using hb
    | succ i=>simpa using h2 i (by simpa using hi) (by simpa using hi')
theorem setQ_ts (q q':Ql)(sz:Nat)(els:List (List AV)):setQ q (.ts q' sz els)=.ts q sz (setQLL q els):=rfl
structure MayLend (w:World) (X:Cx) (S:St) (A:Nat→Prop) (ids:List Nat) (clean:Bool):Prop where
 none:∀b,X.root b=none→A b
 ids:∀id∈ids,∀b,X.root b=some id→A b
 bor:(∀b,¬X.isRoot b→A b)∨clean=true
theorem rd_imm {A:Nat→Prop}{av:AV}{u:Value}(hn:∀b,X.root b=none→A b)(h:Rd w (X.ok .imm) av u):Rd w ((X.inner w.heap.size A).ok .imm) av u :=
 h.inner (fun b _ hok=>hn b hok.1)
theorem rd_bor {A:Nat→Prop}{av:AV}{u:Value}(hn:∀b,¬X.isRoot b→A b)(h:Rd w (X.ok .bor) av u):Rd w ((X.inner w.heap.size A).ok .imm) av u :=
 h.inner (fun b _ hok=>hn b hok.1)
theorem lendCell_ok (hS:SR T w X S){A:Nat→Prop}{c c':AV}{u:Value}(hv:VR w X c u)(h:lendCell S c=some c')(hl:MayLend w X S A (idsCell c) (cleanCell S c)) :
    Rd w ((X.inner w.heap.size A).ok .imm) c' u:=by
 unfold lendCell at h;split at h
 · cases h;cases hv;exact .nil
 · rename_i id lo n;split at h
   · cases h
   · rename_i ob hrow
     split at h<;>cases h
     rename_i hln
     refine lend_row hS hrow hln hv (hl.ids id (by simp [idsCell])) ?_
     rcases hl.bor with h1|h1
     · exact .inl h1
     · simp only [cleanCell,hrow] at h1;exact .inr (.inl ⟨h1,hl.none⟩)
 · cases h;cases hv with | ts q hq sz els v hr=>exact rd_imm hl.none hr
 · cases h
   rcases hl.bor with h1|h1
   · cases hv with | ts q hq sz els v hr=>exact (rd_bor h1 hr).setQ (q:=.imm)
   · simp [cleanCell] at h1
 · cases h;cases hv with | tp q hq sz els i j v hr=>exact rd_imm hl.none hr
 · cases h
   rcases hl.bor with h1|h1
   · cases hv with | tp q hq sz els i j v hr=>exact (rd_bor h1 hr).setQ (q:=.imm)
   · simp [cleanCell] at h1
 · cases h;cases hv;exact .int _ _
 · cases h;cases hv;exact .bool _
 · cases h;cases hv;exact .str _
 · cases h;cases hv;exact .nilp
 · cases h;obtain ⟨cv,rfl,hl',_⟩:=hv.fn_inv;have:cv=[]:=List.eq_nil_of_length_eq_zero hl'.symm;subst this;exact .fn _
 · cases h
theorem rd_slot {A:Nat→Prop}{c:AV}{u:Value}(h:Rd w ((X.inner w.heap.size A).ok .imm) c u)(hc:setTop .imm c=c):VR w (X.inner w.heap.size A) c u:=by
 have:=h.slot (q:=.imm) (by simp)
 rw [hc] at this;exact this
theorem lendCell_top {c c':AV}(h:lendCell S c=some c'):setTop .imm c'=c':=by
 unfold lendCell at h
 split at h<;>try (cases h;first | rfl | done)
 split at h
 · cases h
 · split at h<;>cases h
   rfl
theorem lend1_ok (hS:SR T w X S){A:Nat→Prop}{e:Nat}{c c':AV}{u:Value}(hv:VR w X c u)(h:lend1 S e c=some c')(hl:MayLend w X S A (idsCell c) (cleanCell S c)) :
    VR w (X.inner w.heap.size A) c' u:=by
 have other:∀ {d:AV},lendCell S c=some d→lend1 S e c=some d→VR w (X.inner w.heap.size A) c' u:=by
  intro d h1 h2
  rw [h] at h2;injection h2 with h2;subst h2
  exact rd_slot (lendCell_ok hS hv h1 hl) (lendCell_top h1)
 cases c with
 | nil =>
  simp only [lend1,Option.some.injEq] at h;subst h;cases hv
  exact .ts .imm (by simp) e [] _ (.ts .imm e [] none 0 0 0 (fun _ _=>undef) (by simp) (by simp) (by simp) (by simp) (by simp))
 | sl id lo n =>
  simp only [lend1] at h;split at h
  · cases h
  · rename_i ob hrow
    split at h<;>cases h
    rename_i hc
    have hlc:lendCell S (.sl id lo n)=some (.ts .imm ob.sz (setQLL .imm (window ob.els lo n))):=by simp only [lendCell,hrow,hc.2,if_true]
    have:=rd_slot (lendCell_ok hS hv hlc hl) rfl;rw [hc.1] at this;exact this
 | ts q sz els=>cases q<;>first | (simp [lend1] at h;done) | exact other rfl rfl
 | tp q sz els i j=>cases q<;>first | (simp [lend1] at h;done) | exact other rfl rfl
 | int k n=>exact other rfl rfl
 | bool b=>exact other rfl rfl
 | str s=>exact other rfl rfl
 | nilp=>exact other rfl rfl
 | fn f caps=>cases caps with
  | nil=>exact other rfl rfl
  | cons _ _=>simp [lend1] at h
 | agg cs=>simp [lend1] at h
 | tup cs=>simp [lend1] at h
 | ptr id i j=>simp [lend1] at h
 | any=>simp [lend1] at h
theorem mem_idsDeep {v:AV}{id:Nat}(h:id∈idsOf v):id∈idsDeep S v:=by
 unfold idsDeep;exact List.mem_flatMap.2 ⟨id,h,List.mem_cons_self ..⟩
theorem mem_idsDeep_box {v:AV}{id id':Nat}{ob:Ob}(h:id∈idsOf v)(hob:getOb S id=some ob)(hk:ob.kd=.box){r:List AV}(hr:r∈ob.els){c:AV}(hc:c∈r)(h':id'∈idsCell c):id'∈idsDeep S v:=by
 unfold idsDeep;refine List.mem_flatMap.2 ⟨id,h,List.mem_cons_of_mem _ ?_⟩;simp only [hob,hk,if_true];exact List.mem_flatMap.2 ⟨r,hr,List.mem_flatMap.2 ⟨c,hc,h'⟩⟩
theorem lendPtr_ok (hS:SR T w X S){A:Nat→Prop}{c c':AV}{u:Value}(hv:VR w X c u)(h:lendPtr S c=some c')(hn:∀b,X.root b=none→A b)(hb:(∀b,¬X.isRoot b→A b)∨cleanPtr S c=true)
    (hids:∀id∈idsCell c,(∀b,X.root b=some id→A b)∧∀ob,getOb S id=some ob→ob.kd=.box→∀r∈ob.els,∀d∈r,∀id'∈idsCell d,∀b,X.root b=some id'→A b) :
    VR w (X.inner w.heap.size A) c' u:=by
 unfold lendPtr at h;split at h
 · rename_i id i j;split at h
   · cases h
   · rename_i ob hob;split at h
     · rename_i hkd
       split at h<;>cases h
       rename_i els hels
       cases hv with
       | ptr id i j I hid hI =>
        obtain ⟨cc,hor⟩:=row_of hS hob hI;obtain ⟨hl1,hl2⟩:=mapO_get hels
        obtain ⟨hi1,hi2⟩:=hids id (by simp [idsCell])
        have hrows:∀r∈els,r.length=ob.sz:=by
         intro r hr;obtain ⟨k,hk,rfl⟩:=List.mem_iff_getElem.1 hr
         have:=(mapO_get (hl2 k (by omega) hk)).1
         rw [this];exact hor.rows _ (List.getElem_mem _)
        have:Rd w ((X.inner w.heap.size A).ok .imm) (.tp .imm ob.sz els i j) (.pointer (some ⟨I.g,I.o+i*ob.sz+j,none⟩)):=by
         refine .tp .imm ob.sz els i j I.g I.o cc hrows ⟨⟨rfl,fun hp=>?_⟩,?_⟩ (fun i' j' hi' hj'=>?_) (fun i' j' hi' hj'=>?_)
         · rcases hp with h|h
           · exact hor.npro h
           · exact h.2 (hi1 _ hor.root)
         · obtain ⟨cur,e,hb,_⟩:=hor.blk;exact (Array.getElem?_eq_some_iff.1 hb).1
         · have:=hor.cell i' j' (by omega) hj'
           rw [hor.sz] at this;exact this
         · have hi'':i'<ob.els.length:=by omega
           have h0:=hor.val i' j' hi'' hj';rw [if_pos hkd] at h0;have hrl:ob.els[i'].length=ob.sz:=hor.rows _ (List.getElem_mem hi'');obtain ⟨m1,m2⟩:=mapO_get (hl2 i' hi'' hi')
           have h3:=m2 j' (by omega) (by rw [m1];omega)
           have e1:at2 ob.els i' j'=ob.els[i'][j']'(by omega):=by simp [at2,List.getD_eq_getElem?_getD,hi'',hrl,hj']
           have e2:at2 els i' j'=els[i'][j']'(by rw [m1];omega):=by
            have:j'<els[i'].length:=by rw [m1];omega
            simp [at2,List.getD_eq_getElem?_getD,hi',this]
           rw [e1] at h0;rw [e2]
           exact lendCell_ok hS h0 h3 ⟨hn,fun id' hid' b hb'=>hi2 ob hob hkd _ (List.getElem_mem hi'') _ (List.getElem_mem _) id' hid' b hb',hb.imp (fun z=>z) (fun hc=>by
            simp only [cleanPtr,hob,List.all_eq_true] at hc
            exact hc _ (List.getElem_mem hi'') _ (List.getElem_mem _))⟩
        rw [hor.sz]
        exact .tp .imm (by simp) _ _ _ _ _ this
     · cases h
 · rename_i hne
   exact rd_slot (lendCell_ok hS hv h ⟨hn,fun id hid=>(hids id hid).1,hb.imp (fun z=>z) (fun hc=>by cases c<;>first | exact hc | exact absurd rfl (hne _ _ _))⟩) (lendCell_top h)
theorem lendL_ok (hS:SR T w X S){A:Nat→Prop}:∀ {cs:List AV} {es:List Nat} {cs':List AV} {us:List Value},lendL S es cs=some cs'→cs.length=us.length→(∀i,i<cs.length→VR w X (cs.getD i .undef) (us.getD i Go.undef)) →
    (∀c∈cs,MayLend w X S A (idsCell c) (cleanCell S c))→cs'.length=cs.length∧∀i,i<cs.length→VR w (X.inner w.heap.size A) (cs'.getD i .undef) (us.getD i Go.undef):=by
 intro cs
 induction cs with
 | nil=>intro es cs' us h hl hv hm;cases es<;>(simp only [lendL,Option.some.injEq] at h;subst h;exact ⟨rfl,fun i hi=>absurd hi (Nat.not_lt_zero i)⟩)
 | cons c cs ih =>
  intro es cs' us h hl hv hm
  cases es with
  | nil=>simp [lendL] at h
  | cons e es =>
   cases us with
   | nil=>simp at hl
   | cons u us =>
    simp only [lendL] at h;split at h
    · cases h
    · rename_i c1 h1
      split at h<;>cases h
      rename_i cs1 h2
      obtain ⟨k1,k2⟩:=ih h2 (by simpa using hl) (fun i hi=>by simpa using hv (i+1) (by simpa using hi)) (fun c hc=>hm c (List.mem_cons_of_mem _ hc))
      refine ⟨by simp [k1],fun i hi=>?_⟩
      cases i with
      | zero=>simpa using lend1_ok hS (by simpa using hv 0 (by simp)) h1 (hm c (List.mem_cons_self ..))
      | succ i=>simpa using k2 i (by simpa using hi)
theorem lend_ok (hS:SR T w X S){A:Nat→Prop}{es:List Nat}{v v':AV}{u:Value}(hv:VR w X v u)(h:lend S es v=some v')(hl:MayLend w X S A (idsDeep S v) (cleanArg S v)) :
    VR w (X.inner w.heap.size A) v' u:=by
 have one:∀ {e:Nat},es=[e]→idsOf v=idsCell v→cleanArg S v=cleanCell S v→lend1 S e v=some v'→VR w (X.inner w.heap.size A) v' u:=by
  intro e _ h1 h2 h3
  exact lend1_ok hS hv h3 ⟨hl.none,fun id hid=>hl.ids id (mem_idsDeep (h1▸hid)),h2▸hl.bor⟩
 have ptrs:∀ {c d:AV} {z:Value},(∀b,¬X.isRoot b→A b)→(∀id∈idsCell c,id∈idsOf v)→VR w X c z→lendPtr S c=some d→VR w (X.inner w.heap.size A) d z:=by
  intro c d z hb hsub hvc h3
  exact lendPtr_ok hS hvc h3 hl.none (.inl hb) (fun id hid=>⟨hl.ids id (mem_idsDeep (hsub id hid)),fun ob hob hk r hr c' hc' id' hid'=>hl.ids id' (mem_idsDeep_box (hsub id hid) hob hk hr hc' hid')⟩)
 cases v with
 | agg cs =>
  simp only [lend] at h
  split at h<;>cases h
  rename_i cs' h1;obtain ⟨cv,rfl,hlen,hcv⟩:=hv.agg_inv
  obtain ⟨k1,k2⟩:=lendL_ok (A:=A) hS h1 hlen hcv (fun c hc=>⟨hl.none,fun id hid=>hl.ids id (mem_idsDeep (by simp only [idsOf];exact List.mem_flatMap.2 ⟨c,hc,hid⟩)),by
   rcases hl.bor with hb|hb
   · exact .inl hb
   · simp only [cleanArg] at hb
     exact .inr (List.all_eq_true.1 hb c hc)⟩)
  exact .agg cs' cv (by omega) (fun i hi=>k2 i (by omega))
 | fn f caps =>
  simp only [lend] at h
  split at h<;>cases h
  rename_i caps' h1;obtain ⟨cv,rfl,hlen,hcv⟩:=hv.fn_inv
  have hb:∀b,¬X.isRoot b→A b:=by
   rcases hl.bor with hb|hb
   · exact hb
   · simp [cleanArg,cleanCell] at hb
  obtain ⟨m1,m2⟩:=mapO_get h1
  refine .fn f caps' cv (by omega) (fun i hi=>?_)
  have h3:=m2 i (by omega) hi
  have h4:=hcv i (by omega)
  have e1:caps.getD i .undef=caps[i]'(by omega):=by simp [List.getD_eq_getElem?_getD,show i<caps.length by omega]
  have e2:caps'.getD i .undef=caps'[i]:=by simp [List.getD_eq_getElem?_getD,hi]
  rw [e1] at h4;rw [e2]
  exact ptrs hb (fun id hid=>by simp only [idsOf];exact List.mem_flatMap.2 ⟨_,List.getElem_mem _,hid⟩) h4 h3
 | ptr id i j =>
  simp only [lend] at h
  have hb:∀b,¬X.isRoot b→A b:=by
   rcases hl.bor with hb|hb
   · exact hb
   · simp [cleanArg,cleanCell] at hb
  exact ptrs hb (fun id hid=>by simpa [idsOf] using hid) hv h
 | tup vs =>
  simp only [lend] at h;split at h
  · simp [lend1] at h
  · cases h
 | _ =>
  simp only [lend] at h;split at h
  · exact one rfl rfl rfl h
  · cases h
end Go.Pi

namespace Go.Pi
open Go
variable {P:Program} {T:Tab} {o:Oper} {a:Act} {w w':World} {X X' Xc:Cx} {fr:Fr} {S S':St} {v:AV}
def cellOk (tree:Bool)(m:Nat):AV→Bool
 | .int _ _ | .bool _ | .str _ | .nilp=>true
 | .sl id _ _=>decide (m≤id)
 | .ts q _ _=>tree&&decide (q=.imm)
 | .tp q _ _ _ _=>tree&&decide (q=.imm)
 | _=>false
def valOk (tree:Bool)(m:Nat):AV→Bool
 | .agg cs=>cs.all (cellOk tree m)
 | c=>cellOk tree m c
def topOk (tree:Bool)(m:Nat):AV→Bool
 | .tup vs=>vs.all (valOk tree m)
 | v=>valOk tree m v
def Cx.outer (X Xc:Cx)(sz n:Nat)(K:List Nat):Cx where
 N:=X.N+n
 root b:=if b<sz then (match X.root b with | some id=>if id∈K then none else some id | none=>none) else (Xc.root b).map (·+X.N)
 par b:=if b<sz then X.par b else Xc.par b
 φ id:=if id<X.N then X.φ id else Xc.φ (id-X.N)
 pro:=X.pro
 soft:=X.soft
theorem outer_root_old {sz n b:Nat}{K:List Nat}(hb:b<sz)(h:X.root b=none):(X.outer Xc sz n K).root b=none:=by simp [Cx.outer,hb,h]
theorem outer_root_keep {sz n b id:Nat}{K:List Nat}(hb:b<sz)(h:X.root b=some id)(hK:id∉K):(X.outer Xc sz n K).root b=some id:=by simp [Cx.outer,hb,h,hK]
theorem outer_root_kill {sz n b id:Nat}{K:List Nat}(hb:b<sz)(h:X.root b=some id)(hK:id∈K):(X.outer Xc sz n K).root b=none:=by simp [Cx.outer,hb,h,hK]
theorem outer_root_new {sz n b:Nat}{K:List Nat}(hb:¬b<sz):(X.outer Xc sz n K).root b=(Xc.root b).map (·+X.N):=by simp [Cx.outer,hb]
theorem outer_par_old {sz n b:Nat}{K:List Nat}(hb:b<sz):(X.outer Xc sz n K).par b=X.par b:=by simp [Cx.outer,hb]
theorem outer_par_new {sz n b:Nat}{K:List Nat}(hb:¬b<sz):(X.outer Xc sz n K).par b=Xc.par b:=by simp [Cx.outer,hb]
theorem outer_not_root {sz n b:Nat}{K:List Nat}(hb:b<sz)(h:¬X.isRoot b):¬(X.outer Xc sz n K).isRoot b:=by
 rintro ⟨h1,h2⟩
 rw [outer_par_old hb] at h2
 cases hr:X.root b with
 | none=>exact h1 (outer_root_old hb hr)
 | some id=>exact h ⟨by rw [hr];simp,h2⟩
theorem stn_outer {A:Nat→Prop}{n:Nat}{K:List Nat}(s:Stp w (X.inner w.heap.size A) w' Xc):Stn w X w' (X.outer Xc w.heap.size n K):=by
 refine ⟨⟨s.os,s.tape,s.output,s.size,fun b hb hr=>⟨(s.keep b hb (fun k=>k.1 rfl)).1,outer_not_root hb hr⟩,fun b hb hr=>outer_root_old hb hr,rfl,rfl⟩,by simp [Cx.outer],fun id hid=>by simp [Cx.outer,hid]⟩
theorem inner_new {A:Nat→Prop}(s:Stp w (X.inner w.heap.size A) w' Xc){b k:Nat}(h:Xc.root b=some k):¬b<w.heap.size:=by
 intro hb;have:=s.none b hb rfl;rw [this] at h;cases h
theorem getOb_kill_list:∀ {K:List Nat} {S:St} {id:Nat} {ob:Ob},getOb (kill S K) id=some ob→id∉K∧getOb S id=some ob:=by
 intro K
 induction K with
 | nil=>intro S id ob h;exact ⟨by simp,h⟩
 | cons k K ih =>
  intro S id ob h;obtain ⟨h1,h2⟩:=ih h;obtain ⟨h3,h4⟩:=getOb_kill h2
  exact ⟨by simp [h1,h3],h4⟩
theorem kill_length:∀ {K:List Nat} {S:St},(kill S K).length=S.length:=by
 intro K
 induction K with
 | nil=>intro S;rfl
 | cons k K ih=>intro S;simp [kill,ih]
theorem getOb_two {A B:St}{id:Nat}{ob:Ob}(h:getOb (A++B) id=some ob):(id<A.length∧getOb A id=some ob)∨(A.length≤id∧getOb B (id-A.length)=some ob):=by
 unfold getOb at h ⊢
 by_cases hlt:id<A.length
 · rw [List.getElem?_append_left hlt] at h;exact .inl ⟨hlt,h⟩
 · rw [List.getElem?_append_right (by omega)] at h
   exact .inr ⟨by omega,h⟩
def Keeps (w':World)(Xc Xo:Cx):Prop:=∀q b,b<w'.heap.size→Xc.ok q b→Xo.ok q b
theorem CR.outer {A:Nat→Prop}{n:Nat}{K:List Nat}(s:Stp w (X.inner w.heap.size A) w' Xc){k:Nat}{loc:Nat×Nat}{av:AV}{u:Value}(h:CR w' Xc k loc av u)
    (ho:ownOnly av=true∨Keeps w' Xc (X.outer Xc w.heap.size n K)):CR w' (X.outer Xc w.heap.size n K) (k+X.N) loc av u:=by
 induction h with
 | int loc k n=>exact .int _ k n
 | bool loc b=>exact .bool _ b
 | str loc s=>exact .str _ s
 | nil loc=>exact .nil _
 | nilp loc=>exact .nilp _
 | fn loc f=>exact .fn _ f
 | ts loc q hq sz els v h =>
  rcases ho with ho|ho
  · cases q<;>simp [ownOnly] at ho hq
  · exact .ts _ q hq sz els v (h.keep (Nat.le_refl _) (fun b hb hok=>⟨rfl,ho q b hb hok⟩))
 | tp loc q hq sz els i j v h =>
  rcases ho with ho|ho
  · simp [ownOnly] at ho
  · exact .tp _ q hq sz els i j v (h.keep (Nat.le_refl _) (fun b hb hok=>⟨rfl,ho q b hb hok⟩))
 | own loc sz els A' cap g o c hrow hcap hA hc _ ih =>
  refine .own _ sz els A' cap g o c hrow hcap (fun hn=>?_) hc (fun i j hi hj=>ih i j hi hj ?_)
  · obtain ⟨h1,h2,h3,hnp,hb⟩:=hA hn;have hnew:=inner_new s h2
    refine ⟨h1,by rw [outer_root_new hnew,h2];rfl,by rw [outer_par_new hnew];exact h3,fun hp=>hnp ?_,hb⟩
    rw [s.pro];exact .inl hp
  · rcases ho with ho|ho
    · simp only [ownOnly,Bool.and_eq_true] at ho;exact .inl (ownOnlyLL_mem ho.2 hrow hi hj)
    · exact .inr ho
theorem sr_outer {T':Tab}{A:Nat→Prop}{K:List Nat}(hS:SR T w X S)(hSc:SR T' w' Xc S')(s:Stp w (X.inner w.heap.size A) w' Xc)(hkd:∀id ob,getOb S' id=some ob→ob.kd=.arr)
    (ho:(∀id ob,getOb S' id=some ob→ownOnlyLL ob.els=true)∨Keeps w' Xc (X.outer Xc w.heap.size S'.length K)) :
    SR T w' (X.outer Xc w.heap.size S'.length K) (kill S K++S'):=by
 have hN:=hS.n;have hNc:=hSc.n
 refine ⟨by simp [Cx.outer,kill_length,hN],fun b hb=>?_,fun b hb=>Nat.lt_of_lt_of_le (hS.pro b hb) s.size,fun id ob h=>?_,hS.sft⟩
 · by_cases hlt:b<w.heap.size
   · exact Nat.lt_of_lt_of_le hlt s.size
   · rw [outer_root_new hlt] at hb
     exact hSc.lab b (fun hn=>by simp [hn] at hb)
 · rcases getOb_two h with ⟨hlt,h'⟩|⟨hge,h'⟩
   · obtain ⟨hK,h''⟩:=getOb_kill_list h';rw [kill_length] at hlt
     refine (hS.obs id ob h'').keep (stn_outer s) (by omega) (fun b hb hr=>⟨outer_root_keep hb hr hK,outer_par_old hb⟩) (fun I hI=>?_) (fun _ b hb _ _=>(s.keep b hb (fun k=>k.1 rfl)).1)
     obtain ⟨c,hor⟩:=row_of hS h'' hI;obtain ⟨cur,e,hb,_⟩:=hor.blk
     exact (s.keep I.g (Array.getElem?_eq_some_iff.1 hb).1 (fun k=>k.1 rfl)).1
   · rw [kill_length] at hge h';have hk:=hkd _ _ h';have hok:=hSc.obs _ _ h';unfold OK at hok ⊢
     have e1:(X.outer Xc w.heap.size S'.length K).φ id=Xc.φ (id-S.length):=by
      have:¬id<X.N:=by omega
      simp [Cx.outer,hN];omega
     rw [e1]
     cases hI:Xc.φ (id-S.length) with
     | none=>rw [hI] at hok;exact hok
     | some I =>
      rw [hI] at hok;obtain ⟨c,hor⟩:=hok;have hnew:=inner_new s hor.root
      have hidN:id-S.length+X.N=id:=by omega
      refine ⟨c,hor.sz,hor.rows,by rw [outer_root_new hnew,hor.root];simp [hidN],by rw [outer_par_new hnew];exact hor.par,fun hp=>hor.npro (by rw [s.pro];exact .inl hp),hor.blk,hor.fits,hor.cell,fun i j hi hj=>?_⟩
      have h0:=hor.val i j hi hj
      have hnb:¬ob.kd=.box:=by rw [hk];simp
      rw [if_neg hnb] at h0 ⊢
      have:=h0.outer (n:=S'.length) (K:=K) s (by
       rcases ho with ho|ho
       · exact .inl (ownOnlyLL_mem (ho _ _ h') hor.rows hi hj)
       · exact .inr ho)
      rw [hidN] at this;exact this
theorem VR.outCell {n:Nat}{K:List Nat}{tree:Bool}{c:AV}{u:Value}(h:VR w' Xc c u)(hN:Xc.N=n)(hc:cellOk tree 0 c=true)(g:AV→AV)
    (hg1:∀id lo k,g (.sl id lo k)=.sl (X.N+id) lo k) (hg0:∀d,(∀id lo k,d≠.sl id lo k)→(∀q sz els,d≠.ts q sz els)→(∀q sz els i j,d≠.tp q sz els i j)→g d=d)
    (q':Ql) (hq':q'≠.own) (hgt:∀q sz els,tree=true→g (.ts q sz els)=.ts q' sz els) (hgp:∀q sz els i j,tree=true→g (.tp q sz els i j)=.tp q' sz els i j)
    (hok:tree=true→∀b,b<w'.heap.size→Xc.ok .imm b→(X.outer Xc w.heap.size n K).ok q' b):VR w' (X.outer Xc w.heap.size n K) (g c) u:=by
 cases c with
 | int k m=>rw [hg0 _ (by simp) (by simp) (by simp)];cases h;exact .int _ _
 | bool b=>rw [hg0 _ (by simp) (by simp) (by simp)];cases h;exact .bool _
 | str s=>rw [hg0 _ (by simp) (by simp) (by simp)];cases h;exact .str _
 | nilp=>rw [hg0 _ (by simp) (by simp) (by simp)];cases h;exact .nilp
 | sl id lo k =>
  rw [hg1]
  cases h with
  | sl id lo k cap I hid hI hn hcap hm =>
   refine .sl (X.N+id) lo k cap I (by simp only [Cx.outer];omega) ?_ hn hcap hm
   have:¬X.N+id<X.N:=by omega
   show (if X.N+id<X.N then _ else _)=_
   rw [if_neg this,Nat.add_sub_cancel_left];exact hI
  | slz id lo A hid=>exact .slz _ lo A (by simp only [Cx.outer];omega)
 | ts q sz els =>
  simp only [cellOk,Bool.and_eq_true,decide_eq_true_eq] at hc;obtain ⟨ht,rfl⟩:=hc;rw [hgt _ _ _ ht]
  cases h with
  | ts q hq sz els v hr=>exact .ts q' hq' sz els _ ((hr.keep (Nat.le_refl _) (fun b hb hok'=>⟨rfl,hok ht b hb hok'⟩)).setTop (q:=q'))
 | tp q sz els i j =>
  simp only [cellOk,Bool.and_eq_true,decide_eq_true_eq] at hc;obtain ⟨ht,rfl⟩:=hc;rw [hgp _ _ _ _ _ ht]
  cases h with
  | tp q hq sz els i j v hr=>exact .tp q' hq' sz els i j _ ((hr.keep (Nat.le_refl _) (fun b hb hok'=>⟨rfl,hok ht b hb hok'⟩)).setTop (q:=q'))
 | nil=>simp [cellOk] at hc
 | fn f caps=>simp [cellOk] at hc
 | agg cs=>simp [cellOk] at hc
 | tup cs=>simp [cellOk] at hc
 | ptr id i j=>simp [cellOk] at hc
 | any=>simp [cellOk] at hc
theorem VR.mapCells {w1 w2:World}{X1 X2:Cx}{g:AV→AV}{cs:List AV}{cv:List Value}(hl:cs.length=cv.length)(h:∀i,i<cs.length→VR w1 X1 (cs.getD i .undef) (cv.getD i Go.undef))
    (hg:∀c u,c∈cs→VR w1 X1 c u→VR w2 X2 (g c) u):(cs.map g).length=cv.length∧∀i,i<(cs.map g).length→VR w2 X2 ((cs.map g).getD i .undef) (cv.getD i Go.undef):=by
 refine ⟨by simpa using hl,fun i hi=>?_⟩
 have hi':i<cs.length:=by simpa using hi
 have h0:=h i hi'
 have e1:cs.getD i .undef=cs[i]:=by simp [List.getD_eq_getElem?_getD,hi']
 have e2:(cs.map g).getD i .undef=g cs[i]:=by simp [List.getD_eq_getElem?_getD,hi']
 rw [e1] at h0;rw [e2];exact hg _ _ (List.getElem_mem hi') h0
theorem VR.outTop {w1 w2:World}{X1 X2:Cx}{tree:Bool}{m:Nat}{g g1 g2:AV→AV}(hg:∀c u,cellOk tree m c=true→VR w1 X1 c u→VR w2 X2 (g c) u)
    (h1a:∀cs,g1 (.agg cs)=.agg (cs.map g)) (h1c:∀c,cellOk tree m c=true→g1 c=g c) (h2a:∀vs,g2 (.tup vs)=.tup (vs.map g1)) (h2c:∀v,valOk tree m v=true→g2 v=g1 v)
    {v:AV} {u:Value} (h:VR w1 X1 v u) (hv:topOk tree m v=true):VR w2 X2 (g2 v) u:=by
 have val:∀c u,valOk tree m c=true→VR w1 X1 c u→VR w2 X2 (g1 c) u:=by
  intro c u hc h
  have cell:cellOk tree m c=true→VR w2 X2 (g1 c) u:=fun hc=>by rw [h1c c hc];exact hg c u hc h
  cases c with
  | agg cs =>
   obtain ⟨cv,rfl,hl,hcv⟩:=h.agg_inv;rw [h1a]
   obtain ⟨k1,k2⟩:=VR.mapCells hl hcv (fun c u hm hcu=>hg c u (List.all_eq_true.1 hc c hm) hcu)
   exact .agg _ cv k1 k2
  | _=>exact cell hc
 have nt:valOk tree m v=true→VR w2 X2 (g2 v) u:=fun hv=>by rw [h2c v hv];exact val v u hv h
 cases v with
 | tup vs =>
  obtain ⟨cv,rfl,hl,hcv⟩:=h.tup_inv;rw [h2a]
  obtain ⟨k1,k2⟩:=VR.mapCells hl hcv (fun c u hm hcu=>val c u (List.all_eq_true.1 hv c hm) hcu)
  exact .tup _ cv k1 k2
 | _=>exact nt hv
structure Shape (fi:FnI) (S0:St) (res:AV) (S':St):Prop where
 given:S0.length=fi.given
 zero:fi.kind≠3→fi.given=0
 top:fi.kind≠3→topOk fi.tree 0 res=true
 kd:fi.kind≠3→∀id ob,getOb S' id=some ob→ob.kd=.arr
 own:fi.kind≠3→fi.tree=false→∀id ob,getOb S' id=some ob→ownOnlyLL ob.els=true
def FOK (P:Program)(T:Tab)(F:Nat→List AV→St→Option (AV×St)):Prop :=
 ∀f args S0 res S',F f args S0=some (res,S')→∃fi,T.fn f=some fi∧Shape fi S0 res S' ∧
  ∀w X (us:List Value),SR (T.at fi.soft) w X S0→args.length=us.length→(∀i,i<args.length→VR w X (args.getD i .undef) (us.getD i Go.undef)) →
   Calls P f us.toArray w (fun e w'=>∃v X',e=.returned v∧Stn w X w' X'∧SR (T.at fi.soft) w' X' S'∧VR w' X' res v)
theorem lendAll_ok (hS:SR T w X S){A:Nat→Prop}:∀ {vs:List AV} {ess:List (List Nat)} {vs':List AV} {us:List Value},lendAll S ess vs=some vs'→vs.length=us.length→(∀i,i<vs.length→VR w X (vs.getD i .undef) (us.getD i Go.undef)) →
    (∀v∈vs,MayLend w X S A (idsDeep S v) (cleanArg S v))→vs'.length=vs.length∧∀i,i<vs.length→VR w (X.inner w.heap.size A) (vs'.getD i .undef) (us.getD i Go.undef):=by
 intro vs
 induction vs with
 | nil=>intro ess vs' us h hl hv hm;cases ess<;>(simp only [lendAll,Option.some.injEq] at h;subst h;exact ⟨rfl,fun i hi=>absurd hi (Nat.not_lt_zero i)⟩)
 | cons v vs ih =>
  intro ess vs' us h hl hv hm
  cases ess with
  | nil=>simp [lendAll] at h
  | cons es ess =>
   cases us with
   | nil=>simp at hl
   | cons u us =>
    simp only [lendAll] at h;split at h
    · cases h
    · rename_i v1 h1
      split at h<;>cases h
      rename_i vs1 h2
      obtain ⟨k1,k2⟩:=ih h2 (by simpa using hl) (fun i hi=>by simpa using hv (i+1) (by simpa using hi)) (fun c hc=>hm c (List.mem_cons_of_mem _ hc))
      refine ⟨by simp [k1],fun i hi=>?_⟩
      cases i with
      | zero=>simpa using lend_ok hS (by simpa using hv 0 (by simp)) h1 (hm v (List.mem_cons_self ..))
      | succ i=>simpa using k2 i (by simpa using hi)
end Go.Pi

namespace Go.Pi
open Go
variable {P:Program} {T:Tab} {o:Oper} {a:Act} {w w':World} {X X' Xc:Cx} {fr:Fr} {S S':St} {v:AV}
def rebaseAll (m len:Nat):AV→AV
 | .tup vs=>.tup (vs.map (rebase m len))
 | v=>rebase m len v
theorem map_id_of {f:AV→AV}{l:List AV}(h:∀a∈l,f a=a):l.map f=l:=by
 induction l with
 | nil=>rfl
 | cons a l ih=>simp [h a (by simp),ih (fun b hb=>h b (by simp [hb]))]
theorem rebaseCell_self {tree:Bool}{m:Nat}{c:AV}(h:cellOk tree m c=true):rebaseCell m m c=c:=by
 cases c with
 | sl id lo n =>
  simp only [cellOk,decide_eq_true_eq] at h;simp only [rebaseCell]
  congr 1;omega
 | _=>rfl
theorem rebase_self {tree:Bool}{m:Nat}{c:AV}(h:valOk tree m c=true):rebase m m c=c:=by
 have hc:cellOk tree m c=true→rebase m m c=rebaseCell m m c→rebase m m c=c:=fun h1 h2=>h2.trans (rebaseCell_self h1)
 cases c with
 | agg cs =>
  simp only [rebase]
  rw [map_id_of (fun a ha=>rebaseCell_self (List.all_eq_true.1 h a ha))]
 | _=>exact hc h rfl
theorem rebaseTop_eq {tree:Bool}{m len:Nat}{v:AV}(h:topOk tree m v=true):rebaseTop m len v=rebaseAll m len v:=by
 unfold rebaseTop;split
 · rename_i he;subst he
   have hc:valOk tree m v=true→rebaseAll m m v=rebase m m v→v=rebaseAll m m v:=fun h1 h2=>(h2.trans (rebase_self h1)).symm
   cases v with
   | tup vs =>
    simp only [rebaseAll]
    rw [map_id_of (fun a ha=>rebase_self (List.all_eq_true.1 h a ha))]
   | _=>exact hc h rfl
 · rfl
theorem rebase_cell {tree:Bool}{m len:Nat}{c:AV}(h:cellOk tree m c=true):rebase m len c=rebaseCell m len c:=by
 cases c<;>first | rfl | (simp [cellOk] at h)
theorem rebaseAll_val {tree:Bool}{m len:Nat}{v:AV}(h:valOk tree m v=true):rebaseAll m len v=rebase m len v:=by
 cases v<;>first | rfl | (simp [valOk,cellOk] at h)
theorem weak1_cell {tree:Bool}{m:Nat}{c:AV}(h:cellOk tree m c=true):weak1 c=setQ .bor c:=by
 cases c<;>first | rfl | (simp [cellOk] at h)
theorem weak_val {tree:Bool}{m:Nat}{v:AV}(h:valOk tree m v=true):weak v=weak1 v:=by
 cases v<;>first | rfl | (simp [valOk,cellOk] at h)
theorem cellOk_norow {c:AV}{u:Value}(hN:Xc.N=0)(h:VR w' Xc c u):∀id lo n,c≠.sl id lo n:=by
 rintro id lo n rfl
 cases h with
 | sl id lo n cap I hid=>omega
 | slz id lo A hid=>omega
theorem VR.norow {n:Nat}{tree:Bool}{v:AV}{u:Value}(h:VR w' Xc v u)(hN:Xc.N=0)(ht:topOk tree 0 v=true)(hc:∀ {c:AV},cellOk tree 0 c=true→(∀id lo n,c≠.sl id lo n)→rebaseCell 0 n c=c):rebaseAll 0 n v=v:=by
 have cell:∀ {c:AV} {u:Value},VR w' Xc c u→cellOk tree 0 c=true→rebaseCell 0 n c=c:=fun hv h1=>hc h1 (cellOk_norow hN hv)
 have val:∀ {c:AV} {u:Value},VR w' Xc c u→valOk tree 0 c=true→rebase 0 n c=c:=by
  intro c u hv h1
  cases c with
  | agg cs =>
   obtain ⟨cv,rfl,hl,hcv⟩:=hv.agg_inv;simp only [rebase]
   congr 1
   refine map_id_of (fun a ha=>?_)
   obtain ⟨i,hi,rfl⟩:=List.mem_iff_getElem.1 ha;have:=hcv i hi
   rw [show cs.getD i .undef=cs[i] by simp [List.getD_eq_getElem?_getD,hi]] at this
   exact cell this (List.all_eq_true.1 h1 _ (List.getElem_mem hi))
  | _=>exact cell hv h1
 cases v with
 | tup cs =>
  cases h with
  | tup cs cv hl hcv =>
   simp only [rebaseAll]
   congr 1
   refine map_id_of (fun a ha=>?_)
   obtain ⟨i,hi,rfl⟩:=List.mem_iff_getElem.1 ha;have:=hcv i hi
   rw [show cs.getD i .undef=cs[i] by simp [List.getD_eq_getElem?_getD,hi]] at this
   exact val this (List.all_eq_true.1 ht _ (List.getElem_mem hi))
 | _=>exact val h ht
theorem call_lent_ok {F:Nat→List AV→St→Option (AV×St)}(hF:FOK P T F)(hS:SR T w X S){f:Nat}{fi:FnI}(hfi:T.fn f=some fi)(hk2:fi.kind≠3)(hsf:fi.soft=false){args:List AV}{us:List Value}
    (hl:args.length=us.length) (hv:∀i,i<args.length→VR w X (args.getD i .undef) (us.getD i Go.undef)) {args':List AV} (ha:lendAll S fi.pes args=some args') {res:AV} {Sr:St} (hr:F f args' []=some (res,Sr))
    (h : (if fi.tree then
            if Sr.length=0 then some ((if args.all (cleanArg S)=true then res else weak res),kill S (args.flatMap (idsDeep S)))
            else if args.all (cleanArg S)=true∧T.soft=false then some (rebaseTop 0 S.length res,kill S (args.flatMap (idsDeep S))++Sr)
            else none
          else some (rebaseTop 0 S.length res,S++Sr))=some (v,S')) :
    Calls P f us.toArray w (fun e w'=>∃v' X',e=.returned v'∧Stn w X w' X'∧SR T w' X' S'∧VR w' X' v v'):=by
 have hN:=hS.n;obtain ⟨fi',hfi',hsh,hcall⟩:=hF f args' [] res Sr hr;rw [hfi] at hfi'
 injection hfi' with hfi'
 subst hfi';have htop:topOk fi.tree 0 res=true:=hsh.top hk2
 have go:∀(A:Nat→Prop),(∀v∈args,MayLend w X S A (idsDeep S v) (cleanArg S v))→Calls P f us.toArray w (fun e w'=>∃v' Xc,e=.returned v'∧Stn w (X.inner w.heap.size A) w' Xc∧SR (T.at fi.soft) w' Xc Sr∧VR w' Xc res v'):=by
  intro A hm;obtain ⟨k1,k2⟩:=lendAll_ok (A:=A) hS ha hl hv hm
  exact hcall w _ us (sr_inner hsf hS A) (by omega) (fun i hi=>k2 i (by omega))
 have hkd:∀id ob,getOb Sr id=some ob→ob.kd=.arr:=fun id ob h=>hsh.kd hk2 id ob h
 have hcellsl:∀ {g:AV→AV},g=rebaseCell 0 S.length→(∀id lo k,g (.sl id lo k)=.sl (X.N+id) lo k):=by
  rintro g rfl id lo k
  simp [rebaseCell,hN]
 have hcell0:∀d,(∀id lo k,d≠.sl id lo k)→rebaseCell 0 S.length d=d:=by
  intro d hd
  cases d<;>first | rfl | (exact absurd rfl (hd _ _ _))
 by_cases ht:fi.tree=true
 · rw [if_pos ht] at h;split at h
   · 
     rename_i hz;cases h
     by_cases hclean:args.all (cleanArg S)=true
     · 
       rw [if_pos hclean]
       refine (go (fun b=>X.root b=none∨∃id,id∈args.flatMap (idsDeep S)∧X.root b=some id) (fun v hv'=>⟨fun b hb=>.inl hb,fun id hid b hb=>.inr ⟨id,List.mem_flatMap.2 ⟨v,hv',hid⟩,hb⟩,.inr (List.all_eq_true.1 hclean v hv')⟩)).mono ?_
       rintro e w' ⟨v',Xc,rfl,s,hSc,hvr⟩
       have hSr:Sr=[]:=List.eq_nil_of_length_eq_zero hz;subst hSr;have hNc:Xc.N=0:=hSc.n;refine ⟨v',X.outer Xc w.heap.size 0 (args.flatMap (idsDeep S)),rfl,stn_outer s.toStp,?_,?_⟩
       · have:=sr_outer (K:=args.flatMap (idsDeep S)) hS hSc s.toStp hkd (.inl fun id ob h=>by simp [getOb] at h)
         simpa using this
       · have e0 : rebaseTop 0 S.length res = res := by
           rw [rebaseTop_eq htop]
           have hc:∀ {c:AV},cellOk fi.tree 0 c=true→(∀id lo n,c≠.sl id lo n)→rebaseCell 0 S.length c=c:=fun _ hn=>hcell0 _ hn
           exact hvr.norow hNc htop hc
         have hokb:∀b,b<w'.heap.size→Xc.ok .imm b→(X.outer Xc w.heap.size 0 (args.flatMap (idsDeep S))).ok .imm b:=by
          intro b hb hok
          have hnp:¬(X.pro b∨(b<w.heap.size∧¬(X.root b=none∨∃id,id∈args.flatMap (idsDeep S)∧X.root b=some id))):=by
           have:=hok.2;rw [s.pro] at this;exact this
          refine ⟨?_,fun hp=>hnp (.inl hp)⟩
          by_cases hlt:b<w.heap.size
          · have hA:X.root b=none∨∃id,id∈args.flatMap (idsDeep S)∧X.root b=some id:=Classical.byContradiction fun hn=>hnp (.inr ⟨hlt,hn⟩)
            rcases hA with hA|⟨id,hid,hrt⟩
            · exact outer_root_old hlt hA
            · exact outer_root_kill hlt hrt hid
          · rw [outer_root_new hlt,hok.1];rfl
         rw [←e0,rebaseTop_eq htop]
         refine VR.outTop (tree:=fi.tree) (m:=0) (g:=rebaseCell 0 S.length) (g1:=rebase 0 S.length) (g2:=rebaseAll 0 S.length) (fun c u hc hcu=>?_) (fun cs=>rfl) (fun c hc=>rebase_cell hc) (fun vs=>rfl) (fun v hv'=>rebaseAll_val hv') hvr htop
         have hq:∀q sz els,c=.ts q sz els→q=.imm:=by rintro q sz els rfl;simp only [cellOk,Bool.and_eq_true,decide_eq_true_eq] at hc;exact hc.2
         have hq2:∀q sz els i j,c=.tp q sz els i j→q=.imm:=by rintro q sz els i j rfl;simp only [cellOk,Bool.and_eq_true,decide_eq_true_eq] at hc;exact hc.2
         have k:VR w' (X.outer Xc w.heap.size 0 (args.flatMap (idsDeep S))) ((fun d:AV=>match d with | .ts _ sz els=>.ts .imm sz els | .tp _ sz els i j=>.tp .imm sz els i j | d=>rebaseCell 0 S.length d) c) u :=
          hcu.outCell (w:=w) (X:=X) (K:=args.flatMap (idsDeep S)) hNc hc (fun d:AV=>match d with | .ts _ sz els=>.ts .imm sz els | .tp _ sz els i j=>.tp .imm sz els i j | d=>rebaseCell 0 S.length d) (hcellsl rfl)
           (fun d h1 h2 h3=>by cases d<;>first | rfl | exact absurd rfl (h1 _ _ _) | exact absurd rfl (h2 _ _ _) | exact absurd rfl (h3 _ _ _ _ _)) .imm (by simp) (fun _ _ _ _=>rfl) (fun _ _ _ _ _ _=>rfl) (fun _=>hokb)
         cases c with
         | ts q sz els=>have:=hq _ _ _ rfl;subst this;exact k
         | tp q sz els i j=>have:=hq2 _ _ _ _ _ rfl;subst this;exact k
         | _=>exact k
     rw [if_neg hclean]
     refine (go (fun b=>¬X.isRoot b∨∃id,id∈args.flatMap (idsDeep S)∧X.root b=some id) (fun v hv'=>⟨fun b hb=>.inl (not_root_of_none hb),fun id hid b hb=>.inr ⟨id,List.mem_flatMap.2 ⟨v,hv',hid⟩,hb⟩,.inl fun b hb=>.inl hb⟩)).mono ?_
     rintro e w' ⟨v',Xc,rfl,s,hSc,hvr⟩
     have hSr:Sr=[]:=List.eq_nil_of_length_eq_zero hz;subst hSr;have hNc:Xc.N=0:=hSc.n;refine ⟨v',X.outer Xc w.heap.size 0 (args.flatMap (idsDeep S)),rfl,stn_outer s.toStp,?_,?_⟩
     · have:=sr_outer (K:=args.flatMap (idsDeep S)) hS hSc s.toStp hkd (.inl fun id ob h=>by simp [getOb] at h)
       simpa using this
     · refine VR.outTop (tree:=fi.tree) (m:=0) (g:=setQ .bor) (g1:=weak1) (g2:=weak) (fun c u hc hcu=>?_) (fun cs=>rfl) (fun c hc=>weak1_cell hc) (fun vs=>rfl) (fun v hv'=>weak_val hv') hvr htop
       have hns:=cellOk_norow hNc hcu
       have hokb:∀b,b<w'.heap.size→Xc.ok .imm b→(X.outer Xc w.heap.size 0 (args.flatMap (idsDeep S))).ok .bor b:=by
        intro b hb hok
        have hnp:¬(X.pro b∨(b<w.heap.size∧¬(¬X.isRoot b∨∃id,id∈args.flatMap (idsDeep S)∧X.root b=some id))):=by
         have:=hok.2;rw [s.pro] at this;exact this
        refine ⟨?_,fun hp=>hnp (.inl hp)⟩
        by_cases hlt:b<w.heap.size
        · have hA:¬X.isRoot b∨∃id,id∈args.flatMap (idsDeep S)∧X.root b=some id:=Classical.byContradiction fun hn=>hnp (.inr ⟨hlt,hn⟩)
          rcases hA with hA|⟨id,hid,hrt⟩
          · exact outer_not_root hlt hA
          · exact not_root_of_none (outer_root_kill hlt hrt hid)
        · refine not_root_of_none ?_;rw [outer_root_new hlt,hok.1];rfl
       have k:VR w' (X.outer Xc w.heap.size 0 (args.flatMap (idsDeep S))) ((fun d:AV=>match d with | .sl id lo k=>.sl (X.N+id) lo k | d=>setTop .bor d) c) u :=
        hcu.outCell (w:=w) (X:=X) (K:=args.flatMap (idsDeep S)) hNc hc (fun d:AV=>match d with | .sl id lo k=>.sl (X.N+id) lo k | d=>setTop .bor d) (fun _ _ _=>rfl)
         (fun d h1 h2 h3=>by cases d<;>first | rfl | exact absurd rfl (h1 _ _ _) | exact absurd rfl (h2 _ _ _) | exact absurd rfl (h3 _ _ _ _ _)) .bor (by simp) (fun _ _ _ _=>rfl) (fun _ _ _ _ _ _=>rfl) (fun _=>hokb)
       have k2:VR w' (X.outer Xc w.heap.size 0 (args.flatMap (idsDeep S))) (setTop .bor c) u:=by cases c<;>first | exact k | exact absurd rfl (hns _ _ _)
       exact k2.deep (by simp) (by rintro cs rfl;simp [cellOk] at hc)
   · split at h
     · 
       rename_i hclean;obtain ⟨hclean,hts⟩:=hclean;cases h
       refine (go (fun b=>X.root b=none∨∃id,id∈args.flatMap (idsDeep S)∧X.root b=some id) (fun v hv'=>⟨fun b hb=>.inl hb,fun id hid b hb=>.inr ⟨id,List.mem_flatMap.2 ⟨v,hv',hid⟩,hb⟩,.inr (List.all_eq_true.1 hclean v hv')⟩)).mono ?_
       rintro e w' ⟨v',Xc,rfl,s,hSc,hvr⟩
       have hNc:Xc.N=Sr.length:=hSc.n
       have hkeeps:Keeps w' Xc (X.outer Xc w.heap.size Sr.length (args.flatMap (idsDeep S))):=by
        intro q b hb hok
        have hnp:¬(X.pro b∨(b<w.heap.size∧¬(X.root b=none∨∃id,id∈args.flatMap (idsDeep S)∧X.root b=some id))):=by
         have:=Cx.ok_npro hok;rw [s.pro] at this;exact this
        have hnpo:¬(X.outer Xc w.heap.size Sr.length (args.flatMap (idsDeep S))).pro b:=fun hp=>hnp (.inl hp)
        by_cases hlt:b<w.heap.size
        · have hA:X.root b=none∨∃id,id∈args.flatMap (idsDeep S)∧X.root b=some id:=Classical.byContradiction fun hn=>hnp (.inr ⟨hlt,hn⟩)
          have hr0:(X.outer Xc w.heap.size Sr.length (args.flatMap (idsDeep S))).root b=none:=by
           rcases hA with hA|⟨id,hid,hrt⟩
           · exact outer_root_old hlt hA
           · exact outer_root_kill hlt hrt hid
          cases q
          · exact ⟨not_root_of_none hr0,hnpo⟩
          · exact ⟨not_root_of_none hr0,hnpo⟩
          · exact ⟨hr0,hnpo⟩
        · have hnr : ¬ Xc.isRoot b → ¬ (X.outer Xc w.heap.size Sr.length (args.flatMap (idsDeep S))).isRoot b := by
            rintro h1 ⟨h2,h3⟩
            rw [outer_root_new hlt] at h2;rw [outer_par_new hlt] at h3
            refine h1 ⟨fun hn=>h2 (by rw [hn];rfl),.inl (h3.resolve_right fun k=>?_)⟩
            have:=hS.sft.1 k;rw [hts] at this;cases this
          cases q
          · exact ⟨hnr hok.1,hnpo⟩
          · exact ⟨hnr hok.1,hnpo⟩
          · exact ⟨by rw [outer_root_new hlt,hok.1];rfl,hnpo⟩
       refine ⟨v',X.outer Xc w.heap.size Sr.length (args.flatMap (idsDeep S)),rfl,stn_outer s.toStp,sr_outer hS hSc s.toStp hkd (.inr hkeeps),?_⟩;rw [rebaseTop_eq htop]
       refine VR.outTop (tree:=fi.tree) (m:=0) (g:=rebaseCell 0 S.length) (g1:=rebase 0 S.length) (g2:=rebaseAll 0 S.length) (fun c u hc hcu=>?_) (fun cs=>rfl) (fun c hc=>rebase_cell hc) (fun vs=>rfl) (fun v hv'=>rebaseAll_val hv') hvr htop
       have hq:∀q sz els,c=.ts q sz els→q=.imm:=by rintro q sz els rfl;simp only [cellOk,Bool.and_eq_true,decide_eq_true_eq] at hc;exact hc.2
       have hq2:∀q sz els i j,c=.tp q sz els i j→q=.imm:=by rintro q sz els i j rfl;simp only [cellOk,Bool.and_eq_true,decide_eq_true_eq] at hc;exact hc.2
       have k:VR w' (X.outer Xc w.heap.size Sr.length (args.flatMap (idsDeep S))) ((fun d:AV=>match d with | .ts _ sz els=>.ts .imm sz els | .tp _ sz els i j=>.tp .imm sz els i j | d=>rebaseCell 0 S.length d) c) u :=
        hcu.outCell (w:=w) (X:=X) (K:=args.flatMap (idsDeep S)) hNc hc (fun d:AV=>match d with | .ts _ sz els=>.ts .imm sz els | .tp _ sz els i j=>.tp .imm sz els i j | d=>rebaseCell 0 S.length d) (hcellsl rfl)
         (fun d h1 h2 h3=>by cases d<;>first | rfl | exact absurd rfl (h1 _ _ _) | exact absurd rfl (h2 _ _ _) | exact absurd rfl (h3 _ _ _ _ _)) .imm (by simp) (fun _ _ _ _=>rfl) (fun _ _ _ _ _ _=>rfl) (fun _ b hb hok=>hkeeps .imm b hb hok)
       cases c with
       | ts q sz els=>have:=hq _ _ _ rfl;subst this;exact k
       | tp q sz els i j=>have:=hq2 _ _ _ _ _ rfl;subst this;exact k
       | _=>exact k
     · cases h
 · 
   have ht':fi.tree=false:=by simpa using ht
   rw [if_neg ht] at h;cases h
   refine (go (fun _=>True) (fun v hv'=>⟨fun _ _=>trivial,fun _ _ _ _=>trivial,.inl fun _ _=>trivial⟩)).mono ?_
   rintro e w' ⟨v',Xc,rfl,s,hSc,hvr⟩
   have hNc:Xc.N=Sr.length:=hSc.n
   refine ⟨v',X.outer Xc w.heap.size Sr.length [],rfl,stn_outer s.toStp,sr_outer (K:=[]) hS hSc s.toStp hkd (.inl fun id ob h=>hsh.own hk2 ht' id ob h),?_⟩
   rw [rebaseTop_eq htop]
   refine VR.outTop (tree:=fi.tree) (m:=0) (g:=rebaseCell 0 S.length) (g1:=rebase 0 S.length) (g2:=rebaseAll 0 S.length) (fun c u hc hcu=>?_) (fun cs=>rfl) (fun c hc=>rebase_cell hc) (fun vs=>rfl) (fun v hv'=>rebaseAll_val hv') hvr htop
   exact hcu.outCell (X:=X) (K:=[]) (g:=rebaseCell 0 S.length) hNc hc (hcellsl rfl) (fun d h1 h2 h3=>hcell0 d h1) .imm (by simp) (fun _ _ _ h=>absurd h ht) (fun _ _ _ _ _ h=>absurd h ht) (fun h=>absurd h ht)
end Go.Pi

namespace Go.Pi
open Go
variable {P:Program} {T:Tab} {o:Oper} {a:Act} {w w':World} {X X' Xc:Cx} {fr:Fr} {S S':St} {v:AV}
def Cx.renum (X:Cx)(len m:Nat):Cx where
 N:=X.N-(m-len)
 root b:=match X.root b with
  | some i=>if i<len then some i else if i<m then none else some (len+(i-m))
  | none=>none
 par:=X.par
 φ j:=if j<len then X.φ j else X.φ (m+(j-len))
 pro:=X.pro
 soft:=X.soft
theorem stp_renum (len m:Nat):Stp w X w (X.renum len m):=by
 refine ⟨rfl,⟨rfl,Nat.le_refl _⟩,rfl,Nat.le_refl _,fun b hb hr=>⟨rfl,?_⟩,fun b hb hr=>by simp [Cx.renum,hr],rfl,rfl⟩
 rintro ⟨h1,h2⟩
 exact hr ⟨fun hn=>by simp [Cx.renum,hn] at h1,h2⟩
theorem VR.renum_old {len m:Nat}{w0:World}{X0:Cx}(hN:X0.N=len)(hle:len≤X.N-(m-len)){av:AV}{u:Value}(h:VR w X av u):∀ {u0:Value},VR w0 X0 av u0→VR w (X.renum len m) av u:=by
 induction h with
 | int k n=>intro _ _;exact .int k n
 | bool b=>intro _ _;exact .bool b
 | str s=>intro _ _;exact .str s
 | nil=>intro _ _;exact .nil
 | nilp=>intro _ _;exact .nilp
 | fn f caps cv hl _ ih=>intro u0 h0;obtain ⟨cv0,_,_,h0⟩:=h0.fn_inv;exact .fn f caps cv hl (fun i hi=>ih i hi (h0 i hi))
 | agg cs cv hl _ ih=>intro u0 h0;obtain ⟨cv0,_,_,h0⟩:=h0.agg_inv;exact .agg cs cv hl (fun i hi=>ih i hi (h0 i hi))
 | tup cs cv hl _ ih=>intro u0 h0;obtain ⟨cv0,_,_,h0⟩:=h0.tup_inv;exact .tup cs cv hl (fun i hi=>ih i hi (h0 i hi))
 | ts q hq sz els v h=>intro _ _;exact .ts q hq sz els v (h.stp (stp_renum len m))
 | tp q hq sz els i j v h=>intro _ _;exact .tp q hq sz els i j v (h.stp (stp_renum len m))
 | sl id lo n cap I hid hI hn hc hm =>
  intro u0 h0
  have hlt:id<len:=by cases h0<;>omega
  exact .sl id lo n cap I (by simp only [Cx.renum];omega) (by simp [Cx.renum,hlt,hI]) hn hc hm
 | slz id lo A hid =>
  intro u0 h0
  have hlt:id<len:=by cases h0<;>omega
  exact .slz id lo A (by simp only [Cx.renum];omega)
 | ptr id i j I hid hI =>
  intro u0 h0
  have hlt:id<len:=by cases h0<;>omega
  exact .ptr id i j I (by simp only [Cx.renum];omega) (by simp [Cx.renum,hlt,hI])
theorem CR.renum {len m id id':Nat}(hlab:(if id<len then some id else if id<m then none else some (len+(id-m)))=some id'){loc:Nat×Nat}{av:AV}{u:Value}(h:CR w X id loc av u):CR w (X.renum len m) id' loc av u :=
 h.reloc (stp_renum len m) (fun l=>l) (fun _ _ _=>rfl) (fun b hb hr hp=>⟨by simp only [Cx.renum,hr];exact hlab,by simp [Cx.renum]⟩) (fun _ _ _ _ _=>rfl)
theorem getOb_take_drop {len m id:Nat}{ob:Ob}(hlm:len≤m)(hm:m≤S.length)(h:getOb (S.take len++S.drop m) id=some ob):(id<len∧getOb S id=some ob)∨(len≤id∧getOb S (m+(id-len))=some ob):=by
 have hl:(S.take len).length=len:=by simp;omega
 rcases getOb_two h with ⟨h1,h2⟩|⟨h1,h2⟩
 · rw [hl] at h1;refine .inl ⟨h1,?_⟩;unfold getOb at h2 ⊢;rw [List.getElem?_take,if_pos h1] at h2;exact h2
 · rw [hl] at h1 h2;refine .inr ⟨h1,?_⟩;unfold getOb at h2 ⊢;rw [List.getElem?_drop] at h2;exact h2
theorem sr_renum {w0:World}{X0:Cx}{S0:St}{len m:Nat}(hS0:SR T w0 X0 S0)(hlen:S0.length=len)(hS:SR T w X S)(hlm:len≤m)(hm:m≤S.length)
    (hbox:∀id ob,id<len→getOb S id=some ob→ob.kd=.box→getOb S0 id=some ob) (hφ:∀id,id<len→X.φ id=X0.φ id) (hnew:∀id ob,m≤id→getOb S id=some ob→ob.kd≠.box):SR T w (X.renum len m) (S.take len++S.drop m):=by
 have hN:=hS.n;have hN0:=hS0.n
 refine ⟨by simp [Cx.renum,hN];omega,fun b hb=>hS.lab b (fun hn=>by simp [Cx.renum,hn] at hb),hS.pro,fun id ob h=>?_,hS.sft⟩
 rcases getOb_take_drop hlm hm h with ⟨hlt,h'⟩|⟨hge,h'⟩
 · have hok:=hS.obs id ob h';unfold OK at hok ⊢
   have e1:(X.renum len m).φ id=X.φ id:=by simp [Cx.renum,hlt]
   rw [e1]
   cases hI:X.φ id with
   | none=>rw [hI] at hok;exact hok
   | some I =>
    rw [hI] at hok;obtain ⟨c,hor⟩:=hok
    refine ⟨c,hor.sz,hor.rows,by simp [Cx.renum,hor.root,hlt],hor.par,hor.npro,hor.blk,hor.fits,hor.cell,fun i j hi hj=>?_⟩
    have h0:=hor.val i j hi hj
    by_cases hk:ob.kd=.box
    · rw [if_pos hk] at h0 ⊢;have hob0:=hbox id ob hlt h' hk
      obtain ⟨c0,hor0⟩:=row_of hS0 hob0 (by rw [←hφ id hlt];exact hI)
      have h1:=hor0.val i j hi hj;rw [if_pos hk] at h1
      exact h0.renum_old (by omega) (by omega) h1
    · rw [if_neg hk] at h0 ⊢
      exact h0.renum (by simp [hlt])
 · have hok:=hS.obs _ ob h';unfold OK at hok ⊢
   have hnl:¬id<len:=by omega
   have e1:(X.renum len m).φ id=X.φ (m+(id-len)):=by simp [Cx.renum,hnl]
   rw [e1]
   cases hI:X.φ (m+(id-len)) with
   | none=>rw [hI] at hok;exact hok
   | some I =>
    rw [hI] at hok;obtain ⟨c,hor⟩:=hok
    have hlab:(if m+(id-len)<len then some (m+(id-len)) else if m+(id-len)<m then none else some (len+(m+(id-len)-m)))=some id:=by
     rw [if_neg (by omega),if_neg (by omega)];congr 1;omega
    refine ⟨c,hor.sz,hor.rows,by simp only [Cx.renum,hor.root];exact hlab,hor.par,hor.npro,hor.blk,hor.fits,hor.cell,fun i j hi hj=>?_⟩
    have h0:=hor.val i j hi hj
    have hk:=hnew _ ob (by omega) h'
    rw [if_neg hk] at h0 ⊢;exact h0.renum hlab
theorem VR.renum_new {tree:Bool}{len m:Nat}(hlm:len≤m)(hm:m≤X.N){v:AV}{u:Value}(h:VR w X v u)(hv:topOk tree m v=true):VR w (X.renum len m) (rebaseTop m len v) u:=by
 rw [rebaseTop_eq hv]
 refine VR.outTop (tree:=tree) (m:=m) (g:=rebaseCell m len) (g1:=rebase m len) (g2:=rebaseAll m len) (fun c u hc hcu=>?_) (fun cs=>rfl) (fun c hc=>rebase_cell hc) (fun vs=>rfl) (fun v hv'=>rebaseAll_val hv') h hv
 cases hcu with
 | int k n=>exact .int k n
 | bool b=>exact .bool b
 | str s=>exact .str s
 | nilp=>exact .nilp
 | ts q hq sz els v h=>exact .ts q hq sz els _ (h.stp (stp_renum len m))
 | tp q hq sz els i j v h=>exact .tp q hq sz els i j _ (h.stp (stp_renum len m))
 | sl id lo n cap I hid hI hn hcap hmx =>
  simp only [cellOk,decide_eq_true_eq] at hc
  have hnl:¬len+(id-m)<len:=by omega
  have e1:m+(len+(id-m)-len)=id:=by omega
  exact .sl _ lo n cap I (by simp only [Cx.renum];omega) (by simp only [Cx.renum];rw [if_neg hnl,e1];exact hI) hn hcap hmx
 | slz id lo A hid =>
  simp only [cellOk,decide_eq_true_eq] at hc
  exact .slz _ lo A (by simp only [Cx.renum];omega)
 | nil=>simp [cellOk] at hc
 | fn f caps cv hl h=>simp [cellOk] at hc
 | agg cs cv hl h=>simp [cellOk] at hc
 | tup cs cv hl h=>simp [cellOk] at hc
 | ptr id i j I hid hI=>simp [cellOk] at hc
end Go.Pi

namespace Go.Pi
open Go
variable {P:Program} {T:Tab} {o:Oper} {a:Act} {w w':World} {X X' Xc:Cx} {fr:Fr} {S S':St} {v:AV}
theorem ren_ok (hS:SR T w X S){id:Nat}{ob:Ob}{I:Info}(hob:getOb S id=some ob)(hkd:ob.kd≠.box)(hI:X.φ id=some I){lo n:Nat}(hln:lo+n≤ob.els.length){W:List (List AV)}(hW:W.length=n)
    (hrows:∀r∈W,r.length=ob.sz) (hat:∀i j,i<n→j<ob.sz→at2 W i j=at2 ob.els (lo+i) j∨(¬X.soft∧at2 W i j=setTop .bor (at2 ob.els (lo+i) j))) :
    ∃X',Stn w X w X'∧SR T w X' (S.set id none++[some ⟨.arr,ob.sz,W⟩])∧X'.N=X.N+1∧X'.φ X.N=some ⟨I.g,I.o+lo*I.sz,I.sz,I.size⟩:=by
 obtain ⟨co,hor⟩:=row_of hS hob hI;have hidlt:=getOb_lt hob;have hN:=hS.n;have hsz:=hor.sz;have hfits:=hor.fits
 have s:Stn w X w (X.ren id ⟨I.g,I.o+lo*I.sz,I.sz,I.size⟩):=by
  refine ⟨⟨rfl,⟨rfl,Nat.le_refl _⟩,rfl,Nat.le_refl _,fun b hb hr=>⟨rfl,?_⟩,fun b hb hr=>by simp [Cx.ren,hr],rfl,rfl⟩,by simp [Cx.ren],fun i hi=>by
   have:i≠X.N:=by omega
   simp [Cx.ren,this]⟩
  rintro ⟨h1,h2⟩
  exact hr ⟨fun hn=>by simp [Cx.ren,hn] at h1,h2⟩
 refine ⟨_,s,⟨by simp [Cx.ren,hN],fun b hb=>hS.lab b (fun hn=>by simp [Cx.ren,hn] at hb),hS.pro,fun id' ob' h=>?_,hS.sft⟩,rfl,by simp [Cx.ren]⟩
 rcases getOb_append h with ⟨hlt,h'⟩|⟨rfl,rfl⟩
 · obtain ⟨hne',h''⟩:=getOb_kill h'
   exact (hS.obs id' ob' h'').keep s (by rw [hN];exact getOb_lt h'') (fun b hb hr=>by simp [Cx.ren,hr,hne']) (fun _ _=>rfl) (fun _ _ _ _ _=>rfl)
 · unfold OK
   have e1:(X.ren id ⟨I.g,I.o+lo*I.sz,I.sz,I.size⟩).φ (S.set id none).length=some ⟨I.g,I.o+lo*I.sz,I.sz,I.size⟩:=by simp [Cx.ren,hN]
   rw [e1]
   refine ⟨fun i j=>co (lo+i) j,hsz,hrows,by simp [Cx.ren,hor.root,hN],by simp [Cx.ren,hor.par],hor.npro,hor.blk,?_,fun i j hi hj=>?_,fun i j hi hj=>?_⟩
   · simp only [hW];have:(lo+n)*I.sz≤ob.els.length*I.sz:=Nat.mul_le_mul_right _ hln;rw [Nat.add_mul] at this;omega
   · simp only [hW] at hi;have hj:j<ob.sz:=hj
     have h0:=hor.cell (lo+i) j (by omega) hj
     have he:I.o+lo*I.sz+i*I.sz+j=I.o+(lo+i)*I.sz+j:=by rw [Nat.add_mul];omega
     rw [he];exact h0
   · simp only [hW] at hi;have hj:j<ob.sz:=hj
     rw [if_neg (by simp)]
     have h0:=hor.val (lo+i) j (by omega) hj
     rw [if_neg hkd] at h0
     have he:I.o+(lo+i)*I.sz+j=I.o+lo*I.sz+i*I.sz+j:=by rw [Nat.add_mul];omega
     rw [he] at h0
     have h1:=h0.reloc s.toStp (rid:=X.N) (fun l=>l) (fun _ _ _=>rfl) (fun b _ hr _=>by simp [Cx.ren,hr]) (fun _ _ _ _ _=>rfl)
     simp only [hN] at h1;simp only [List.length_set]
     rcases hat i j hi hj with e|⟨hsf,e⟩
     · rw [e];simpa [hN] using h1
     · rw [e];simpa [hN] using h1.viewCell (show ¬(X.ren id ⟨I.g,I.o+lo*I.sz,I.sz,I.size⟩).soft from hsf) S.length (I.g,I.o+lo*I.sz+i*I.sz+j)
theorem kill_ok (hS:SR T w X S):∀(K:List Nat),∃X',Stn w X w X'∧SR T w X' (kill S K)∧X'.N=X.N∧X'.φ=X.φ∧(∀b,X'.par b=X.par b)∧(∀b id,X'.root b=some id→X.root b=some id∧id∉K):=by
 intro K
 induction K generalizing S X with
 | nil=>exact ⟨X,Stn.refl w X,hS,rfl,rfl,fun _=>rfl,fun b id h=>⟨h,by simp⟩⟩
 | cons k K ih =>
  obtain ⟨X',s,hS',h1,h2,h3,h4⟩:=ih (sr_drop hS k)
  refine ⟨X',stn_drop.trans s,hS',h1,h2,h3,fun b id h=>?_⟩
  obtain ⟨k1,k2⟩:=h4 b id h
  have hne:id≠k∧X.root b=some id:=by
   simp only [Cx.drop] at k1;split at k1
   · cases k1
   · rename_i hk
     exact ⟨fun e=>hk (by rw [k1,e]),k1⟩
  exact ⟨hne.2,by simp [hne.1,k2]⟩
structure OutR (T:Tab) (w:World) (X:Cx) (L:Nat) (o:Outs):Prop where
 sr:SR T w X (o.S++o.roots.map some)
 len:o.S.length=L
 kd:∀ob∈o.roots,ob.kd=.arr
 low:∀id ob,getOb o.S id=some ob→ob.kd=.box→∀r∈ob.els,∀c∈r,∀id'∈idsCell c,id'<L
theorem mapO_mono {α β:Type}{f g:α→Option β}(h:∀x y,f x=some y→g x=some y):∀ {l:List α} {l':List β},mapO f l=some l'→mapO g l=some l':=by
 intro l
 induction l with
 | nil=>intro l' h';exact h'
 | cons a l ih =>
  intro l' h';simp only [mapO] at h' ⊢;split at h'
  · cases h'
  · rename_i b hb
    split at h'<;>cases h'
    rename_i bs hbs;rw [h _ _ hb,ih hbs]
theorem isRow_mono {S2:St}(h:∀id ob,getOb S id=some ob→getOb S2 id=some ob){id:Nat}{ob:Ob}(hr:isRow S id=some ob):isRow S2 id=some ob:=by
 obtain ⟨h1,h2⟩:=isRow_ob hr;unfold isRow;rw [h _ _ h1];simp [h2]
theorem lendCell_mono {S2:St}(h:∀id ob,getOb S id=some ob→getOb S2 id=some ob){c d:AV}(hc:lendCell S c=some d):lendCell S2 c=some d:=by
 unfold lendCell at hc ⊢
 split at hc<;>try (exact hc)
 split at hc
 · cases hc
 · rename_i ob hr;rw [isRow_mono h hr];exact hc
theorem lendPtr_mono {S2:St}(h:∀id ob,getOb S id=some ob→getOb S2 id=some ob){c d:AV}(hc:lendPtr S c=some d):lendPtr S2 c=some d:=by
 unfold lendPtr at hc ⊢;split at hc
 · split at hc
   · cases hc
   · rename_i ob hob;simp only [h _ _ hob];split at hc
     · rename_i hk;rw [if_pos hk]
       split at hc<;>cases hc
       rename_i els hels
       rw [mapO_mono (fun x y hxy=>mapO_mono (fun a b hab=>lendCell_mono h hab) hxy) hels]
     · cases hc
 · exact lendCell_mono h hc
theorem getOb_left {A B:St}{id:Nat}{ob:Ob}(h:getOb A id=some ob):getOb (A++B) id=some ob:=by
 have:=getOb_lt h;unfold getOb at h ⊢;rw [List.getElem?_append_left this];exact h
theorem kill_left:∀(K:List Nat) (A B:St),(∀k∈K,k<A.length)→kill (A++B) K=kill A K++B:=by
 intro K
 induction K with
 | nil=>intro A B _;rfl
 | cons k K ih =>
  intro A B h;simp only [kill]
  rw [List.set_append_left _ _ (h k (by simp)),ih _ _ (fun k' hk'=>by simpa using h k' (by simp [hk']))]
theorem cleanCell_left {S R:St}{id lo n:Nat}{ob:Ob}(hrow:isRow S id=some ob)(h:cleanCell S (.sl id lo n)=true):cleanCell (S++R) (.sl id lo n)=true:=by
 have hrow2:isRow (S++R) id=some ob:=isRow_mono (fun _ _ h=>getOb_left h) hrow
 simp only [cleanCell,hrow] at h;simp only [cleanCell,hrow2];exact h
theorem cleanCell_mono {S R:St}:∀ {c:AV},cleanCell S c=true→cleanCell (S++R) c=true:=by
 intro c h
 cases c<;>try exact h
 case ts q _ _=>cases q<;>exact h
 case tp q _ _ _ _=>cases q<;>exact h
 rename_i id lo n
 cases hr:isRow S id with
 | none=>simp [cleanCell,hr] at h
 | some ob=>exact cleanCell_left hr h
theorem cleanPtr_left {S R:St}{id i j:Nat}{ob:Ob}(hob:getOb S id=some ob)(h:cleanPtr S (.ptr id i j)=true):cleanPtr (S++R) (.ptr id i j)=true:=by
 have hob2:getOb (S++R) id=some ob:=getOb_left hob;simp only [cleanPtr,hob,List.all_eq_true] at h;simp only [cleanPtr,hob2,List.all_eq_true]
 exact fun r hr c hc=>cleanCell_mono (h r hr c hc)
theorem ptr_tree {L:Nat}{o:Outs}{id i j:Nat}{d:AV}{u:Value}(hO:OutR T w X L o)(hv:VR w X (.ptr id i j) u)(hd:lendPtr o.S (.ptr id i j)=some d) :
    ∃X',Stn w X w X'∧OutR T w X' L { o with S:=kill o.S (idsDeep o.S (.ptr id i j)) }∧VR w X' (setTop .bor d) u:=by
 have hS:=hO.sr;have hN:=hS.n
 have hmono:∀id ob,getOb o.S id=some ob→getOb (o.S++o.roots.map some) id=some ob:=fun _ _ h=>getOb_left h
 have hob:∃ob,getOb o.S id=some ob:=by
  unfold lendPtr at hd;simp only at hd;split at hd
  · cases hd
  · rename_i ob hob;exact ⟨ob,hob⟩
 obtain ⟨ob,hob⟩:=hob
 have hlow:∀k∈idsDeep o.S (.ptr id i j),k<o.S.length:=by
  intro k hk;simp only [idsDeep,idsOf,idsCell,List.flatMap_cons,List.flatMap_nil,List.append_nil,hob] at hk
  rcases List.mem_cons.1 hk with rfl|hk
  · exact getOb_lt hob
  · split at hk
    · rename_i hkb;obtain ⟨r,hr,hk⟩:=List.mem_flatMap.1 hk;obtain ⟨c,hc,hk⟩:=List.mem_flatMap.1 hk;rw [hO.len];exact hO.low id ob hob hkb r hr c hc k hk
    · cases hk
 obtain ⟨X',s,hS',h1,h2,h3,h4⟩:=kill_ok hS (idsDeep o.S (.ptr id i j));rw [kill_left _ _ _ hlow] at hS'
 have hl:=lendPtr_ok (A:=fun b=>¬X.isRoot b∨∃k∈idsDeep o.S (.ptr id i j),X.root b=some k) hS hv (lendPtr_mono hmono hd) (fun b hb=>.inl (not_root_of_none hb)) (.inl fun b hb=>.inl hb) (fun id' hid'=>by
  simp only [idsCell,List.mem_singleton] at hid';subst hid'
  refine ⟨fun b hb=>.inr ⟨id',mem_idsDeep (by simp [idsOf,idsCell]),hb⟩,fun ob' hob' hk' r hr d hd' id'' hid'' b hb=>.inr ⟨id'',?_,hb⟩⟩
  have:ob'=ob:=by have:=hmono _ _ hob;rw [this] at hob';injection hob' with hob';exact hob'.symm
  subst this
  exact mem_idsDeep_box (v:=.ptr id' i j) (by simp [idsOf,idsCell]) hob hk' hr hd' hid'')
 refine ⟨X',s,⟨hS',by simp [kill_length,hO.len],hO.kd,fun id' ob' h'=>hO.low id' ob' (getOb_kill_list h').2⟩,?_⟩
 have hok:∀b,b<w.heap.size→(X.inner w.heap.size (fun b=>¬X.isRoot b∨∃k∈idsDeep o.S (.ptr id i j),X.root b=some k)).ok .imm b→X'.ok .bor b:=by
  intro b hb hok;have hnp:¬(X.pro b∨(b<w.heap.size∧¬(¬X.isRoot b∨∃k∈idsDeep o.S (.ptr id i j),X.root b=some k))):=hok.2
  refine ⟨?_,fun hp=>hnp (.inl (by rw [←s.pro];exact hp))⟩
  have hA:¬X.isRoot b∨∃k∈idsDeep o.S (.ptr id i j),X.root b=some k:=Classical.byContradiction fun hn=>hnp (.inr ⟨hb,hn⟩)
  rintro ⟨r1,r2⟩
  cases hr:X'.root b with
  | none=>exact r1 hr
  | some k' =>
   obtain ⟨k1,k2⟩:=h4 b k' hr
   rcases hA with hA|⟨k,hk,hrk⟩
   · exact hA ⟨by rw [k1];simp,by rw [←h3 b,←s.soft];exact r2⟩
   · rw [k1] at hrk;injection hrk with hrk;subst hrk;exact k2 hk
 have htop:∃sz els,d=.tp .imm sz els i j:=by
  unfold lendPtr at hd;simp only [hob] at hd;split at hd
  · split at hd<;>cases hd
    exact ⟨_,_,rfl⟩
  · cases hd
 obtain ⟨sz,els,rfl⟩:=htop
 cases hl with
 | tp q hq sz els i j v hr=>exact .tp .bor (by simp) sz els i j _ ((hr.keep (Nat.le_refl _) (fun b hb hok'=>⟨rfl,hok b hb hok'⟩)).setTop (q:=.bor))
theorem ptr_tree_imm {L:Nat}{o:Outs}{id i j:Nat}{d:AV}{u:Value}(hO:OutR T w X L o)(hv:VR w X (.ptr id i j) u)(hd:lendPtr o.S (.ptr id i j)=some d)(hcl:cleanPtr o.S (.ptr id i j)=true) :
    ∃X',Stn w X w X'∧OutR T w X' L { o with S:=kill o.S (idsDeep o.S (.ptr id i j)) }∧VR w X' (setTop .imm d) u:=by
 have hS:=hO.sr;have hN:=hS.n
 have hmono:∀id ob,getOb o.S id=some ob→getOb (o.S++o.roots.map some) id=some ob:=fun _ _ h=>getOb_left h
 have hob:∃ob,getOb o.S id=some ob:=by
  unfold lendPtr at hd;simp only at hd;split at hd
  · cases hd
  · rename_i ob hob;exact ⟨ob,hob⟩
 obtain ⟨ob,hob⟩:=hob
 have hlow:∀k∈idsDeep o.S (.ptr id i j),k<o.S.length:=by
  intro k hk;simp only [idsDeep,idsOf,idsCell,List.flatMap_cons,List.flatMap_nil,List.append_nil,hob] at hk
  rcases List.mem_cons.1 hk with rfl|hk
  · exact getOb_lt hob
  · split at hk
    · rename_i hkb;obtain ⟨r,hr,hk⟩:=List.mem_flatMap.1 hk;obtain ⟨c,hc,hk⟩:=List.mem_flatMap.1 hk;rw [hO.len];exact hO.low id ob hob hkb r hr c hc k hk
    · cases hk
 obtain ⟨X',s,hS',h1,h2,h3,h4⟩:=kill_ok hS (idsDeep o.S (.ptr id i j));rw [kill_left _ _ _ hlow] at hS'
 have hl:=lendPtr_ok (A:=fun b=>X.root b=none∨∃k∈idsDeep o.S (.ptr id i j),X.root b=some k) hS hv (lendPtr_mono hmono hd) (fun b hb=>.inl hb) (.inr (cleanPtr_left hob hcl)) (fun id' hid'=>by
  simp only [idsCell,List.mem_singleton] at hid';subst hid'
  refine ⟨fun b hb=>.inr ⟨id',mem_idsDeep (by simp [idsOf,idsCell]),hb⟩,fun ob' hob' hk' r hr d hd' id'' hid'' b hb=>.inr ⟨id'',?_,hb⟩⟩
  have:ob'=ob:=by have:=hmono _ _ hob;rw [this] at hob';injection hob' with hob';exact hob'.symm
  subst this
  exact mem_idsDeep_box (v:=.ptr id' i j) (by simp [idsOf,idsCell]) hob hk' hr hd' hid'')
 refine ⟨X',s,⟨hS',by simp [kill_length,hO.len],hO.kd,fun id' ob' h'=>hO.low id' ob' (getOb_kill_list h').2⟩,?_⟩
 have hok:∀b,b<w.heap.size→(X.inner w.heap.size (fun b=>X.root b=none∨∃k∈idsDeep o.S (.ptr id i j),X.root b=some k)).ok .imm b→X'.ok .imm b:=by
  intro b hb hok;have hnp:¬(X.pro b∨(b<w.heap.size∧¬(X.root b=none∨∃k∈idsDeep o.S (.ptr id i j),X.root b=some k))):=hok.2
  refine ⟨?_,fun hp=>hnp (.inl (by rw [←s.pro];exact hp))⟩
  have hA:X.root b=none∨∃k∈idsDeep o.S (.ptr id i j),X.root b=some k:=Classical.byContradiction fun hn=>hnp (.inr ⟨hb,hn⟩)
  cases hr:X'.root b with
  | none=>rfl
  | some k' =>
   obtain ⟨k1,k2⟩:=h4 b k' hr
   rcases hA with hA|⟨k,hk,hrk⟩
   · rw [k1] at hA;cases hA
   · rw [k1] at hrk;injection hrk with hrk;subst hrk;exact absurd hk k2
 have htop:∃sz els,d=.tp .imm sz els i j:=by
  unfold lendPtr at hd;simp only [hob] at hd;split at hd
  · split at hd<;>cases hd
    exact ⟨_,_,rfl⟩
  · cases hd
 obtain ⟨sz,els,rfl⟩:=htop
 cases hl with
 | tp q hq sz els i j v hr=>exact .tp .imm (by simp) sz els i j _ ((hr.keep (Nat.le_refl _) (fun b hb hok'=>⟨rfl,hok b hb hok'⟩)).setTop (q:=.imm))
theorem row_tree {L e:Nat}{o:Outs}{id lo n:Nat}{d:AV}{u:Value}(hO:OutR T w X L o)(hv:VR w X (.sl id lo n) u)(hd:lend1 o.S e (.sl id lo n)=some d) :
    Stn w X w (X.drop id)∧OutR T w (X.drop id) L { o with S:=o.S.set id none }∧VR w (X.drop id) (setTop .bor d) u:=by
 have hS:=hO.sr
 have hob:∃ob,isRow o.S id=some ob:=by
  simp only [lend1] at hd;split at hd
  · cases hd
  · rename_i ob hob;exact ⟨ob,hob⟩
 obtain ⟨ob,hrow⟩:=hob;obtain ⟨hob,hkd⟩:=isRow_ob hrow;have hidlt:=getOb_lt hob;have hset:(o.S++o.roots.map some).set id none=o.S.set id none++o.roots.map some:=List.set_append_left _ _ hidlt
 have hrow2:isRow (o.S++o.roots.map some) id=some ob:=isRow_mono (fun _ _ h=>getOb_left h) hrow
 have hd2:lend1 (o.S++o.roots.map some) e (.sl id lo n)=some d:=by
  simp only [lend1,hrow] at hd;simp only [lend1,hrow2];exact hd
 have hl:=lend1_ok (A:=fun b=>¬X.isRoot b∨X.root b=some id) hS hv hd2 ⟨fun b hb=>.inl (not_root_of_none hb),fun k hk b hb=>by
  simp only [idsCell,List.mem_singleton] at hk
  subst hk;exact .inr hb,.inl fun b hb=>.inl hb⟩
 have s1:Stn w X w (X.drop id):=stn_drop;have hS1:=sr_drop hS id;rw [hset] at hS1
 refine ⟨s1,⟨hS1,by simp [hO.len],hO.kd,fun id' ob' h'=>hO.low id' ob' (getOb_kill h').2⟩,?_⟩
 have hok:∀b,b<w.heap.size→(X.inner w.heap.size (fun b=>¬X.isRoot b∨X.root b=some id)).ok .imm b→(X.drop id).ok .bor b:=by
  intro b hb hok;have hnp:¬(X.pro b∨(b<w.heap.size∧¬(¬X.isRoot b∨X.root b=some id))):=hok.2
  refine ⟨?_,fun hp=>hnp (.inl hp)⟩
  have hA:¬X.isRoot b∨X.root b=some id:=Classical.byContradiction fun hn=>hnp (.inr ⟨hb,hn⟩)
  rintro ⟨r1,r2⟩
  simp only [Cx.drop] at r1 r2;split at r1
  · exact r1 rfl
  · rename_i hne
    rcases hA with hA|hA
    · exact hA ⟨r1,r2⟩
    · exact hne hA
 have htop:∃sz els,d=.ts .imm sz els:=by
  simp only [lend1,hrow] at hd
  split at hd<;>cases hd
  exact ⟨_,_,rfl⟩
 obtain ⟨sz,els,rfl⟩:=htop
 cases hl with
 | ts q hq sz els v hr=>exact .ts .bor (by simp) sz els _ ((hr.keep (Nat.le_refl _) (fun b hb hok'=>⟨rfl,hok b hb hok'⟩)).setTop (q:=.bor))
theorem row_tree_imm {L e:Nat}{o:Outs}{id lo n:Nat}{d:AV}{u:Value}(hO:OutR T w X L o)(hv:VR w X (.sl id lo n) u)(hd:lend1 o.S e (.sl id lo n)=some d)(hcl:cleanCell o.S (.sl id lo n)=true) :
    Stn w X w (X.drop id)∧OutR T w (X.drop id) L { o with S:=o.S.set id none }∧VR w (X.drop id) (setTop .imm d) u:=by
 have hS:=hO.sr
 have hob:∃ob,isRow o.S id=some ob:=by
  simp only [lend1] at hd;split at hd
  · cases hd
  · rename_i ob hob;exact ⟨ob,hob⟩
 obtain ⟨ob,hrow⟩:=hob;obtain ⟨hob,hkd⟩:=isRow_ob hrow;have hidlt:=getOb_lt hob;have hset:(o.S++o.roots.map some).set id none=o.S.set id none++o.roots.map some:=List.set_append_left _ _ hidlt
 have hrow2:isRow (o.S++o.roots.map some) id=some ob:=isRow_mono (fun _ _ h=>getOb_left h) hrow
 have hd2:lend1 (o.S++o.roots.map some) e (.sl id lo n)=some d:=by
  simp only [lend1,hrow] at hd;simp only [lend1,hrow2];exact hd
 have hl:=lend1_ok (A:=fun b=>X.root b=none∨X.root b=some id) hS hv hd2 ⟨fun b hb=>.inl hb,fun k hk b hb=>by
  simp only [idsCell,List.mem_singleton] at hk
  subst hk;exact .inr hb,.inr (cleanCell_left hrow hcl)⟩
 have s1:Stn w X w (X.drop id):=stn_drop;have hS1:=sr_drop hS id;rw [hset] at hS1
 refine ⟨s1,⟨hS1,by simp [hO.len],hO.kd,fun id' ob' h'=>hO.low id' ob' (getOb_kill h').2⟩,?_⟩
 have hok:∀b,b<w.heap.size→(X.inner w.heap.size (fun b=>X.root b=none∨X.root b=some id)).ok .imm b→(X.drop id).ok .imm b:=by
  intro b hb hok;have hnp:¬(X.pro b∨(b<w.heap.size∧¬(X.root b=none∨X.root b=some id))):=hok.2
  refine ⟨?_,fun hp=>hnp (.inl hp)⟩
  have hA:X.root b=none∨X.root b=some id:=Classical.byContradiction fun hn=>hnp (.inr ⟨hb,hn⟩)
  simp only [Cx.drop];split
  · rfl
  · rename_i hne
    rcases hA with hA|hA
    · exact hA
    · exact absurd hA hne
 have htop:∃sz els,d=.ts .imm sz els:=by
  simp only [lend1,hrow] at hd
  split at hd<;>cases hd
  exact ⟨_,_,rfl⟩
 obtain ⟨sz,els,rfl⟩:=htop
 cases hl with
 | ts q hq sz els v hr=>exact .ts .imm (by simp) sz els _ ((hr.keep (Nat.le_refl _) (fun b hb hok'=>⟨rfl,hok b hb hok'⟩)).setTop (q:=.imm))
theorem outCell_ok {tree:Bool}(htr:tree=true→T.soft=false){L e:Nat}{o o':Outs}{c c':AV}{u:Value}(hO:OutR T w X L o)(hv:VR w X c u)(h:outCell tree L o e c=some (c',o')) :
    ∃X',Stn w X w X'∧OutR T w X' L o'∧VR w X' c' u:=by
 have hS:=hO.sr;have hN:=hS.n
 have hNL:X.N=L+o.roots.length:=by rw [hN];simp [hO.len]
 cases c with
 | nil =>
  cases tree with
  | true =>
   simp only [outCell,if_true,Option.some.injEq,Prod.mk.injEq] at h;obtain ⟨rfl,rfl⟩:=h;cases hv
   exact ⟨X,Stn.refl w X,hO,.ts .bor (by simp) e [] _ (.ts .bor e [] none 0 0 0 (fun _ _=>undef) (by simp) (by simp) (by simp) (by simp) (by simp))⟩
  | false =>
  simp only [outCell,Bool.false_eq_true,if_false,Option.some.injEq,Prod.mk.injEq] at h;obtain ⟨rfl,rfl⟩:=h;cases hv
  obtain ⟨s,hS2⟩:=sr_addnil hS .arr (by simp) e 0
  refine ⟨_,s,⟨by simpa using hS2,hO.len,fun ob hob=>?_,hO.low⟩,.slz _ 0 none (by simp [Cx.add,hNL])⟩
  rcases List.mem_append.1 hob with h|h
  · exact hO.kd ob h
  · simp at h;rw [h]
 | sl id lo n =>
  cases tree with
  | true =>
   simp only [outCell,if_true] at h;split at h
   · cases h
   · rename_i d hd;simp only [Option.some.injEq,Prod.mk.injEq] at h;obtain ⟨rfl,rfl⟩:=h;exact ⟨_,row_tree hO hv hd⟩
  | false =>
  simp only [outCell,Bool.false_eq_true,if_false] at h;split at h
  · cases h
  · rename_i ob hrow;split at h
    · rename_i hc;obtain ⟨hsz,hln,_⟩:=hc;simp only [Option.some.injEq,Prod.mk.injEq] at h;obtain ⟨rfl,rfl⟩:=h;obtain ⟨hob,hkd⟩:=isRow_ob hrow;have hidlt:=getOb_lt hob;have hset:(o.S++o.roots.map some).set id none=o.S.set id none++o.roots.map some:=List.set_append_left _ _ hidlt;have hwl:=window_length (els:=ob.els) hln
      have hkdn:∀W,∀ob'∈o.roots++[(⟨.arr,e,W⟩:Ob)],ob'.kd=.arr:=fun W ob' hob'=>by
       rcases List.mem_append.1 hob' with h|h
       · exact hO.kd ob' h
       · simp at h;rw [h]
      cases hv with
      | sl id lo n cap I hid' hI hn hcap hm =>
       obtain ⟨cc,hor⟩:=row_of hS (getOb_left hob) hI
       have hwr:∀r∈window ob.els lo n,r.length=ob.sz:=fun r hr=>hor.rows r (window_mem hr)
       obtain ⟨X',s,hS2,hN2,hφ2⟩:=ren_ok hS (getOb_left hob) hkd hI hln (W:=window ob.els lo n)
        hwl hwr (fun i j hi hj=>.inl (at2_window hi j))
       rw [hset,hsz] at hS2
       refine ⟨X',s,⟨by simpa using hS2,by simp [hO.len],hkdn _,fun id' ob' h'=>hO.low id' ob' (getOb_kill h').2⟩,?_⟩
       have:=VR.sl (w:=w) (X:=X') (L+o.roots.length) 0 n cap ⟨I.g,I.o+lo*I.sz,I.sz,I.size⟩ (by omega) (by rw [←hNL];exact hφ2) hn (by
        have:I.o+lo*I.sz+(0+cap)*I.sz=I.o+(lo+cap)*I.sz:=by rw [Nat.add_mul,Nat.add_mul];omega
        rw [this];exact hcap) hm
       simpa using this
      | slz id lo A hid' =>
       have hw0:window ob.els lo 0=[]:=by simp [window]
       have s1:Stn w X w (X.drop id):=stn_drop;have hS1:=sr_drop hS id
       obtain ⟨s2,hS2⟩:=sr_addnil hS1 .arr (by simp) e 0
       rw [hset] at hS2
       refine ⟨_,s1.trans s2,⟨by simpa [hw0] using hS2,by simp [hO.len],hkdn _,fun id' ob' h'=>hO.low id' ob' (getOb_kill h').2⟩,.slz _ 0 A (by simp [Cx.add,Cx.drop,hNL])⟩
    · cases h
 | int k n=>simp only [outCell,Option.some.injEq,Prod.mk.injEq] at h;obtain ⟨rfl,rfl⟩:=h;exact ⟨X,Stn.refl w X,hO,hv⟩
 | bool b=>simp only [outCell,Option.some.injEq,Prod.mk.injEq] at h;obtain ⟨rfl,rfl⟩:=h;exact ⟨X,Stn.refl w X,hO,hv⟩
 | str s=>simp only [outCell,Option.some.injEq,Prod.mk.injEq] at h;obtain ⟨rfl,rfl⟩:=h;exact ⟨X,Stn.refl w X,hO,hv⟩
 | nilp=>simp only [outCell,Option.some.injEq,Prod.mk.injEq] at h;obtain ⟨rfl,rfl⟩:=h;exact ⟨X,Stn.refl w X,hO,hv⟩
 | ts q sz els =>
  cases hv with
  | ts q hq sz els v hr =>
   have:VR w X (.ts .bor sz els) u:=.ts .bor (by simp) sz els _ ((hr.weak (q':=.bor) (by simp)).setTop (q:=.bor))
   cases q with
   | own=>exact absurd rfl hq
   | bor=>simp only [outCell] at h;split at h<;>cases h;exact ⟨X,Stn.refl w X,hO,this⟩
   | imm=>simp only [outCell] at h;split at h<;>cases h;exact ⟨X,Stn.refl w X,hO,this⟩
 | tp q sz els i j =>
  cases hv with
  | tp q hq sz els i j v hr =>
   have:VR w X (.tp .bor sz els i j) u:=.tp .bor (by simp) sz els i j _ ((hr.weak (q':=.bor) (by simp)).setTop (q:=.bor))
   cases q with
   | own=>exact absurd rfl hq
   | bor=>simp only [outCell] at h;split at h<;>cases h;exact ⟨X,Stn.refl w X,hO,this⟩
   | imm=>simp only [outCell] at h;split at h<;>cases h;exact ⟨X,Stn.refl w X,hO,this⟩
 | ptr id i j =>
  simp only [outCell] at h;split at h
  · split at h
    · cases h
    · rename_i d hd;simp only [Option.some.injEq,Prod.mk.injEq] at h;obtain ⟨rfl,rfl⟩:=h;exact ptr_tree hO hv hd
  · cases h
 | fn f caps=>simp [outCell] at h
 | agg cs=>simp [outCell] at h
 | tup cs=>simp [outCell] at h
 | any=>simp [outCell] at h
end Go.Pi

namespace Go.Pi
open Go
variable {P:Program} {T:Tab} {o:Oper} {a:Act} {w w':World} {X X' Xc:Cx} {fr:Fr} {S S':St} {v:AV}
theorem outL_ok {tree:Bool}(htr:tree=true→T.soft=false){L:Nat}:∀ {cs:List AV} {es:List Nat} {X:Cx} {o o':Outs} {cs':List AV} {us:List Value} (_:OutR T w X L o) (_:cs.length=us.length)
    (_:∀i,i<cs.length→VR w X (cs.getD i .undef) (us.getD i Go.undef)) (_:outL tree L o es cs=some (cs',o')),
    ∃X',Stn w X w X'∧OutR T w X' L o'∧cs'.length=us.length∧∀i,i<cs'.length→VR w X' (cs'.getD i .undef) (us.getD i Go.undef):=by
 intro cs
 induction cs with
 | nil =>
  intro es X o o' cs' us hO hl hv h
  cases es<;>(simp only [outL,Option.some.injEq,Prod.mk.injEq] at h;obtain ⟨rfl,rfl⟩:=h;exact ⟨X,Stn.refl w X,hO,hl,fun i hi=>absurd hi (Nat.not_lt_zero i)⟩)
 | cons c cs ih =>
  intro es X o o' cs' us hO hl hv h
  cases es with
  | nil=>simp [outL] at h
  | cons e es =>
   cases us with
   | nil=>simp at hl
   | cons u us =>
    simp only [outL] at h;split at h
    · cases h
    · rename_i c1 o1 h1
      split at h<;>cases h
      rename_i cs1 h2
      obtain ⟨X1,s1,hO1,hv1⟩:=outCell_ok htr hO (by simpa using hv 0 (by simp)) h1
      obtain ⟨X2,s2,hO2,k1,k2⟩:=ih hO1 (by simpa using hl) (fun i hi=>(by simpa using hv (i+1) (by simpa using hi):VR w X (cs.getD i .undef) (us.getD i Go.undef)).stn s1) h2
      refine ⟨X2,s1.trans s2,hO2,by simp [k1],fun i hi=>?_⟩
      cases i with
      | zero=>simpa using hv1.stn s2
      | succ i=>simpa using k2 i (by simpa using hi)
theorem outV_ok {tree:Bool}(htr:tree=true→T.soft=false){L:Nat}{es:List Nat}{o o':Outs}{c c':AV}{u:Value}(hO:OutR T w X L o)(hv:VR w X c u)(h:outV tree L o es c=some (c',o')) :
    ∃X',Stn w X w X'∧OutR T w X' L o'∧VR w X' c' u:=by
 have one:∀ {e:Nat},outCell tree L o e c=some (c',o')→∃X',Stn w X w X'∧OutR T w X' L o'∧VR w X' c' u:=fun h=>outCell_ok htr hO hv h
 cases c with
 | agg cs =>
  simp only [outV] at h;split at h
  · cases h
  · rename_i cs' o1 h1;simp only [Option.some.injEq,Prod.mk.injEq] at h;obtain ⟨rfl,rfl⟩:=h;obtain ⟨cv,rfl,hl,hcv⟩:=hv.agg_inv;obtain ⟨X',s,hO',k1,k2⟩:=outL_ok htr hO hl hcv h1;exact ⟨X',s,hO',.agg cs' cv k1 k2⟩
 | _ =>
  simp only [outV] at h;split at h
  · exact one h
  · cases h
def readRes (a:Act):ResultVar→Sem Value
 | .tmp t=>pure (a.tmps.getD t Go.undef)
 | .cell b t=>do loadVar t (←asAddr (a.tmps.getD b Go.undef))
theorem run_asAddr {p:Addr}(w:World):(asAddr (.pointer (some p))).run P w=.ok p w:=by simp [asAddr]
theorem evLoad_ptr {t:Nat}{av c:AV}(h:evLoad T t av S=some c):(∃id i j,av=.ptr id i j)∨(∃q sz els i j,av=.tp q sz els i j):=by
 unfold evLoad at h;split at h
 · cases h
 · split at h
   · exact .inl ⟨_,_,_,rfl⟩
   · exact .inr ⟨_,_,_,_,_,rfl⟩
   · cases h
theorem VR.addr {av:AV}{u:Value}(h:VR w X av u)(ha:(∃id i j,av=.ptr id i j)∨(∃q sz els i j,av=.tp q sz els i j)):∃p,u=.pointer (some p):=by
 rcases ha with ⟨id,i,j,rfl⟩|⟨q,sz,els,i,j,rfl⟩
 · cases h with | ptr=>exact ⟨_,rfl⟩
 · cases h with | tp q hq sz els i j v hr=>cases hr;exact ⟨_,rfl⟩
theorem outV_any {tree:Bool}{L:Nat}{es:List Nat}{o:Outs}{c:AV}{p:AV×Outs}(h:outV tree L o es c=some p):c≠.any:=by
 rintro rfl
 simp only [outV] at h;split at h
 · simp [outCell] at h
 · cases h
theorem evLoad_any {t:Nat}{av c:AV}(h:evLoad T t av S=some c):av≠.any:=by
 rintro rfl
 rcases evLoad_ptr h with ⟨_,_,_,h⟩|⟨_,_,_,_,_,h⟩<;>cases h
theorem outs_ok (hT:TabOk P T){tree:Bool}(htr:tree=true→T.soft=false){L:Nat}:∀ {rs:List ResultVar} {ess:List (List Nat)} {X:Cx} {o o':Outs} {vs:List AV} (_:OutR T w X L o) (_:FrR w X fr a) (_:outs T tree L fr o rs ess=some (vs,o')),
    ∃X' us,Stn w X w X'∧OutR T w X' L o'∧vs.length=us.length∧(∀i,i<vs.length→VR w X' (vs.getD i .undef) (us.getD i Go.undef))∧(rs.mapM (readRes a)).run P w=.ok us w:=by
 intro rs
 induction rs with
 | nil =>
  intro ess X o o' vs hO hf h;simp only [outs,Option.some.injEq,Prod.mk.injEq] at h;obtain ⟨rfl,rfl⟩:=h
  exact ⟨X,[],Stn.refl w X,hO,rfl,fun i hi=>absurd hi (Nat.not_lt_zero i),by simp⟩
 | cons r rs ih =>
  intro ess X o o' vs hO hf h
  cases ess with
  | nil=>cases r<;>simp [outs] at h
  | cons es ess =>
   cases r with
   | tmp t =>
    simp only [outs] at h;split at h
    · cases h
    · rename_i v1 o1 h1
      split at h<;>cases h
      rename_i vs1 h2;obtain ⟨X1,s1,hO1,hv1⟩:=outV_ok htr hO (hf.val t (outV_any h1)) h1;obtain ⟨X2,us,s2,hO2,k1,k2,k3⟩:=ih hO1 (hf.stn s1) h2
      refine ⟨X2,a.tmps.getD t Go.undef::us,s1.trans s2,hO2,by simp [k1],fun i hi=>?_,by simp [List.mapM_cons,readRes,k3]⟩
      cases i with
      | zero=>simpa using hv1.stn s2
      | succ i=>simpa using k2 i (by simpa using hi)
   | cell b t =>
    simp only [outs] at h;split at h
    · cases h
    · rename_i c hld;split at h
      · cases h
      · rename_i v1 o1 h1
        split at h<;>cases h
        rename_i vs1 h2;have hS:=hO.sr
        have hmono:evLoad T t (fr.getD b .undef) (o.S++o.roots.map some)=some c:=by
         unfold evLoad at hld ⊢
         cases hti:T.ty t with
         | none=>rw [hti] at hld;cases hld
         | some ti =>
          rw [hti] at hld;simp only at hld ⊢;split at hld
          · rename_i id i j heq;split at hld
            · cases hld
            · rename_i ob hob;rw [getOb_left hob];exact hld
          · exact hld
          · cases hld
        obtain ⟨u,hu1,hu2⟩:=load_ok hT hS (hf.val b (evLoad_any hld)) hmono;obtain ⟨p,hp⟩:=(hf.val b (evLoad_any hld)).addr (evLoad_ptr hld);obtain ⟨X1,s1,hO1,hv1⟩:=outV_ok htr hO hu2 h1;obtain ⟨X2,us,s2,hO2,k1,k2,k3⟩:=ih hO1 (hf.stn s1) h2
        have hrd:(readRes a (.cell b t)).run P w=.ok u w:=by
         rw [hp] at hu1;simp only [readRes,hp,Sem.run_bind,run_asAddr,Result.andThen_ok];simpa [Instr.loadAt,Instr.sureAddr] using hu1
        refine ⟨X2,u::us,s1.trans s2,hO2,by simp [k1],fun i hi=>?_,by simp [List.mapM_cons,hrd,k3]⟩
        cases i with
        | zero=>simpa using hv1.stn s2
        | succ i=>simpa using k2 i (by simpa using hi)
theorem results_run {fn:Func}{us:List Value}(h:(fn.results.toList.mapM (readRes a)).run P w=.ok us w) :
    (results fn a.tmps).run P w=.ok (if h:us.toArray.size=1 then us.toArray[0] else .tuple us.toArray) w:=by
 have e:(fn.results.mapM (readRes a)).run P w=.ok us.toArray w:=by
  rw [Array.mapM_eq_mapM_toList];simp [h]
 have e2:results fn a.tmps=(do let vs ←fn.results.mapM (readRes a);pure (if h:vs.size=1 then vs[0] else .tuple vs)):=by
  unfold results
  congr 2
 rw [e2,Sem.run_bind,e,Result.andThen_ok,Sem.run_pure]
theorem tupOf_ok {vs:List AV}{us:List Value}(hl:vs.length=us.length)(hv:∀i,i<vs.length→VR w X (vs.getD i .undef) (us.getD i Go.undef)) :
    VR w X (tupOf vs) (if h:us.toArray.size=1 then us.toArray[0] else .tuple us.toArray):=by
 match vs,us,hl,hv with
 | [],[],_,_=>exact .tup [] [] rfl (fun i hi=>absurd hi (Nat.not_lt_zero i))
 | [v],[u],_,hv=>simpa [tupOf] using hv 0 (by simp)
 | v::v'::vs,u::u'::us,hl,hv =>
  simp only [tupOf]
  have:¬(u::u'::us).toArray.size=1:=by simp
  rw [dif_neg this];exact .tup _ _ hl hv
end Go.Pi

namespace Go.Pi
open Go
variable {P:Program} {T:Tab} {o:Oper} {a:Act} {w w':World} {X X' Xc:Cx} {fr:Fr} {S S':St} {v:AV}
def cellB (tree:Bool)(L:Nat):AV→Bool
 | .int _ _ | .bool _ | .str _ | .nilp=>true
 | .sl id _ _=>decide (L≤id)
 | .ts q _ _=>tree&&decide (q=.bor)
 | .tp q _ _ _ _=>tree&&decide (q=.bor)
 | _=>false
def valB (tree:Bool)(L:Nat):AV→Bool
 | .agg cs=>cs.all (cellB tree L)
 | c=>cellB tree L c
def RootsOk (tree:Bool)(rs:List Ob):Prop:=∀ob∈rs,ob.kd=.arr∧(tree=false→ownOnlyLL ob.els=true)
theorem RootsOk.push {tree:Bool}{rs:List Ob}(h:RootsOk tree rs){ob:Ob}(h1:ob.kd=.arr)(h2:tree=false→ownOnlyLL ob.els=true):RootsOk tree (rs++[ob]):=by
 intro x hx
 rcases List.mem_append.1 hx with hx|hx
 · exact h x hx
 · simp at hx;subst hx;exact ⟨h1,h2⟩
theorem outCell_shape {tree:Bool}{L e:Nat}{o o':Outs}{c c':AV}(h:outCell tree L o e c=some (c',o'))(hr:RootsOk tree o.roots):cellB tree L c'=true∧RootsOk tree o'.roots:=by
 unfold outCell at h
 split at h<;>try (cases h;done)
 · split at h<;>cases h
   · rename_i ht;exact ⟨by simp [cellB,ht],hr⟩
   · exact ⟨by simp [cellB],hr.push rfl (fun _=>rfl)⟩
 · split at h
   · rename_i ht
     split at h<;>cases h
     rename_i d hd
     have:∃sz els,d=.ts .imm sz els:=by
      simp only [lend1] at hd;split at hd
      · cases hd
      · split at hd<;>cases hd
        exact ⟨_,_,rfl⟩
     obtain ⟨sz,els,rfl⟩:=this
     exact ⟨by simp [cellB,setTop,ht],hr⟩
   · split at h
     · cases h
     · split at h<;>cases h
       rename_i hc
       refine ⟨by simp [cellB],hr.push rfl (fun ht=>?_)⟩
       rcases hc.2.2 with h1|h1
       · rw [ht] at h1;cases h1
       · simp [ht,h1]
 · cases h;exact ⟨rfl,hr⟩
 · cases h;exact ⟨rfl,hr⟩
 · cases h;exact ⟨rfl,hr⟩
 · cases h;exact ⟨rfl,hr⟩
 · split at h<;>cases h;rename_i ht;exact ⟨by simp [cellB,ht],hr⟩
 · split at h<;>cases h;rename_i ht;exact ⟨by simp [cellB,ht],hr⟩
 · split at h
   · rename_i ht
     split at h<;>cases h
     rename_i d hd
     have:∃sz els i j,d=.tp .imm sz els i j:=by
      unfold lendPtr at hd;simp only at hd;split at hd
      · cases hd
      · split at hd
        · split at hd<;>cases hd
          exact ⟨_,_,_,_,rfl⟩
        · cases hd
     obtain ⟨sz,els,i,j,rfl⟩:=this
     exact ⟨by simp [cellB,setTop,ht],hr⟩
   · cases h
theorem outL_shape {tree:Bool}{L:Nat}:∀ {cs:List AV} {es:List Nat} {o o':Outs} {cs':List AV},outL tree L o es cs=some (cs',o')→RootsOk tree o.roots→cs'.all (cellB tree L)=true∧RootsOk tree o'.roots:=by
 intro cs
 induction cs with
 | nil=>intro es o o' cs' h hr;cases es<;>(simp only [outL,Option.some.injEq,Prod.mk.injEq] at h;obtain ⟨rfl,rfl⟩:=h;exact ⟨rfl,hr⟩)
 | cons c cs ih =>
  intro es o o' cs' h hr
  cases es with
  | nil=>simp [outL] at h
  | cons e es =>
   simp only [outL] at h;split at h
   · cases h
   · rename_i c1 o1 h1
     split at h<;>cases h
     rename_i cs1 h2;obtain ⟨k1,k2⟩:=outCell_shape h1 hr;obtain ⟨k3,k4⟩:=ih h2 k2
     exact ⟨by simp [k1,k3],k4⟩
theorem outV_shape {tree:Bool}{L:Nat}{es:List Nat}{o o':Outs}{c c':AV}(h:outV tree L o es c=some (c',o'))(hr:RootsOk tree o.roots):valB tree L c'=true∧RootsOk tree o'.roots:=by
 have one:∀ {e:Nat},outCell tree L o e c=some (c',o')→valB tree L c'=true∧RootsOk tree o'.roots:=fun h=>by
  obtain ⟨k1,k2⟩:=outCell_shape h hr;refine ⟨?_,k2⟩
  cases c'<;>first | exact k1 | (simp [cellB] at k1)
 cases c with
 | agg cs =>
  simp only [outV] at h;split at h
  · cases h
  · rename_i cs' o1 h1;simp only [Option.some.injEq,Prod.mk.injEq] at h;obtain ⟨rfl,rfl⟩:=h;exact outL_shape h1 hr
 | _ =>
  simp only [outV] at h;split at h
  · exact one h
  · cases h
theorem outs_shape {tree:Bool}{L:Nat}:∀ {rs:List ResultVar} {ess:List (List Nat)} {o o':Outs} {vs:List AV},outs T tree L fr o rs ess=some (vs,o')→RootsOk tree o.roots →
    vs.all (valB tree L)=true∧RootsOk tree o'.roots:=by
 intro rs
 induction rs with
 | nil=>intro ess o o' vs h hr;simp only [outs,Option.some.injEq,Prod.mk.injEq] at h;obtain ⟨rfl,rfl⟩:=h;exact ⟨rfl,hr⟩
 | cons r rs ih =>
  intro ess o o' vs h hr
  cases ess with
  | nil=>cases r<;>simp [outs] at h
  | cons es ess =>
   cases r with
   | tmp t =>
    simp only [outs] at h;split at h
    · cases h
    · rename_i v1 o1 h1
      split at h<;>cases h
      rename_i vs1 h2;obtain ⟨k1,k2⟩:=outV_shape h1 hr;obtain ⟨k3,k4⟩:=ih h2 k2
      exact ⟨by simp [k1,k3],k4⟩
   | cell b t =>
    simp only [outs] at h;split at h
    · cases h
    · split at h
      · cases h
      · rename_i v1 o1 h1
        split at h<;>cases h
        rename_i vs1 h2;obtain ⟨k1,k2⟩:=outV_shape h1 hr;obtain ⟨k3,k4⟩:=ih h2 k2
        exact ⟨by simp [k1,k3],k4⟩
theorem topB_ok {tree:Bool}{L:Nat}{vs:List AV}(ht:tree=false)(h:vs.all (valB tree L)=true):topOk tree L (tupOf vs)=true:=by
 subst ht
 have cell:∀c,cellB false L c=true→cellOk false L c=true:=by
  intro c hc;cases c<;>first | exact hc | (simp [cellB] at hc)
 have val:∀c,valB false L c=true→valOk false L c=true:=by
  intro c hc
  cases c with
  | agg cs=>exact List.all_eq_true.2 fun c hc'=>cell c (List.all_eq_true.1 hc c hc')
  | _=>first | exact hc | (simp [valB,cellB] at hc)
 match vs,h with
 | [],_=>rfl
 | [v],h =>
  have hv:valB false L v=true:=by simpa using h
  simp only [tupOf]
  cases v<;>first | exact val _ hv | (simp [valB,cellB] at hv)
 | v::v'::vs,h=>exact List.all_eq_true.2 fun c hc=>val c (List.all_eq_true.1 h c hc)
theorem rebaseAll_ok {tree:Bool}{m len:Nat}{v:AV}(h:topOk tree m v=true):topOk tree len (rebaseAll m len v)=true:=by
 have cell:∀c,cellOk tree m c=true→cellOk tree len (rebaseCell m len c)=true:=by
  intro c hc
  cases c<;>first | exact hc | (simp [rebaseCell,cellOk])
 have val:∀c,valOk tree m c=true→valOk tree len (rebase m len c)=true:=by
  intro c hc
  cases c with
  | agg cs=>exact List.all_eq_true.2 fun c hc'=>by obtain ⟨d,hd,rfl⟩:=List.mem_map.1 hc';exact cell d (List.all_eq_true.1 hc d hd)
  | sl id lo n=>simp [rebase,rebaseCell,valOk,cellOk]
  | _=>exact hc
 cases v with
 | tup vs=>exact List.all_eq_true.2 fun c hc'=>by obtain ⟨d,hd,rfl⟩:=List.mem_map.1 hc';exact val d (List.all_eq_true.1 h d hd)
 | agg cs =>
  have h2:valOk tree m (.agg cs)=true:=h;exact val _ h2
 | sl id lo n=>simp [rebaseAll,rebase,rebaseCell,topOk,valOk,cellOk]
 | _=>exact h
def strongAll (L:Nat):AV→AV
 | .tup vs=>.tup (vs.map fun v=>strong1 (rebase L 0 v))
 | v=>strong1 (rebase L 0 v)
def Cx.bare (X:Cx)(L:Nat):Cx where
 N:=X.N-L
 root b:=match X.root b with
  | some i=>if L≤i∧X.par b=none then some (i-L) else none
  | none=>none
 par:=X.par
 φ j:=X.φ (L+j)
 pro:=X.pro
 soft:=X.soft
theorem bare_root {L b:Nat}(h:¬X.isRoot b):(X.bare L).root b=none:=by
 simp only [Cx.bare]
 cases hr:X.root b with
 | none=>rfl
 | some i =>
  have:X.par b≠none:=fun hp=>h ⟨by rw [hr];simp,.inl hp⟩
  simp [this]
theorem stp_bare (L:Nat):Stp w X w (X.bare L):=by
 refine ⟨rfl,⟨rfl,Nat.le_refl _⟩,rfl,Nat.le_refl _,fun _ _ hr=>⟨rfl,fun k=>k.1 (bare_root hr)⟩,fun b _ hr=>by simp [Cx.bare,hr],rfl,rfl⟩
theorem Rd.bare {L:Nat}{av:AV}{u:Value}(h:Rd w (X.ok .bor) av u):Rd w ((X.bare L).ok .imm) av u :=
 h.keep (Nat.le_refl _) fun _ _ hok=>⟨rfl,bare_root hok.1,hok.2⟩
theorem CR.bare (hsf:¬X.soft){L rid rid':Nat}{loc:Nat×Nat}{av:AV}{u:Value}(h:CR w X rid loc av u):CR w (X.bare L) rid' loc (setQ .imm av) u:=by
 have h1:Rd w ((X.bare L).ok .imm) (setQ .imm av) u:=((h.look hsf).bare (L:=L)).setQ (q:=.imm)
 have h2:=h1.cell (q:=.imm) (by simp) rid' loc
 have:setTop .imm (setQ .imm av)=setQ .imm av:=by cases av<;>rfl
 rw [this] at h2;exact h2
theorem sr_bare (hsf:¬X.soft){L:Nat}{A:St}{rs:List Ob}(hS:SR T w X (A++rs.map some))(hl:A.length=L)(hk:∀ob∈rs,ob.kd=.arr) :
    SR T w (X.bare L) (rs.map fun ob=>some { ob with els:=setQLL .imm ob.els }):=by
 have hN:=hS.n
 refine ⟨by simp [Cx.bare,hN,hl],fun b hb=>hS.lab b (fun hn=>by simp [Cx.bare,hn] at hb),hS.pro,fun id ob h=>?_,hS.sft⟩
 obtain ⟨ob0,hob0,rfl⟩:∃ob0,rs[id]?=some ob0∧ob={ ob0 with els:=setQLL .imm ob0.els }:=by
  unfold getOb at h;rw [List.getElem?_map] at h
  cases hr:rs[id]? with
  | none=>rw [hr] at h;simp at h
  | some ob0=>rw [hr] at h;simp at h;exact ⟨ob0,rfl,h.symm⟩
 have hget:getOb (A++rs.map some) (L+id)=some ob0:=by
  unfold getOb
  rw [List.getElem?_append_right (by omega),hl,Nat.add_sub_cancel_left,List.getElem?_map,hob0]
  rfl
 have hok:=hS.obs _ _ hget;have hkd:=hk ob0 (List.mem_of_getElem? hob0);unfold OK at hok ⊢;have e1:(X.bare L).φ id=X.φ (L+id):=rfl;rw [e1]
 cases hI:X.φ (L+id) with
 | none =>
  rw [hI] at hok
  exact ⟨by simp [hok.1,setQLL],hok.2⟩
 | some I =>
  rw [hI] at hok;obtain ⟨c,hor⟩:=hok
  have hlen:(setQLL .imm ob0.els).length=ob0.els.length:=by rw [setQLL_eq];simp
  refine ⟨c,hor.sz,by rw [setQLL_eq];exact rows_map _ _ hor.rows,by simp [Cx.bare,hor.root,hor.par],hor.par,hor.npro,hor.blk,by simpa [hlen] using hor.fits,fun i j hi hj=>hor.cell i j (by simpa [hlen] using hi) hj,fun i j hi hj=>?_⟩
  have hi':i<ob0.els.length:=by simpa [hlen] using hi
  have h0:=hor.val i j hi' hj
  have hnb:¬ob0.kd=.box:=by rw [hkd];simp
  rw [if_neg hnb] at h0;rw [if_neg hnb,setQLL_eq,at2_map _ _ hor.rows hi' hj];exact h0.bare hsf
theorem VR.bareCell {L:Nat}{c:AV}{u:Value}(h:VR w X c u)(hc:cellB true L c=true):VR w (X.bare L) (setTop .imm (rebaseCell L 0 c)) u:=by
 cases h with
 | int k n=>exact .int k n
 | bool b=>exact .bool b
 | str s=>exact .str s
 | nilp=>exact .nilp
 | ts q hq sz els v h =>
  simp only [cellB,Bool.true_and,decide_eq_true_eq] at hc;subst hc
  exact .ts .imm (by simp) sz els _ (h.bare.setTop (q:=.imm))
 | tp q hq sz els i j v h =>
  simp only [cellB,Bool.true_and,decide_eq_true_eq] at hc;subst hc
  exact .tp .imm (by simp) sz els i j _ (h.bare.setTop (q:=.imm))
 | sl id lo n cap I hid hI hn hcap hmx =>
  simp only [cellB,decide_eq_true_eq] at hc
  have e1:L+(0+(id-L))=id:=by omega
  exact .sl _ lo n cap I (by simp only [Cx.bare];omega) (by simp only [Cx.bare,e1];exact hI) hn hcap hmx
 | slz id lo A hid =>
  simp only [cellB,decide_eq_true_eq] at hc
  exact .slz _ lo A (by simp only [Cx.bare];omega)
 | nil=>simp [cellB] at hc
 | fn f caps cv hl h=>simp [cellB] at hc
 | agg cs cv hl h=>simp [cellB] at hc
 | tup cs cv hl h=>simp [cellB] at hc
 | ptr id i j I hid hI=>simp [cellB] at hc
theorem strong_cellOk {L:Nat}{c:AV}(hc:cellB true L c=true):cellOk true 0 (setQ .imm (rebaseCell L 0 c))=true:=by
 cases c<;>first | rfl | (simp [cellB] at hc;done) | (simp [rebaseCell,setQ,cellOk])
theorem VR.bareCellQ {L:Nat}{c:AV}{u:Value}(h:VR w X c u)(hc:cellB true L c=true):VR w (X.bare L) (setQ .imm (rebaseCell L 0 c)) u :=
 (h.bareCell hc).deep (by simp) (by intro cs e;cases c<;>simp [rebaseCell] at e<;>simp [cellB] at hc)
theorem strong_val {L:Nat}{v:AV}(hv:valB true L v=true):∃g:AV→AV,(∀c,g c=setQ .imm (rebaseCell L 0 c))∧strong1 (rebase L 0 v)=(match v with | .agg cs=>.agg (cs.map g) | c=>g c):=by
 refine ⟨fun c=>setQ .imm (rebaseCell L 0 c),fun _=>rfl,?_⟩
 cases v<;>first | rfl | (simp [strong1,rebase,List.map_map];done) | (simp [valB,cellB] at hv)
theorem VR.bareVal {L:Nat}{v:AV}{u:Value}(h:VR w X v u)(hv:valB true L v=true):VR w (X.bare L) (strong1 (rebase L 0 v)) u∧valOk true 0 (strong1 (rebase L 0 v))=true:=by
 obtain ⟨g,hg,he⟩:=strong_val hv;rw [he]
 have cell:cellB true L v=true→(VR w (X.bare L) (g v) u∧cellOk true 0 (g v)=true):=fun hc=>by
  rw [hg];exact ⟨h.bareCellQ hc,strong_cellOk hc⟩
 have cell2:cellB true L v=true→cellOk true 0 (g v)=true→valOk true 0 (g v)=true:=fun _ h2=>by
  revert h2
  cases g v<;>intro h2<;>first | exact h2 | (simp [cellOk] at h2)
 cases v with
 | agg cs =>
  obtain ⟨cv,rfl,hl,hcv⟩:=h.agg_inv
  obtain ⟨k1,k2⟩:=VR.mapCells hl hcv (g:=g) (fun c u hm hcu=>by rw [hg];exact hcu.bareCellQ (List.all_eq_true.1 hv c hm))
  refine ⟨.agg _ cv k1 k2,List.all_eq_true.2 fun c hc=>?_⟩
  obtain ⟨d,hd,rfl⟩:=List.mem_map.1 hc;rw [hg];exact strong_cellOk (List.all_eq_true.1 hv d hd)
 | _=>exact ⟨(cell hv).1,cell2 hv (cell hv).2⟩
end Go.Pi

namespace Go.Pi
open Go
variable {P:Program} {T:Tab} {o:Oper} {a:Act} {w w':World} {X X' Xc:Cx} {fr:Fr} {S S':St} {v:AV}
def BK (m:Nat)(S S':St):Prop:=S.length≤S'.length∧∀id ob,id<m→getOb S' id=some ob→ob.kd=.box→getOb S id=some ob
theorem BK.refl (m:Nat)(S:St):BK m S S:=⟨Nat.le_refl _,fun _ _ _ h _=>h⟩
theorem BK.trans {m:Nat}{A B C:St}(h:BK m A B)(k:BK m B C):BK m A C :=
 ⟨Nat.le_trans h.1 k.1,fun id ob hid hC hk=>h.2 id ob hid (k.2 id ob hid hC hk) hk⟩
theorem BK.app {m:Nat}{S:St}(hm:m≤S.length)(R:St):BK m S (S++R) :=
 ⟨by simp,fun id ob hid h _=>by
  rcases getOb_two h with ⟨_,h⟩|⟨h1,_⟩
  · exact h
  · omega⟩
theorem BK.strike {m:Nat}(S:St)(id:Nat):BK m S (S.set id none):=⟨by simp,fun _ _ _ h _=>(getOb_kill h).2⟩
theorem BK.kills {m:Nat}(S:St)(K:List Nat):BK m S (kill S K):=⟨by simp [kill_length],fun _ _ _ h _=>(getOb_kill_list h).2⟩
theorem BK.le {m n:Nat}{S S':St}(h:BK n S S')(hm:m≤n):BK m S S':=⟨h.1,fun id ob hid=>h.2 id ob (by omega)⟩
theorem VR.low {c:AV}{u:Value}(h:VR w X c u):∀id'∈idsCell c,id'<X.N:=by
 cases h<;>simp_all [idsCell]
theorem sr_low (hS:SR T w X S):∀id ob,getOb S id=some ob→ob.kd=.box→∀r∈ob.els,∀c∈r,∀id'∈idsCell c,id'<S.length:=by
 intro id ob hob hk r hr c hc id' hid';have hok:=hS.obs id ob hob;unfold OK at hok
 cases hI:X.φ id with
 | none=>rw [hI] at hok;exact absurd hk hok.2
 | some I =>
  rw [hI] at hok;obtain ⟨cc,hor⟩:=hok;obtain ⟨i,hi,rfl⟩:=List.getElem_of_mem hr;obtain ⟨j,hj,rfl⟩:=List.getElem_of_mem hc;have hrl:ob.els[i].length=ob.sz:=hor.rows _ (List.getElem_mem hi)
  have h0:=hor.val i j hi (by omega)
  rw [if_pos hk] at h0
  have e:at2 ob.els i j=ob.els[i][j]:=by simp [at2,List.getD_eq_getElem?_getD,hi,hj]
  rw [e] at h0;rw [←hS.n];exact h0.low id' hid'
def BKe (m:Nat)(S S':St):Prop:=BK m S S'∧S'.length=S.length
theorem BKe.refl (m:Nat)(S:St):BKe m S S:=⟨BK.refl _ _,rfl⟩
theorem BKe.trans {m:Nat}{A B C:St}(h:BKe m A B)(k:BKe m B C):BKe m A C:=⟨h.1.trans k.1,k.2.trans h.2⟩
theorem BKe.strike {m:Nat}(S:St)(id:Nat):BKe m S (S.set id none):=⟨BK.strike _ _,by simp⟩
theorem BKe.kills {m:Nat}(S:St)(K:List Nat):BKe m S (kill S K):=⟨BK.kills _ _,kill_length⟩
theorem valB_cell {tree:Bool}{L:Nat}{v:AV}(h:∀cs,v≠.agg cs):valB tree L v=cellB tree L v:=by
 cases v<;>first | rfl | exact absurd rfl (h _)
theorem valOk_cell {tree:Bool}{L:Nat}{v:AV}(h:cellOk tree L v=true):valOk tree L v=true:=by
 cases v<;>first | exact h | (simp [cellOk] at h)
theorem topOk_val {tree:Bool}{L:Nat}{v:AV}(h:valOk tree L v=true):topOk tree L v=true:=by
 cases v<;>first | exact h | (simp [valOk,cellOk] at h)
theorem valB_ok {tree:Bool}{L m:Nat}(hm:m≤L)(ht:tree=false){vs:List AV}(h:vs.all (valB tree L)=true):topOk tree m (tupOf vs)=true:=by
 have hmono:vs.all (valB tree m)=true:=by
  refine List.all_eq_true.2 fun v hv=>?_
  have h0:=List.all_eq_true.1 h v hv
  have cell:∀c,cellB tree L c=true→cellB tree m c=true:=by
   intro c hc
   cases c<;>first | exact hc | (simp only [cellB,decide_eq_true_eq] at hc ⊢;omega)
  cases v with
  | agg cs=>exact List.all_eq_true.2 fun c hc=>cell c (List.all_eq_true.1 h0 c hc)
  | _ =>
   rw [valB_cell (by simp)] at h0 ⊢
   exact cell _ h0
 exact topB_ok ht hmono
theorem strong_topOk {L:Nat}{vs:List AV}(hv:vs.all (valB true L)=true):topOk true 0 (strong (rebaseAll L 0 (tupOf vs)))=true:=by
 have one:∀d,valB true L d=true→valOk true 0 (strong1 (rebase L 0 d))=true:=by
  intro d hdv;obtain ⟨g,hg,he⟩:=strong_val hdv;rw [he]
  cases d with
  | agg cs =>
   refine List.all_eq_true.2 fun c hc=>?_
   obtain ⟨d',hd',rfl⟩:=List.mem_map.1 hc;rw [hg];exact strong_cellOk (List.all_eq_true.1 hdv d' hd')
  | _ =>
   rw [valB_cell (by simp)] at hdv
   have h2:=strong_cellOk hdv;rw [←hg] at h2;exact valOk_cell h2
 match vs,hv with
 | [],_=>rfl
 | [v],hv =>
  have hv':valB true L v=true:=by simpa using hv
  have e:strong (rebaseAll L 0 (tupOf [v]))=strong1 (rebase L 0 v):=by
   simp only [tupOf]
   cases v<;>first | rfl | (simp [valB,cellB] at hv')
  rw [e];exact topOk_val (one v hv')
 | v::v'::vs,hv =>
  have e:strong (rebaseAll L 0 (tupOf (v::v'::vs)))=.tup ((v::v'::vs).map fun v=>strong1 (rebase L 0 v)):=by
   simp [tupOf,rebaseAll,strong,List.map_map]
  rw [e]
  refine List.all_eq_true.2 fun c hc=>?_
  obtain ⟨d,hd,rfl⟩:=List.mem_map.1 hc;exact one d (List.all_eq_true.1 hv d hd)
theorem VR.bareTop {L:Nat}{vs:List AV}{u:Value}(h:VR w X (tupOf vs) u)(hv:vs.all (valB true L)=true) :
    VR w (X.bare L) (strong (rebaseAll L 0 (tupOf vs))) u:=by
 match vs,h,hv with
 | [],h,_ =>
  obtain ⟨cv,rfl,hl,hcv⟩:=h.tup_inv
  have:cv=[]:=by simpa using hl.symm
  subst this
  exact .tup [] [] rfl (fun i hi=>absurd hi (Nat.not_lt_zero i))
 | [v],h,hv =>
  have hv':valB true L v=true:=by simpa using hv
  have e:strong (rebaseAll L 0 (tupOf [v]))=strong1 (rebase L 0 v):=by
   simp only [tupOf]
   cases v<;>first | rfl | (simp [valB,cellB] at hv')
  rw [e];exact (VR.bareVal (h:VR w X v u) hv').1
 | v::v'::vs,h,hv =>
  obtain ⟨cv,rfl,hl,hcv⟩:=(show VR w X (.tup (v::v'::vs)) u from h).tup_inv
  have e:strong (rebaseAll L 0 (tupOf (v::v'::vs)))=.tup ((v::v'::vs).map fun v=>strong1 (rebase L 0 v)):=by
   simp [tupOf,rebaseAll,strong,List.map_map]
  rw [e]
  obtain ⟨k1,k2⟩:=VR.mapCells (w2:=w) (X2:=X.bare L) hl hcv (g:=fun v=>strong1 (rebase L 0 v)) (fun c u hm hcu=>(VR.bareVal hcu (List.all_eq_true.1 hv c hm)).1)
  exact .tup _ cv k1 k2
end Go.Pi

namespace Go.Pi
open Go
variable {P:Program} {T:Tab} {o:Oper} {a:Act} {w w':World} {X X' Xc:Cx} {fr:Fr} {S S':St} {v:AV}
theorem rebase_zero (v:AV):rebaseAll 0 0 v=v:=by
 have c:∀c:AV,rebaseCell 0 0 c=c:=by intro c;cases c<;>simp [rebaseCell]
 have r:∀c:AV,rebase 0 0 c=c:=by
  intro c'
  cases c'<;>first | (simp [rebase,rebaseCell];done) | (simp only [rebase];congr 1;exact map_id_of (fun a _=>c a))
 cases v<;>first | (simp only [rebaseAll];congr 1;exact map_id_of (fun a _=>r a)) | (simp only [rebaseAll];exact r _)
theorem rebaseTop_zero (L:Nat)(v:AV):rebaseTop L 0 v=rebaseAll L 0 v:=by
 unfold rebaseTop;split
 · rename_i h;subst h;exact (rebase_zero v).symm
 · rfl
theorem outR_start (hS:SR T w X S):OutR T w X S.length ⟨S,[]⟩:=⟨by simpa using hS,rfl,by simp,sr_low hS⟩
theorem plainOuts_ok (hT:TabOk P T)(hS:SR T w X S)(hf:FrR w X fr a):∀ {rs:List ResultVar} {vs:List AV},plainOuts T fr S rs=some vs →
    ∃us,vs.length=us.length∧(∀i,i<vs.length→VR w X (vs.getD i .undef) (us.getD i Go.undef))∧(rs.mapM (readRes a)).run P w=.ok us w:=by
 intro rs
 induction rs with
 | nil=>intro vs h;simp only [plainOuts,Option.some.injEq] at h;subst h;exact ⟨[],rfl,fun i hi=>absurd hi (Nat.not_lt_zero i),by simp⟩
 | cons r rs ih =>
  intro vs h
  cases r with
  | tmp t =>
   simp only [plainOuts] at h;split at h
   · rename_i v1 vs1 h1 h2;cases h;obtain ⟨us,k1,k2,k3⟩:=ih h2
     refine ⟨a.tmps.getD t Go.undef::us,by simp [k1],fun i hi=>?_,by simp [List.mapM_cons,readRes,k3]⟩
     cases i with
     | zero=>exact evO_ok hf h1
     | succ i=>simpa using k2 i (by simpa using hi)
   · cases h
  | cell b t =>
   simp only [plainOuts] at h;split at h
   · cases h
   · rename_i c hld
     split at h<;>cases h
     rename_i vs1 h2;obtain ⟨u,hu1,hu2⟩:=load_ok hT hS (hf.val b (evLoad_any hld)) hld;obtain ⟨p,hp⟩:=(hf.val b (evLoad_any hld)).addr (evLoad_ptr hld);obtain ⟨us,k1,k2,k3⟩:=ih h2
     have hrd:(readRes a (.cell b t)).run P w=.ok u w:=by
      rw [hp] at hu1;simp only [readRes,hp,Sem.run_bind,run_asAddr,Result.andThen_ok];simpa [Instr.loadAt,Instr.sureAddr] using hu1
     refine ⟨u::us,by simp [k1],fun i hi=>?_,by simp [List.mapM_cons,hrd,k3]⟩
     cases i with
     | zero=>simpa using hu2
     | succ i=>simpa using k2 i (by simpa using hi)
theorem finish_shape {fi:FnI}{S0:St}{res:AV}(hg:S0.length=fi.given)(hz:fi.kind≠3→fi.given=0)(h:finish T fi fr S=some (res,S')):Shape fi S0 res S':=by
 unfold finish at h;split at h
 · rename_i hk
   split at h<;>cases h
   exact ⟨hg,hz,fun h=>absurd hk h,fun h=>absurd hk h,fun h=>absurd hk h⟩
 rename_i hk;split at h
 · cases h
 rename_i vs o ho
 obtain ⟨hsh,hro⟩:=outs_shape ho (tree:=fi.tree) (fun ob hob=>absurd hob (by simp))
 have h0:S0.length=0:=by rw [hg];exact hz hk
 split at h
 · rename_i ht;rw [ht] at hsh hro;cases h;rw [rebaseTop_zero]
   refine ⟨hg,hz,fun _=>by rw [ht];exact strong_topOk hsh,fun _ id ob hob=>?_,fun _ h=>(by rw [ht] at h;cases h)⟩
   unfold getOb at hob;rw [List.getElem?_map] at hob
   cases hr:o.roots[id]? with
   | none=>rw [hr] at hob;simp at hob
   | some ob0 =>
    rw [hr] at hob;simp at hob;subst hob;exact (hro ob0 (List.mem_of_getElem? hr)).1
 · rename_i ht
   have ht':fi.tree=false:=by simpa using ht
   rw [ht'] at hsh hro;cases h;have htop:=valB_ok (m:=S.length) (Nat.le_refl _) rfl hsh
   have hnew:∀id ob,getOb (o.roots.map some) id=some ob→ob∈o.roots:=by
    intro id ob hg;unfold getOb at hg;rw [List.getElem?_map] at hg
    cases hr:o.roots[id]? with
    | none=>rw [hr] at hg;simp at hg
    | some ob0=>rw [hr] at hg;simp at hg;subst hg;exact List.mem_of_getElem? hr
   refine ⟨hg,hz,fun _=>?_,fun _ id ob hg=>(hro ob (hnew id ob hg)).1,fun _ _ id ob hg=>(hro ob (hnew id ob hg)).2 rfl⟩
   rw [ht',rebaseTop_eq htop];exact rebaseAll_ok htop
theorem finish_ok (hT:TabOk P T){fi:FnI}{w0:World}{X0:Cx}{S0:St}{res:AV}(hS0:SR T w0 X0 S0)(s0:Stn w0 X0 w X)(hS:SR T w X S)(hf:FrR w X fr a)
    (hg:S0.length=fi.given) (hz:fi.kind≠3→fi.given=0) (htr:fi.tree=true→T.soft=false) (h:finish T fi fr S=some (res,S')) :
    ∃us X',(fi.results.mapM (readRes a)).run P w=.ok us w∧Stn w0 X0 w X'∧SR T w X' S'∧VR w X' res (if h:us.toArray.size=1 then us.toArray[0] else .tuple us.toArray):=by
 unfold finish at h;split at h
 · rename_i hk
   split at h<;>cases h
   rename_i vs hp;obtain ⟨us,hl,hv,hrun⟩:=plainOuts_ok hT hS hf hp;exact ⟨us,X,hrun,s0,hS,tupOf_ok hl hv⟩
 rename_i hk;split at h
 · cases h
 rename_i vs o ho;obtain ⟨X1,us,s1,hO,hl,hv,hrun⟩:=outs_ok hT htr (outR_start hS) hf ho;have hvr:=tupOf_ok hl hv
 obtain ⟨hsh,hro⟩:=outs_shape ho (tree:=fi.tree) (fun ob hob=>absurd hob (by simp))
 have hN0:=hS0.n
 have hN1:X1.N=S.length+o.roots.length:=by rw [hO.sr.n];simp [hO.len]
 have h0:S0.length=0:=by rw [hg];exact hz hk
 split at h
 · 
   rename_i ht;rw [ht] at hsh hro;cases h;rw [rebaseTop_zero];have k1:=VR.bareTop hvr hsh;refine ⟨us,X1.bare S.length,hrun,?_,?_,k1⟩
   · have s2:=(s0.trans s1).toStp.trans (stp_bare (w:=w) (X:=X1) S.length)
     exact ⟨s2,by omega,fun id hid=>by omega⟩
   · refine sr_bare (A:=o.S) (fun k=>?_) hO.sr hO.len hO.kd
     have h1:=hO.sr.sft.1 k;rw [htr ht] at h1;cases h1
 · 
   rename_i ht
   have ht':fi.tree=false:=by simpa using ht
   rw [ht'] at hsh hro;cases h;have htop:=valB_ok (m:=S.length) (Nat.le_refl _) rfl hsh
   have hroot:∀id ob,S.length≤id→getOb (o.S++o.roots.map some) id=some ob→ob∈o.roots:=by
    intro id ob hid hg
    rcases getOb_two hg with ⟨hlt,_⟩|⟨_,hg⟩
    · have:=hO.len;omega
    · unfold getOb at hg;rw [List.getElem?_map] at hg
      cases hr:o.roots[id-o.S.length]? with
      | none=>rw [hr] at hg;simp at hg
      | some ob0=>rw [hr] at hg;simp at hg;subst hg;exact List.mem_of_getElem? hr
   have e:o.roots.map some=(o.S++o.roots.map some).take 0++(o.S++o.roots.map some).drop S.length:=by
    rw [←hO.len];simp
   have hsr:=sr_renum (w0:=w0) (X0:=X0) (S0:=[]) (len:=0) (m:=S.length) (by
    have h00:S0=[]:=List.eq_nil_of_length_eq_zero h0
    rw [←h00];exact hS0) rfl hO.sr (Nat.zero_le _) (by simp [hO.len]) (fun id ob hid=>absurd hid (Nat.not_lt_zero id)) (fun id hid=>absurd hid (Nat.not_lt_zero id)) (fun id ob hid hg hb=>by
    have:=hO.kd ob (hroot id ob hid hg)
    rw [this] at hb;cases hb)
   rw [←e] at hsr
   have hren:=VR.renum_new (tree:=false) (len:=0) (m:=S.length) (Nat.zero_le _) (by omega) hvr htop
   refine ⟨us,X1.renum 0 S.length,hrun,?_,hsr,hren⟩
   · have s2:=(s0.trans s1).toStp.trans (stp_renum (w:=w) (X:=X1) 0 S.length)
     exact ⟨s2,by omega,fun id hid=>by omega⟩
end Go.Pi

namespace Go.Pi
open Go
variable {P:Program} {T:Tab} {o:Oper} {a:Act} {w w':World} {X X' Xc:Cx} {fr:Fr} {S S':St} {v:AV}
theorem posOf_some {ids:List Nat}:∀ {id k:Nat},posOf ids id=some k→ids[k]?=some id:=by
 induction ids with
 | nil=>intro id k h;simp [posOf] at h
 | cons j r ih =>
  intro id k h;simp only [posOf] at h;split at h
  · rename_i he;cases h;simp [he]
  · split at h<;>cases h
    rename_i k' hk;simpa using ih hk
theorem posOf_none {ids:List Nat}:∀ {id:Nat},id∉ids→posOf ids id=none:=by
 induction ids with
 | nil=>intro id _;rfl
 | cons j r ih =>
  intro id h;simp only [List.mem_cons,not_or] at h;simp only [posOf]
  rw [if_neg (fun e=>h.1 e.symm),ih h.2]
theorem posOf_of {ids:List Nat}(hn:ids.Nodup):∀ {id k:Nat},ids[k]?=some id→posOf ids id=some k:=by
 induction ids with
 | nil=>intro id k h;simp at h
 | cons j r ih =>
  intro id k h;rw [List.nodup_cons] at hn
  cases k with
  | zero=>simp at h;subst h;simp [posOf]
  | succ k =>
   simp only [List.getElem?_cons_succ] at h;have hm:=List.mem_of_getElem? h
   have hne:¬j=id:=fun e=>hn.1 (e▸hm)
   simp only [posOf,if_neg hne,ih hn.2 h]
theorem addId_nodup {l:List Nat}{id:Nat}(h:l.Nodup):(addId l id).Nodup:=by
 unfold addId;split
 · exact h
 · rename_i hn;rw [List.nodup_append]
   exact ⟨h,by simp,fun a ha b hb=>by simp at hb;subst hb;exact fun e=>hn (e▸ha)⟩
theorem addCell_nodup {l:List Nat}{c:AV}(h:l.Nodup):(addCell l c).Nodup:=by
 cases c<;>first | exact h | exact addId_nodup h
theorem addCells_nodup:∀ {cs:List AV} {l:List Nat},l.Nodup→(addCells l cs).Nodup:=by
 intro cs
 induction cs with
 | nil=>intro l h;exact h
 | cons c cs ih=>intro l h;exact ih (addCell_nodup h)
theorem addPtr_nodup {l:List Nat}{c:AV}(h:l.Nodup):(addPtr S l c).Nodup:=by
 unfold addPtr;split
 · split
   · split
     · exact addCells_nodup (addId_nodup h)
     · exact addId_nodup h
   · exact addId_nodup h
 · exact addCell_nodup h
theorem addPtrs_nodup:∀ {cs:List AV} {l:List Nat},l.Nodup→(addPtrs S l cs).Nodup:=by
 intro cs
 induction cs with
 | nil=>intro l h;exact h
 | cons c cs ih=>intro l h;exact ih (addPtr_nodup h)
theorem addArgs_nodup {lf:Bool}:∀ {cs:List AV} {l:List Nat},l.Nodup→(addArgs lf S l cs).Nodup:=by
 intro cs
 induction cs with
 | nil=>intro l h;exact h
 | cons c cs ih =>
  intro l h;simp only [addArgs];refine ih ?_;unfold addArg;split
  · exact addCells_nodup h
  · split
    · exact h
    · exact addPtrs_nodup h
  · exact addPtr_nodup h
def Cx.give (X:Cx)(sz:Nat)(ids:List Nat)(H:Nat→Prop)(sf:Prop):Cx where
 N:=ids.length
 root b:=match X.root b with
  | none=>none
  | some id=>posOf ids id
 par:=X.par
 φ k:=match ids[k]? with
  | some id=>X.φ id
  | none=>none
 pro b:=X.pro b∨(b<sz∧H b)
 soft:=X.soft∧sf
variable {ids:List Nat} {H:Nat→Prop} {sz:Nat} {sf:Prop}
theorem give_root_none {b:Nat}(h:X.root b=none):(X.give sz ids H sf).root b=none:=by simp [Cx.give,h]
theorem give_root_out {b id:Nat}(h:X.root b=some id)(hn:id∉ids):(X.give sz ids H sf).root b=none:=by simp [Cx.give,h,posOf_none hn]
theorem give_root_in {b id k:Nat}(hn:ids.Nodup)(h:X.root b=some id)(hk:ids[k]?=some id):(X.give sz ids H sf).root b=some k:=by simp [Cx.give,h,posOf_of hn hk]
theorem give_isRoot {b:Nat}(h:(X.give sz ids H sf).isRoot b):X.isRoot b:=by
 obtain ⟨h1,h2⟩:=h
 refine ⟨fun hn=>h1 (give_root_none hn),h2.imp_right (·.1)⟩
structure HidOk (X:Cx) (ids:List Nat) (H:Nat→Prop):Prop where
 none:∀b,X.root b=none→¬H b
 ids:∀b id,X.root b=some id→id∈ids→¬H b
theorem ok_give_imm (hH:HidOk X ids H){b:Nat}(h:X.ok .imm b):(X.give sz ids H sf).ok .imm b :=
 ⟨give_root_none h.1,fun hp=>by
  rcases hp with hp|hp
  · exact h.2 hp
  · exact hH.none b h.1 hp.2⟩
theorem ok_give_bor (hb:∀b,¬X.isRoot b→¬H b){b:Nat}(h:X.ok .bor b):(X.give sz ids H sf).ok .bor b :=
 ⟨fun hr=>h.1 (give_isRoot hr),fun hp=>by
  rcases hp with hp|hp
  · exact h.2 hp
  · exact hb b h.1 hp.2⟩
theorem fineLL_at {l:List (List AV)}(h:fine.fineLL l=true){i j:Nat}{sz:Nat}(hrow:∀r∈l,r.length=sz)(hi:i<l.length)(hj:j<sz):fine (at2 l i j)=true:=by
 have h1:=fineLL_rows h l[i] (List.getElem_mem hi);have hlen:l[i].length=sz:=hrow _ (List.getElem_mem hi)
 have:=fineL_mem h1 (l[i][j]'(by omega)) (List.getElem_mem _)
 simpa [at2,List.getD_eq_getElem?_getD,hi,hlen,hj] using this
theorem nudeLL_rows {l:List (List AV)}(h:nude.nudeLL l=true):∀r∈l,nude.nudeL r=true:=by
 induction l with
 | nil=>simp
 | cons a l ih =>
  simp only [nude.nudeLL,Bool.and_eq_true] at h;intro x hx
  rcases List.mem_cons.1 hx with rfl|hx
  · exact h.1
  · exact ih h.2 x hx
theorem nudeL_mem {l:List AV}(h:nude.nudeL l=true):∀x∈l,nude x=true:=by
 induction l with
 | nil=>simp
 | cons a l ih =>
  simp only [nude.nudeL,Bool.and_eq_true] at h;intro x hx
  rcases List.mem_cons.1 hx with rfl|hx
  · exact h.1
  · exact ih h.2 x hx
theorem nudeLL_at {l:List (List AV)}(h:nude.nudeLL l=true){i j:Nat}{sz:Nat}(hrow:∀r∈l,r.length=sz)(hi:i<l.length)(hj:j<sz):nude (at2 l i j)=true:=by
 have h1:=nudeLL_rows h l[i] (List.getElem_mem hi);have hlen:l[i].length=sz:=hrow _ (List.getElem_mem hi)
 have:=nudeL_mem h1 (l[i][j]'(by omega)) (List.getElem_mem _)
 simpa [at2,List.getD_eq_getElem?_getD,hi,hlen,hj] using this
theorem rnC_ok (hH:HidOk X ids H){c c':AV}{u:Value}(h:rnC ids c=some c')(hv:VR w X c u)(hb:(∀b,¬X.isRoot b→¬H b)∨fine c'=true) :
    VR w (X.give sz ids H sf) c' u:=by
 cases hv with
 | int k n=>simp only [rnC,Option.some.injEq] at h;subst h;exact .int k n
 | bool b=>simp only [rnC,Option.some.injEq] at h;subst h;exact .bool b
 | str s=>simp only [rnC,Option.some.injEq] at h;subst h;exact .str s
 | nil=>simp only [rnC,Option.some.injEq] at h;subst h;exact .nil
 | nilp=>simp only [rnC,Option.some.injEq] at h;subst h;exact .nilp
 | fn f caps cv hl hc =>
  cases caps with
  | nil =>
   simp only [rnC,Option.some.injEq] at h;subst h;have:cv=[]:=List.eq_nil_of_length_eq_zero hl.symm;subst this
   exact .fn f [] [] rfl (fun i hi=>absurd hi (Nat.not_lt_zero i))
  | cons c r=>simp [rnC] at h
 | agg cs cv hl hc=>simp [rnC] at h
 | tup cs cv hl hc=>simp [rnC] at h
 | ts q hq sz' els v hr =>
  cases q with
  | own=>exact absurd rfl hq
  | imm =>
   simp only [rnC,Option.some.injEq] at h;subst h
   exact .ts .imm hq sz' els _ (hr.keep (Nat.le_refl _) fun b _ hok=>⟨rfl,ok_give_imm hH hok⟩)
  | bor =>
   simp only [rnC,Option.some.injEq] at h;subst h
   rcases hb with hb|hb
   · exact .ts .bor hq sz' els _ (hr.keep (Nat.le_refl _) fun b _ hok=>⟨rfl,ok_give_bor hb hok⟩)
   · simp [fine] at hb
 | tp q hq sz' els i j v hr =>
  cases q with
  | own=>exact absurd rfl hq
  | imm =>
   simp only [rnC,Option.some.injEq] at h;subst h
   exact .tp .imm hq sz' els i j _ (hr.keep (Nat.le_refl _) fun b _ hok=>⟨rfl,ok_give_imm hH hok⟩)
  | bor =>
   simp only [rnC,Option.some.injEq] at h;subst h
   rcases hb with hb|hb
   · exact .tp .bor hq sz' els i j _ (hr.keep (Nat.le_refl _) fun b _ hok=>⟨rfl,ok_give_bor hb hok⟩)
   · simp [fine] at hb
 | sl id lo n cap I hid hI hn hc hm =>
  simp only [rnC] at h
  split at h<;>cases h
  rename_i k hk;have hg:=posOf_some hk;have hlt:k<ids.length:=(List.getElem?_eq_some_iff.1 hg).1
  exact .sl k lo n cap I hlt (by simp only [Cx.give,hg];exact hI) hn hc hm
 | slz id lo A hid =>
  simp only [rnC] at h
  split at h<;>cases h
  rename_i k hk;have hg:=posOf_some hk;exact .slz k lo A (List.getElem?_eq_some_iff.1 hg).1
 | ptr id i j I hid hI =>
  simp only [rnC] at h
  split at h<;>cases h
  rename_i k hk;have hg:=posOf_some hk;have hlt:k<ids.length:=(List.getElem?_eq_some_iff.1 hg).1
  exact .ptr k i j I hlt (by simp only [Cx.give,hg];exact hI)
theorem CR.give (hH:HidOk X ids H)(hn:ids.Nodup){id k:Nat}(hk:ids[k]?=some id){loc:Nat×Nat}{av:AV}{u:Value}(h:CR w X id loc av u)(hb:(∀b,¬X.isRoot b→¬H b)∨fine av=true) :
    CR w (X.give sz ids H sf) k loc av u:=by
 induction h with
 | int loc k n=>exact .int _ k n
 | bool loc b=>exact .bool _ b
 | str loc s=>exact .str _ s
 | nil loc=>exact .nil _
 | nilp loc=>exact .nilp _
 | fn loc f=>exact .fn _ f
 | ts loc q hq sz' els v h =>
  cases q with
  | own=>exact absurd rfl hq
  | imm=>exact .ts _ .imm hq sz' els v (h.keep (Nat.le_refl _) fun b _ hok=>⟨rfl,ok_give_imm hH hok⟩)
  | bor =>
   rcases hb with hb|hb
   · exact .ts _ .bor hq sz' els v (h.keep (Nat.le_refl _) fun b _ hok=>⟨rfl,ok_give_bor hb hok⟩)
   · simp [fine] at hb
 | tp loc q hq sz' els i j v h =>
  cases q with
  | own=>exact absurd rfl hq
  | imm=>exact .tp _ .imm hq sz' els i j v (h.keep (Nat.le_refl _) fun b _ hok=>⟨rfl,ok_give_imm hH hok⟩)
  | bor =>
   rcases hb with hb|hb
   · exact .tp _ .bor hq sz' els i j v (h.keep (Nat.le_refl _) fun b _ hok=>⟨rfl,ok_give_bor hb hok⟩)
   · simp [fine] at hb
 | own loc sz' els A cap g o c hrow hcap hA hc _ ih =>
  refine .own _ sz' els A cap g o c hrow hcap (fun hn'=>?_) hc (fun i j hi hj=>ih i j hi hj ?_)
  · obtain ⟨h1,h2,h3,hnp,hbk⟩:=hA hn'
    refine ⟨h1,give_root_in hn h2 hk,h3,fun hp=>?_,hbk⟩
    rcases hp with hp|hp
    · exact hnp hp
    · exact hH.ids g id h2 (List.mem_of_getElem? hk) hp.2
  · rcases hb with hb|hb
    · exact .inl hb
    · simp only [fine] at hb;exact .inr (fineLL_at hb hrow hi hj)
theorem mapO_len {α β:Type}{f:α→Option β}{l:List α}{l':List β}(h:mapO f l=some l'):l'.length=l.length:=(mapO_get h).1
theorem mapO_at {α β:Type}{f:α→Option β}{l:List α}{l':List β}(h:mapO f l=some l'){i:Nat}{x:α}(hx:l[i]?=some x):∃y,l'[i]?=some y∧f x=some y:=by
 obtain ⟨h1,h2⟩:=mapO_get h;obtain ⟨hi,rfl⟩:=List.getElem?_eq_some_iff.1 hx
 exact ⟨l'[i]'(by omega),List.getElem?_eq_getElem _,h2 i hi (by omega)⟩
theorem sr_give {T':Tab}(hT':T'.soft=true↔(X.soft∧sf))(hS:SR T w X S)(hH:HidOk X ids H)(hn:ids.Nodup){Sin:St}(h:mapO (givOb S ids) ids=some Sin)(hb:(∀b,¬X.isRoot b→¬H b)∨Sin.all fineOb=true) :
    SR T' w (X.give w.heap.size ids H sf) Sin∧∀id∈ids,id<X.N:=by
 have hlen:=mapO_len h
 have hlt:∀id∈ids,id<X.N:=by
  intro id hid;obtain ⟨i,hi,rfl⟩:=List.getElem_of_mem hid;obtain ⟨y,_,hy⟩:=mapO_at h (List.getElem?_eq_getElem hi);unfold givOb at hy;split at hy
  · cases hy
  · rename_i ob hob;rw [hS.n];exact getOb_lt hob
 refine ⟨⟨by simp [Cx.give,hlen],fun b hb=>hS.lab b (fun hn=>hb (give_root_none hn)),fun b hp=>?_,fun k ob' hk=>?_,hT'.symm⟩,hlt⟩
 · rcases hp with hp|hp
   · exact hS.pro b hp
   · exact hp.1
 · unfold getOb at hk
   have hkl:k<Sin.length:=by
    rcases Nat.lt_or_ge k Sin.length with h1|h1
    · exact h1
    · rw [List.getElem?_eq_none h1] at hk;cases hk
   have hki:k<ids.length:=by omega
   obtain ⟨y,hy1,hy2⟩:=mapO_at h (List.getElem?_eq_getElem hki)
   have hy:y=some ob':=by
    rw [hy1] at hk
    cases y with
    | none=>simp at hk
    | some z=>simp at hk;rw [hk]
   subst hy;generalize hide:ids[k]=id at hy2
   have hkid:ids[k]?=some id:=by rw [List.getElem?_eq_getElem hki,hide]
   have hfine:(∀b,¬X.isRoot b→¬H b)∨fine.fineLL ob'.els=true:=by
    rcases hb with hb|hb
    · exact .inl hb
    · have:=List.all_eq_true.1 hb (some ob') (List.mem_of_getElem? hy1);exact .inr this
   unfold givOb at hy2;split at hy2
   · cases hy2
   · rename_i ob hob;have hok:=hS.obs id ob hob
     have hφ:(X.give w.heap.size ids H sf).φ k=X.φ id:=by simp [Cx.give,hkid]
     unfold OK at hok ⊢;rw [hφ]
     have key : ∀ {kd' : Kd} (hk' : kd' = .box ↔ ob.kd = .box) {els : List (List AV)}, els.length = ob.els.length → (∀ r ∈ els, r.length = ob.sz) → ∀ {I : Info} {c : Nat → Nat → Value}, OR w X id ob I c →
         (∀i j,i<ob.els.length→j<ob.sz→if ob.kd=.box then VR w (X.give w.heap.size ids H sf) (at2 els i j) (c i j) else CR w (X.give w.heap.size ids H sf) k (I.g,I.o+i*I.sz+j) (at2 els i j) (c i j)) →
         OR w (X.give w.heap.size ids H sf) k { ob with kd:=kd',els:=els } I c:=by
      intro kd' hk' els hel hrw I c hor hval
      refine ⟨hor.sz,hrw,give_root_in hn hor.root hkid,hor.par,fun hp=>?_,hor.blk,by rw [hel];exact hor.fits,fun i j hi hj=>hor.cell i j (by rw [←hel];exact hi) hj,fun i j hi hj=>by have:=hval i j (by rw [←hel];exact hi) hj;simpa only [hk'] using this⟩
      rcases hp with hp|hp
      · exact hor.npro hp
      · exact hH.ids _ id hor.root (List.mem_of_getElem? hkid) hp.2
     split at hy2
     · rename_i hkd
       split at hy2<;>cases hy2
       rename_i els hels;have hel:=mapO_len hels
       cases hI:X.φ id with
       | none=>rw [hI] at hok;exact absurd hkd hok.2
       | some I =>
        rw [hI] at hok;obtain ⟨c,hor⟩:=hok
        have hrw:∀r∈els,r.length=ob.sz:=by
         intro r hr;obtain ⟨i,hi,rfl⟩:=List.getElem_of_mem hr;obtain ⟨m1,m2⟩:=mapO_get hels
         have:=(mapO_get (m2 i (by omega) hi)).1
         rw [this];exact hor.rows _ (List.getElem_mem _)
        refine ⟨c,key Iff.rfl hel hrw hor (fun i j hi hj=>?_)⟩
        rw [if_pos hkd];have h0:=hor.val i j hi hj;rw [if_pos hkd] at h0;obtain ⟨m1,m2⟩:=mapO_get hels
        have hi':i<els.length:=by omega
        obtain ⟨q1,q2⟩:=mapO_get (m2 i hi hi');have hrl:ob.els[i].length=ob.sz:=hor.rows _ (List.getElem_mem hi)
        have h3:=q2 j (by omega) (by omega)
        have e1:at2 ob.els i j=ob.els[i][j]'(by omega):=by simp [at2,List.getD_eq_getElem?_getD,hi,hrl,hj]
        have e2:at2 els i j=els[i][j]'(by omega):=by
         have:j<els[i].length:=by omega
         simp [at2,List.getD_eq_getElem?_getD,hi',this]
        rw [e1] at h0;rw [e2];refine rnC_ok hH h3 h0 ?_
        rcases hfine with hf|hf
        · exact .inl hf
        · have:=fineLL_at hf (sz:=ob.sz) hrw (i:=i) (j:=j) hi' hj;rw [e2] at this;exact .inr this
     · rename_i hkd;cases hy2
       cases hI:X.φ id with
       | none=>rw [hI] at hok;exact ⟨hok.1,by simp⟩
       | some I =>
        rw [hI] at hok;obtain ⟨c,hor⟩:=hok
        refine ⟨c,key (by simp [hkd]) rfl hor.rows hor (fun i j hi hj=>?_)⟩
        rw [if_neg hkd];have h0:=hor.val i j hi hj;rw [if_neg hkd] at h0;refine h0.give hH hn hkid ?_
        rcases hfine with hf|hf
        · exact .inl hf
        · exact .inr (fineLL_at hf hor.rows hi hj)
end Go.Pi

namespace Go.Pi
open Go
variable {P:Program} {T:Tab} {o:Oper} {a:Act} {w w':World} {X X' Xc:Cx} {fr:Fr} {S S':St} {v:AV} {ids:List Nat} {H:Nat→Prop} {sz:Nat} {sf:Prop}
def Cx.Hids (X:Cx)(sz:Nat)(ids:List Nat)(H:Nat→Prop)(sf:Prop):Prop:=(∀b,(b<sz∧∃id,X.root b=some id∧id∉ids)→H b)∧(X.soft→sf)
def Cx.hid (X:Cx)(sz:Nat)(ids:List Nat)(b:Nat):Prop:=b<sz∧∃id,X.root b=some id∧id∉ids
open Classical in
noncomputable def Cx.taken (X Xc:Cx)(sz:Nat)(ids:List Nat):Cx where
 N:=X.N+(Xc.N-ids.length)
 root b:=if X.hid sz ids b then X.root b else (Xc.root b).map (backId ids X.N)
 par b:=if X.hid sz ids b then X.par b else Xc.par b
 φ id:=if id<X.N then X.φ id else Xc.φ (id-X.N+ids.length)
 pro:=X.pro
 soft:=X.soft
theorem taken_root {b:Nat}(h:¬X.hid sz ids b):(X.taken Xc sz ids).root b=(Xc.root b).map (backId ids X.N):=by simp [Cx.taken,h]
theorem taken_par {b:Nat}(h:¬X.hid sz ids b):(X.taken Xc sz ids).par b=Xc.par b:=by simp [Cx.taken,h]
theorem taken_root_hid {b:Nat}(h:X.hid sz ids b):(X.taken Xc sz ids).root b=X.root b:=by simp [Cx.taken,h]
theorem taken_par_hid {b:Nat}(h:X.hid sz ids b):(X.taken Xc sz ids).par b=X.par b:=by simp [Cx.taken,h]
theorem hid_give {b:Nat}(h:X.hid sz ids b):(X.give sz ids H sf).root b=none:=by
 obtain ⟨_,id,h1,h2⟩:=h;exact give_root_out h1 h2
theorem not_hid (s:Stp w (X.give w.heap.size ids H sf) w' Xc){b k:Nat}(h:Xc.root b=some k):¬X.hid w.heap.size ids b:=by
 intro hh;have:=s.none b hh.1 (hid_give hh);rw [this] at h;cases h
theorem taken_not_root (s:Stp w (X.give w.heap.size ids H sf) w' Xc){b:Nat}(hb:b<w.heap.size)(h:¬X.isRoot b):¬(X.taken Xc w.heap.size ids).isRoot b:=by
 rintro ⟨h1,h2⟩
 by_cases hh:X.hid w.heap.size ids b
 · rw [taken_root_hid hh] at h1;rw [taken_par_hid hh] at h2;exact h ⟨h1,h2⟩
 · rw [taken_root hh] at h1;rw [taken_par hh] at h2
   rcases h2 with h2|h2
   · exact (s.keep b hb (fun hr=>h (give_isRoot hr))).2 ⟨fun hn=>h1 (by rw [hn];rfl),.inl h2⟩
   · exact h1 (by rw [s.none b hb (give_root_none (Cx.soft_root (X:=X) h2 h))];rfl)
theorem stn_taken (s:Stn w (X.give w.heap.size ids H sf) w' Xc):Stn w X w' (X.taken Xc w.heap.size ids):=by
 refine ⟨⟨s.os,s.tape,s.output,s.size,fun b hb hr=>⟨(s.keep b hb (fun k=>hr (give_isRoot k))).1,taken_not_root s.toStp hb hr⟩,fun b hb hr=>?_,rfl,rfl⟩,by simp [Cx.taken],fun id hid=>by simp [Cx.taken,hid]⟩
 have hh:¬X.hid w.heap.size ids b:=by
  rintro ⟨_,id,h1,_⟩
  rw [hr] at h1;cases h1
 rw [taken_root hh,s.none b hb (give_root_none hr)];rfl
theorem ok_taken (s:Stp w (X.give w.heap.size ids H sf) w' Xc)(hH:X.Hids w.heap.size ids H sf){q:Ql}{b:Nat}(h:Xc.ok q b):(X.taken Xc w.heap.size ids).ok q b:=by
 have hp:=Cx.ok_npro h;rw [s.pro] at hp
 have hh:¬X.hid w.heap.size ids b:=fun hh=>hp (.inr ⟨hh.1,hH.1 b hh⟩)
 have hp':¬(X.taken Xc w.heap.size ids).pro b:=fun k=>hp (.inl k)
 have hr:¬Xc.isRoot b→¬(X.taken Xc w.heap.size ids).isRoot b:=by
  rintro h1 ⟨h2,h3⟩
  rw [taken_root hh] at h2;rw [taken_par hh] at h3
  refine h1 ⟨fun hn=>h2 (by rw [hn];rfl),h3.imp_right fun k=>?_⟩
  rw [s.soft];exact ⟨k,hH.2 k⟩
 cases q
 · exact ⟨hr h.1,hp'⟩
 · exact ⟨hr h.1,hp'⟩
 · exact ⟨by rw [taken_root hh,h.1];rfl,hp'⟩
theorem taken_φ (s:Stn w (X.give w.heap.size ids H sf) w' Xc)(hids:∀id∈ids,id<X.N)(k:Nat):(X.taken Xc w.heap.size ids).φ (backId ids X.N k)=Xc.φ k:=by
 unfold backId
 by_cases hk:k<ids.length
 · rw [if_pos hk]
   have e:ids.getD k 0=ids[k]:=by simp [List.getD_eq_getElem?_getD,hk]
   rw [e];have hlt:=hids _ (List.getElem_mem hk);simp only [Cx.taken,if_pos hlt];rw [s.φ k hk];simp [Cx.give,hk]
 · rw [if_neg hk]
   have h1:¬X.N+(k-ids.length)<X.N:=by omega
   simp only [Cx.taken,if_neg h1]
   congr 1
   omega
theorem backId_N (hids:∀id∈ids,id<X.N){k:Nat}(hk:k<Xc.N):backId ids X.N k<X.N+(Xc.N-ids.length):=by
 unfold backId;split
 · rename_i h
   have e:ids.getD k 0=ids[k]:=by simp [List.getD_eq_getElem?_getD,h]
   rw [e];have:=hids _ (List.getElem_mem h);omega
 · omega
theorem renL_eq (g:Nat→Nat)(l:List AV):renL g l=l.map (renA g):=by
 induction l with
 | nil=>rfl
 | cons a l ih=>simp [renL,ih]
theorem VR.taken (s:Stn w (X.give w.heap.size ids H sf) w' Xc)(hids:∀id∈ids,id<X.N){av:AV}{u:Value}(h:VR w' Xc av u)(hb:(X.Hids w.heap.size ids H sf)∨nude av=true) :
    VR w' (X.taken Xc w.heap.size ids) (renA (backId ids X.N) av) u:=by
 have list : ∀ {cs : List AV} {cv : List Value}, (∀ i, i < cs.length → ((X.Hids w.heap.size ids H sf) ∨ nude (cs.getD i .undef) = true) → VR w' (X.taken Xc w.heap.size ids) (renA (backId ids X.N) (cs.getD i .undef)) (cv.getD i Go.undef)) →
     ((X.Hids w.heap.size ids H sf)∨nude.nudeL cs=true)→∀i,i<(renL (backId ids X.N) cs).length→VR w' (X.taken Xc w.heap.size ids) ((renL (backId ids X.N) cs).getD i .undef) (cv.getD i Go.undef):=by
  intro cs cv ih hb i hi;rw [renL_eq] at hi ⊢
  have hi':i<cs.length:=by simpa using hi
  have e1:cs.getD i .undef=cs[i]:=by simp [List.getD_eq_getElem?_getD,hi']
  have e2:(cs.map (renA (backId ids X.N))).getD i .undef=renA (backId ids X.N) cs[i]:=by simp [List.getD_eq_getElem?_getD,hi']
  rw [e2,←e1];refine ih i hi' ?_
  rcases hb with hb|hb
  · exact .inl hb
  · right;rw [e1];exact nudeL_mem hb _ (List.getElem_mem _)
 induction h with
 | int k n=>exact .int k n
 | bool b=>exact .bool b
 | str s=>exact .str s
 | nil=>exact .nil
 | nilp=>exact .nilp
 | fn f caps cv hl hc ih=>exact .fn f _ cv (by rw [renL_eq];simpa using hl) (list ih (by simpa only [nude] using hb))
 | agg cs cv hl hc ih=>exact .agg _ cv (by rw [renL_eq];simpa using hl) (list ih (by simpa only [nude] using hb))
 | tup cs cv hl hc ih=>exact .tup _ cv (by rw [renL_eq];simpa using hl) (list ih (by simpa only [nude] using hb))
 | ts q hq sz' els v hr =>
  rcases hb with hb|hb
  · exact .ts q hq sz' els _ (hr.keep (Nat.le_refl _) fun b _ hok=>⟨rfl,ok_taken s.toStp hb hok⟩)
  · cases q<;>simp [nude] at hb hq
 | tp q hq sz' els i j v hr =>
  rcases hb with hb|hb
  · exact .tp q hq sz' els i j _ (hr.keep (Nat.le_refl _) fun b _ hok=>⟨rfl,ok_taken s.toStp hb hok⟩)
  · simp [nude] at hb
 | sl id lo n cap I hid hI hn hc hm=>exact .sl _ lo n cap I (backId_N hids hid) (by rw [taken_φ s hids];exact hI) hn hc hm
 | slz id lo A hid=>exact .slz _ lo A (backId_N hids hid)
 | ptr id i j I hid hI=>exact .ptr _ i j I (backId_N hids hid) (by rw [taken_φ s hids];exact hI)
theorem CR.taken (s:Stn w (X.give w.heap.size ids H sf) w' Xc){k:Nat}{loc:Nat×Nat}{av:AV}{u:Value}(h:CR w' Xc k loc av u)(hb:(X.Hids w.heap.size ids H sf)∨nude av=true) :
    CR w' (X.taken Xc w.heap.size ids) (backId ids X.N k) loc av u:=by
 induction h with
 | int loc k n=>exact .int _ k n
 | bool loc b=>exact .bool _ b
 | str loc s=>exact .str _ s
 | nil loc=>exact .nil _
 | nilp loc=>exact .nilp _
 | fn loc f=>exact .fn _ f
 | ts loc q hq sz' els v h =>
  rcases hb with hb|hb
  · exact .ts _ q hq sz' els v (h.keep (Nat.le_refl _) fun b _ hok=>⟨rfl,ok_taken s.toStp hb hok⟩)
  · cases q<;>simp [nude] at hb hq
 | tp loc q hq sz' els i j v h =>
  rcases hb with hb|hb
  · exact .tp _ q hq sz' els i j v (h.keep (Nat.le_refl _) fun b _ hok=>⟨rfl,ok_taken s.toStp hb hok⟩)
  · simp [nude] at hb
 | own loc sz' els A cap g o c hrow hcap hA hc _ ih =>
  refine .own _ sz' els A cap g o c hrow hcap (fun hn'=>?_) hc (fun i j hi hj=>ih i j hi hj ?_)
  · obtain ⟨h1,h2,h3,hnp,hbk⟩:=hA hn';have hh:=not_hid s.toStp h2
    exact ⟨h1,by rw [taken_root hh,h2];rfl,by rw [taken_par hh];exact h3,fun hp=>hnp (by rw [s.pro];exact .inl hp),hbk⟩
  · rcases hb with hb|hb
    · exact .inl hb
    · simp only [nude] at hb;exact .inr (nudeLL_at hb hrow hi hj)
theorem OK.taken (s:Stn w (X.give w.heap.size ids H sf) w' Xc)(hids:∀id∈ids,id<X.N){k:Nat}{ob ob':Ob}(h:OK w' Xc k ob)(hr:renOb (backId ids X.N) (some ob)=some ob')(hb:(X.Hids w.heap.size ids H sf)∨nude.nudeLL ob.els=true) :
    OK w' (X.taken Xc w.heap.size ids) (backId ids X.N k) ob':=by
 unfold OK at h ⊢;rw [taken_φ s hids]
 have hel:ob'.els.length=ob.els.length∧ob'.kd=ob.kd∧ob'.sz=ob.sz:=by
  simp only [renOb] at hr
  split at hr<;>(simp only [Option.some.injEq] at hr;subst hr)
  · exact ⟨by simp,rfl,rfl⟩
  · exact ⟨rfl,rfl,rfl⟩
 cases hI:Xc.φ k with
 | none =>
  rw [hI] at h
  exact ⟨List.eq_nil_of_length_eq_zero (by rw [hel.1,h.1];rfl),by rw [hel.2.1];exact h.2⟩
 | some I =>
  rw [hI] at h;obtain ⟨c,hor⟩:=h;have hh:=not_hid s.toStp hor.root
  refine ⟨c,by rw [hel.2.2];exact hor.sz,fun r hrm=>?_,by rw [taken_root hh,hor.root];rfl,by rw [taken_par hh];exact hor.par,fun hp=>hor.npro (by rw [s.pro];exact .inl hp),hor.blk,by rw [hel.1];exact hor.fits,
   fun i j hi hj=>hor.cell i j (by omega) (by omega),fun i j hi hj=>?_⟩
  · simp only [renOb] at hr
    split at hr<;>(simp only [Option.some.injEq] at hr;subst hr)
    · obtain ⟨r0,h0,rfl⟩:=List.mem_map.1 hrm;rw [renL_eq];simpa using hor.rows r0 h0
    · exact hor.rows r hrm
  · have hi':i<ob.els.length:=by omega
    have hj':j<ob.sz:=by omega
    have h0:=hor.val i j hi' hj';have hrl:ob.els[i].length=ob.sz:=hor.rows _ (List.getElem_mem hi')
    have hbb:(X.Hids w.heap.size ids H sf)∨nude (at2 ob.els i j)=true:=by
     rcases hb with hb|hb
     · exact .inl hb
     · exact .inr (nudeLL_at hb hor.rows hi' hj')
    simp only [renOb] at hr
    split at hr<;>(simp only [Option.some.injEq] at hr;subst hr)
    · rename_i hkd;rw [if_pos hkd] at h0 ⊢
      have e:at2 (ob.els.map (renL (backId ids X.N))) i j=renA (backId ids X.N) (at2 ob.els i j):=by
       simp [at2,List.getD_eq_getElem?_getD,hi',renL_eq,hrl,hj']
      rw [e];exact h0.taken s hids hbb
    · rename_i hkd;rw [if_neg hkd] at h0 ⊢;exact h0.taken s hbb
theorem setMany_len:∀ {ids:List Nat} {S:St} {obs:List (Option Ob)},(setMany S ids obs).length=S.length:=by
 intro ids
 induction ids with
 | nil=>intro S obs;rfl
 | cons i ids ih=>intro S obs;cases obs<;>simp [setMany,ih]
theorem setMany_out:∀ {ids:List Nat} {S:St} {obs:List (Option Ob)} {id:Nat},id∉ids→(setMany S ids obs)[id]?=S[id]?:=by
 intro ids
 induction ids with
 | nil=>intro S obs id _;rfl
 | cons i ids ih =>
  intro S obs id h;simp only [List.mem_cons,not_or] at h
  cases obs with
  | nil=>simp only [setMany];rw [ih h.2,List.getElem?_set_ne (fun e=>h.1 e.symm)]
  | cons ob obs=>simp only [setMany];rw [ih h.2,List.getElem?_set_ne (fun e=>h.1 e.symm)]
theorem setMany_in:∀ {ids:List Nat} {S:St} {obs:List (Option Ob)} {id k:Nat},ids.Nodup→(∀i∈ids,i<S.length)→ids[k]?=some id→(setMany S ids obs)[id]?=some (obs[k]?.getD none):=by
 intro ids
 induction ids with
 | nil=>intro S obs id k _ _ h;simp at h
 | cons i ids ih =>
  intro S obs id k hn hl h;rw [List.nodup_cons] at hn
  cases k with
  | zero =>
   simp at h;subst h
   have hil:i<S.length:=hl i (by simp)
   cases obs with
   | nil=>simp only [setMany];rw [setMany_out hn.1];simp [hil]
   | cons ob obs=>simp only [setMany];rw [setMany_out hn.1];simp [hil]
  | succ k =>
   simp only [List.getElem?_cons_succ] at h
   cases obs with
   | nil=>simp only [setMany];rw [ih hn.2 (fun j hj=>by simpa using hl j (by simp [hj])) h];simp
   | cons ob obs=>simp only [setMany];rw [ih hn.2 (fun j hj=>by simpa using hl j (by simp [hj])) h];simp
theorem sr_taken {T':Tab}(hS:SR T w X S)(hn:ids.Nodup)(hids:∀id∈ids,id<X.N)(s:Stn w (X.give w.heap.size ids H sf) w' Xc)(hSc:SR T' w' Xc S')(hb:(X.Hids w.heap.size ids H sf)∨S'.all nudeOb=true) :
    SR T w' (X.taken Xc w.heap.size ids) (backAll S ids S'):=by
 have hN:=hS.n;have hNc:=hSc.n
 have hle:ids.length≤S'.length:=by have:=s.le;simp only [Cx.give] at this;omega
 have hbare:∀k ob,getOb S' k=some ob→(X.Hids w.heap.size ids H sf)∨nude.nudeLL ob.els=true:=by
  intro k ob hk
  rcases hb with hb|hb
  · exact .inl hb
  · unfold getOb at hk
    have:some ob∈S':=by
     split at hk<;>cases hk
     rename_i h1;exact List.mem_of_getElem? h1
    exact .inr (List.all_eq_true.1 hb _ this)
 refine ⟨by simp only [Cx.taken,backAll,List.length_append,setMany_len,List.length_map,List.length_drop];omega,fun b hb=>?_,fun b hp=>Nat.lt_of_lt_of_le (hS.pro b hp) s.size,fun id ob h=>?_,hS.sft⟩
 · by_cases hh:X.hid w.heap.size ids b
   · exact Nat.lt_of_lt_of_le hh.1 s.size
   · rw [taken_root hh] at hb
     exact hSc.lab b (fun hn=>hb (by rw [hn];rfl))
 · have conv : ∀ {k : Nat} {ob : Ob}, (S'[k]?.bind (renOb (backId ids S.length))) = some ob → ∃ ob0, getOb S' k = some ob0 ∧ renOb (backId ids S.length) (some ob0) = some ob := by
     intro k ob h
     cases hk:S'[k]? with
     | none=>rw [hk] at h;simp at h
     | some y =>
      rw [hk] at h
      cases y with
      | none=>simp [renOb] at h
      | some ob0=>exact ⟨ob0,by simp [getOb,hk],by simpa using h⟩
   unfold getOb at h
   by_cases hlt:id<S.length
   · have e : (backAll S ids S')[id]? = (setMany S ids ((S'.take ids.length).map (renOb (backId ids S.length))))[id]? := by
       unfold backAll
       rw [List.getElem?_append_left (by rw [setMany_len];exact hlt)]
     rw [e] at h
     by_cases hin:id∈ids
     · obtain ⟨k,hk,rfl⟩:=List.getElem_of_mem hin
       rw [setMany_in hn (fun i hi=>by have:=hids i hi;omega) (List.getElem?_eq_getElem hk)] at h
       have hk':k<S'.length:=by omega
       have e2:((S'.take ids.length).map (renOb (backId ids S.length)))[k]?.getD none=S'[k]?.bind (renOb (backId ids S.length)):=by
        rw [List.getElem?_map,List.getElem?_take,if_pos hk,List.getElem?_eq_getElem hk'];rfl
       rw [e2] at h
       cases hq:S'[k]?.bind (renOb (backId ids S.length)) with
       | none=>rw [hq] at h;simp at h
       | some ob1 =>
        rw [hq] at h;simp at h;subst h;obtain ⟨ob0,h1,h2⟩:=conv hq;rw [←hN] at h2;have:=(hSc.obs k ob0 h1).taken s hids h2 (hbare k ob0 h1)
        have e3:backId ids X.N k=ids[k]:=by simp [backId,hk,List.getD_eq_getElem?_getD]
        rw [e3] at this;exact this
     · rw [setMany_out hin] at h;have hg:getOb S id=some ob:=h
       refine (hS.obs id ob hg).keep (stn_taken s) (by omega) (fun b hb hr=>?_) (fun I hI=>?_) (fun _ b hb hr _=>(s.keep b hb (fun k=>k.1 (give_root_out hr hin))).1)
       · have hh:X.hid w.heap.size ids b:=⟨hb,id,hr,hin⟩
         exact ⟨by rw [taken_root_hid hh];exact hr,taken_par_hid hh⟩
       · obtain ⟨c,hor⟩:=row_of hS hg hI;obtain ⟨cur,e,hbk,_⟩:=hor.blk
         exact (s.keep I.g (Array.getElem?_eq_some_iff.1 hbk).1 (fun k=>k.1 (give_root_out hor.root hin))).1
   · have e : (backAll S ids S')[id]? = (S'.drop ids.length)[id - S.length]?.map (renOb (backId ids S.length)) := by
       unfold backAll
       rw [List.getElem?_append_right (by rw [setMany_len];omega),setMany_len,List.getElem?_map]
     rw [e,List.getElem?_drop] at h
     cases hq:S'[ids.length+(id-S.length)]?.bind (renOb (backId ids S.length)) with
     | none =>
      cases hy:S'[ids.length+(id-S.length)]? with
      | none=>rw [hy] at h;simp at h
      | some y=>rw [hy] at h hq;simp at h hq;rw [hq] at h;simp at h
     | some ob1 =>
      have:ob1=ob:=by
       cases hy:S'[ids.length+(id-S.length)]? with
       | none=>rw [hy] at h;simp at h
       | some y=>rw [hy] at h hq;simp at h hq;rw [hq] at h;simpa using h
      subst this;obtain ⟨ob0,h1,h2⟩:=conv hq;rw [←hN] at h2;have:=(hSc.obs _ ob0 h1).taken s hids h2 (hbare _ ob0 h1)
      have e3:backId ids X.N (ids.length+(id-S.length))=id:=by
       have:¬ids.length+(id-S.length)<ids.length:=by omega
       unfold backId;rw [if_neg this];omega
      rw [e3] at this;exact this
end Go.Pi

namespace Go.Pi
open Go
variable {P:Program} {T:Tab} {o:Oper} {a:Act} {w w':World} {X X' Xc:Cx} {fr:Fr} {S S':St} {v:AV} {ids:List Nat} {H:Nat→Prop} {sz:Nat} {sf:Prop}
theorem lendPtr_rd (hS:SR T w X S){A:Nat→Prop}{c c':AV}{u:Value}(hv:VR w X c u)(h:lendPtr S c=some c')(hn:∀b,X.root b=none→A b)(hc:cleanPtr S c=true)
    (hids:∀id∈idsDeep S c,∀b,X.root b=some id→A b):Rd w ((X.inner w.heap.size A).ok .imm) c' u∧setTop .imm c'=c':=by
 unfold lendPtr at h;split at h
 · rename_i id i j;split at h
   · cases h
   · rename_i ob hob;split at h
     · rename_i hkd
       split at h<;>cases h
       rename_i els hels;simp only [cleanPtr,hob] at hc
       cases hv with
       | ptr id i j I hid hI =>
        obtain ⟨cc,hor⟩:=row_of hS hob hI;obtain ⟨hl1,hl2⟩:=mapO_get hels
        have hrows:∀r∈els,r.length=ob.sz:=by
         intro r hr;obtain ⟨k,hk,rfl⟩:=List.mem_iff_getElem.1 hr
         have:=(mapO_get (hl2 k (by omega) hk)).1
         rw [this];exact hor.rows _ (List.getElem_mem _)
        refine ⟨?_,rfl⟩;rw [hor.sz]
        refine .tp .imm ob.sz els i j I.g I.o cc hrows ⟨⟨rfl,fun hp=>?_⟩,?_⟩ (fun i' j' hi' hj'=>?_) (fun i' j' hi' hj'=>?_)
        · rcases hp with h|h
          · exact hor.npro h
          · exact h.2 (hids id (mem_idsDeep (by simp [idsOf,idsCell])) _ hor.root)
        · obtain ⟨cur,e,hb,_⟩:=hor.blk;exact (Array.getElem?_eq_some_iff.1 hb).1
        · have:=hor.cell i' j' (by omega) hj'
          rw [hor.sz] at this;exact this
        · have hi'':i'<ob.els.length:=by omega
          have h0:=hor.val i' j' hi'' hj';rw [if_pos hkd] at h0;have hrl:ob.els[i'].length=ob.sz:=hor.rows _ (List.getElem_mem hi'');obtain ⟨m1,m2⟩:=mapO_get (hl2 i' hi'' hi')
          have h3:=m2 j' (by omega) (by rw [m1];omega)
          have e1:at2 ob.els i' j'=ob.els[i'][j']'(by omega):=by simp [at2,List.getD_eq_getElem?_getD,hi'',hrl,hj']
          have e2:at2 els i' j'=els[i'][j']'(by rw [m1];omega):=by
           have:j'<els[i'].length:=by rw [m1];omega
           simp [at2,List.getD_eq_getElem?_getD,hi',this]
          rw [e1] at h0;rw [e2]
          have hcl:cleanCell S (ob.els[i'][j']'(by omega))=true:=List.all_eq_true.1 (List.all_eq_true.1 hc _ (List.getElem_mem hi'')) _ (List.getElem_mem _)
          exact lendCell_ok hS h0 h3 ⟨hn,fun id' hid'=>hids id' (mem_idsDeep_box (by simp [idsOf,idsCell]) hob hkd (List.getElem_mem hi'') (List.getElem_mem _) hid'),.inr hcl⟩
     · cases h
 · rename_i hne
   have hcl:cleanCell S c=true:=by
    unfold cleanPtr at hc;split at hc
    · exact absurd rfl (hne _ _ _)
    · exact hc
   have hi:∀id∈idsCell c,id∈idsDeep S c:=by
    intro id hid;refine mem_idsDeep ?_
    cases c<;>first | (simp [idsCell] at hid;done) | exact hid
   exact ⟨lendCell_ok hS hv h ⟨hn,fun id hid=>hids id (hi id hid),.inr hcl⟩,lendCell_top h⟩
structure MayGive (w:World) (X:Cx) (S:St) (ids:List Nat) (H:Nat→Prop) (lf:Bool) (v v':AV):Prop where
 tree:(∀b,¬X.isRoot b→¬H b)∨fine v'=true
 lent:lf=true→capsOf v=[]∨((capsOf v).all (cleanPtr S)=true∧(∀b,X.root b=none→¬H b)∧∀id∈(capsOf v).flatMap (idsDeep S),∀b,X.root b=some id→id∉ids∧¬H b)
theorem givArg_ok (hS:SR T w X S)(hH:HidOk X ids H){lf:Bool}{v v':AV}{u:Value}(hv:VR w X v u)(h:givArg lf S ids v=some v')(hm:MayGive w X S ids H lf v v'):VR w (X.give w.heap.size ids H sf) v' u:=by
 have cells : ∀ {cs cs' : List AV} {cv : List Value}, mapO (rnC ids) cs = some cs' → cs.length = cv.length → (∀ i, i < cs.length → VR w X (cs.getD i .undef) (cv.getD i Go.undef)) → ((∀ b, ¬ X.isRoot b → ¬ H b) ∨ fine.fineL cs' = true) →
     cs'.length=cv.length∧∀i,i<cs'.length→VR w (X.give w.heap.size ids H sf) (cs'.getD i .undef) (cv.getD i Go.undef):=by
  intro cs cs' cv h hl hc hf;obtain ⟨m1,m2⟩:=mapO_get h
  refine ⟨by omega,fun i hi=>?_⟩
  have h3:=m2 i (by omega) hi
  have h4:=hc i (by omega)
  have e1:cs.getD i .undef=cs[i]'(by omega):=by simp [List.getD_eq_getElem?_getD,show i<cs.length by omega]
  have e2:cs'.getD i .undef=cs'[i]:=by simp [List.getD_eq_getElem?_getD,hi]
  rw [e1] at h4;rw [e2];refine rnC_ok hH h3 h4 ?_
  rcases hf with hf|hf
  · exact .inl hf
  · exact .inr (fineL_mem hf _ (List.getElem_mem _))
 have one:∀ {c:AV},VR w X c u→rnC ids c=some v'→VR w (X.give w.heap.size ids H sf) v' u:=fun hc h=>rnC_ok hH h hc hm.tree
 cases v with
 | agg cs =>
  simp only [givArg] at h
  split at h<;>cases h
  rename_i cs' h1;obtain ⟨cv,rfl,hl,hcv⟩:=hv.agg_inv
  obtain ⟨k1,k2⟩:=cells h1 hl hcv (by simpa only [fine] using hm.tree)
  exact .agg _ cv k1 k2
 | fn f caps =>
  simp only [givArg] at h
  split at h<;>cases h
  rename_i caps' h1;obtain ⟨cv,rfl,hl,hcv⟩:=hv.fn_inv
  cases lf with
  | false =>
   simp only [Bool.false_eq_true,if_false] at h1
   obtain ⟨k1,k2⟩:=cells h1 hl hcv (by simpa only [fine] using hm.tree)
   exact .fn f _ cv k1 k2
  | true =>
   simp only [if_true] at h1;obtain ⟨m1,m2⟩:=mapO_get h1
   refine .fn f caps' cv (by omega) (fun i hi=>?_)
   have h3:=m2 i (by omega) hi
   have h4:=hcv i (by omega)
   have e1:caps.getD i .undef=caps[i]'(by omega):=by simp [List.getD_eq_getElem?_getD,show i<caps.length by omega]
   have e2:caps'.getD i .undef=caps'[i]:=by simp [List.getD_eq_getElem?_getD,hi]
   rw [e1] at h4;rw [e2]
   rcases hm.lent rfl with hc|⟨hc,hnone,hlent⟩
   · simp only [capsOf] at hc
     exact absurd hi (by rw [m1,hc];simp)
   · simp only [capsOf] at hc hlent
     obtain ⟨k1,k2⟩:=lendPtr_rd (A:=fun b=>X.root b=none∨∃id∈caps.flatMap (idsDeep S),X.root b=some id) hS h4 h3 (fun b hb=>.inl hb) (List.all_eq_true.1 hc _ (List.getElem_mem _)) (fun id hid b hb=>.inr ⟨id,List.mem_flatMap.2 ⟨_,List.getElem_mem _,hid⟩,hb⟩)
     have k3:Rd w ((X.give w.heap.size ids H sf).ok .imm) caps'[i] (cv.getD i Go.undef):=by
      refine k1.keep (Nat.le_refl _) (fun b hb hok=>⟨rfl,?_⟩)
      have hnp:=hok.2
      have hA:X.root b=none∨∃id∈caps.flatMap (idsDeep S),X.root b=some id:=Classical.byContradiction fun hn=>hnp (.inr ⟨hb,hn⟩)
      have hH':¬H b:=by
       rcases hA with hA|⟨id,hid,hr⟩
       · exact hnone b hA
       · exact (hlent id hid b hr).2
      refine ⟨?_,fun hp=>?_⟩
      · rcases hA with hA|⟨id,hid,hr⟩
        · exact give_root_none hA
        · exact give_root_out hr (hlent id hid b hr).1
      · rcases hp with hp|hp
        · exact hnp (.inl hp)
        · exact hH' hp.2
     have:=k3.slot (q:=.imm) (by simp)
     rw [k2] at this;exact this
 | tup vs=>simp [givArg,rnC] at h
 | _=>exact one hv h
theorem call3_ok {F:Nat→List AV→St→Option (AV×St)}(hF:FOK P T F)(hraw:∀ {vs:List AV} {ess:List (List Nat)} {vs':List AV} {us:List Value} {X:Cx} {S S1:St},SR T w X S→rawAll S ess vs=some (vs',S1)→vs.length=us.length →
    (∀i,i<vs.length→VR w X (vs.getD i .undef) (us.getD i Go.undef)) →
    ∃X1,Stn w X w X1∧SR T w X1 S1∧vs'.length=vs.length∧(∀i,i<vs'.length→VR w X1 (vs'.getD i .undef) (us.getD i Go.undef))∧∃R,S1=S++R)
    (hS:SR T w X S) {f:Nat} {fi:FnI} {args:List AV} {us:List Value}
    (hfi:T.fn f=some fi) (hsf:¬(fi.soft=true∧T.soft=false)) (hl:args.length=us.length) (hv:∀i,i<args.length→VR w X (args.getD i .undef) (us.getD i Go.undef)) (h:evCall3 T.soft fi (F f) args S=some (v,S')) :
    Calls P f us.toArray w (fun e w'=>∃v' X',e=.returned v'∧Stn w X w' X'∧SR T w' X' S'∧VR w' X' v v'):=by
 unfold evCall3 at h;split at h
 · cases h
 rename_i args1 S1 hra;split at h
 · rename_i args2 Sin hga hgo;split at h
   · cases h
   rename_i res Sr hr;split at h
   · rename_i hcond;cases h;obtain ⟨X1,s1,hS1,k1,k2,R,hR⟩:=hraw hS hra hl hv;simp only [Bool.and_eq_true,Bool.or_eq_true] at hcond;obtain ⟨⟨hlc,hdis⟩,hmode⟩:=hcond;generalize hids:addArgs fi.lf S1 [] args1=ids at *
     have hnod:ids.Nodup:=by rw [←hids];exact addArgs_nodup (List.nodup_nil)
     have hN1:=hS1.n;obtain ⟨g1,g2⟩:=mapO_get hga
     have go : ∀ (H : Nat → Prop), HidOk X1 ids H → ((∀ b, ¬ X1.isRoot b → ¬ H b) ∨ (args2.all fine = true ∧ Sin.all fineOb = true)) →
         (fi.lf=true→∀v∈args1,capsOf v=[]∨((capsOf v).all (cleanPtr S1)=true∧(∀b,X1.root b=none→¬H b)∧∀id∈(capsOf v).flatMap (idsDeep S1),∀b,X1.root b=some id→id∉ids∧¬H b)) →
         (X1.Hids w.heap.size ids H (fi.soft=true)∨(nude res=true∧Sr.all nudeOb=true)) →
         Calls P f us.toArray w (fun e w'=>∃v' X',e=.returned v'∧Stn w X w' X'∧SR T w' X' (backAll S1 ids Sr)∧VR w' X' (renA (backId ids S1.length) res) v'):=by
      intro H hH htree hlent hback;obtain ⟨fi',hfi',hsh,hcall⟩:=hF f args2 Sin res Sr hr;rw [hfi] at hfi'
      injection hfi' with hfi'
      subst hfi'
      obtain ⟨hSin,hidlt⟩:=sr_give (H:=H) (sf:=fi.soft=true) (T':=T.at fi.soft) ⟨fun k=>⟨hS1.sft.2 (by
       cases hts:T.soft with
       | true=>rfl
       | false=>exact absurd ⟨k,hts⟩ hsf),k⟩,fun k=>k.2⟩ hS1 hH hnod hgo (htree.imp_right (·.2))
      refine (hcall w _ us hSin (by omega) (fun i hi=>?_)).mono ?_
      · have hi1:i<args1.length:=by omega
        have e1:args1.getD i .undef=args1[i]:=by simp [List.getD_eq_getElem?_getD,hi1]
        have e2:args2.getD i .undef=args2[i]:=by simp [List.getD_eq_getElem?_getD,hi]
        have hvi:=k2 i hi1;rw [e1] at hvi;rw [e2]
        refine givArg_ok hS1 hH hvi (g2 i hi1 hi) ⟨?_,fun hlf=>hlent hlf _ (List.getElem_mem _)⟩
        rcases htree with ht|ht
        · exact .inl ht
        · exact .inr (List.all_eq_true.1 ht.1 _ (List.getElem_mem _))
      · rintro e w' ⟨v',Xc,rfl,s,hSc,hvr⟩
        have hsr:=sr_taken hS1 hnod hidlt s hSc (hback.imp_right (·.2))
        have hvr':=hvr.taken s hidlt (hback.imp_right (·.1))
        rw [hN1] at hvr';exact ⟨v',_,rfl,s1.trans (stn_taken s),hsr,hvr'⟩
     rcases hmode with ⟨⟨⟨hsfe,hnl⟩,hfa⟩,hfs⟩|⟨hb1,hb2⟩
     · refine go (fun b=>X1.hid w.heap.size ids b) ⟨fun b hn hh=>?_,fun b id hr hin hh=>?_⟩ (.inr ⟨hfa,hfs⟩) (fun hlf v hv'=>.inl ?_) (.inl ⟨fun b hb=>hb,fun k=>by rw [beq_iff_eq.1 hsfe];exact hS1.sft.1 k⟩)
       · obtain ⟨_,id,h1,_⟩:=hh;rw [hn] at h1;cases h1
       · obtain ⟨_,id',h1,h2⟩:=hh;rw [hr] at h1;cases h1;exact h2 hin
       · unfold noLent at hnl;rw [hlf] at hnl;simp only [Bool.not_true,Bool.false_or] at hnl;have:=List.all_eq_true.1 hnl v hv';simpa using this
     · refine go (fun b=>X1.isRoot b∧∃id,X1.root b=some id∧id∉ids∧id∉lentIds fi.lf S1 args1) ⟨fun b hn hh=>?_,fun b id hr hin hh=>?_⟩ (.inl fun b hb hh=>hb hh.1) (fun hlf v hv'=>.inr ⟨?_,fun b hn hh=>?_,fun id hid b hb=>?_⟩) (.inr ⟨hb1,hb2⟩)
       · exact hh.1.1 hn
       · obtain ⟨_,id',h1,h2,_⟩:=hh;rw [hr] at h1;cases h1;exact h2 hin
       · unfold lentClean at hlc;rw [hlf] at hlc;simp only [Bool.not_true,Bool.false_or] at hlc;exact List.all_eq_true.1 hlc v hv'
       · exact hh.1.1 hn
       · have hmem : id ∈ lentIds fi.lf S1 args1 := by
           unfold lentIds;rw [if_pos hlf];exact List.mem_flatMap.2 ⟨v,hv',hid⟩
         have hni:id∉ids:=by
          have:=List.all_eq_true.1 hdis id hmem;simpa using this
         exact ⟨hni,fun hh=>by obtain ⟨_,id',h1,_,h3⟩:=hh;rw [hb] at h1;cases h1;exact h3 hmem⟩
   · cases h
 · cases h
end Go.Pi
