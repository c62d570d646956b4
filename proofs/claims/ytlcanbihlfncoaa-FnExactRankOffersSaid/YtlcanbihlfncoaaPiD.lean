/- no condition -/
import Derived.Test.YtlcanbihlfncoaaPiC
import Derived.ChangeKeysEq
import Derived.Laws.StructEq
import Derived.Deep.Slices
import Derived.ProofKit
import Derived.Test.YtlcanbihlfncoaaPiA
import Derived.Below
set_option linter.all false
namespace Go.Pi
open Go
variable {T:Tab} {fr fr':Fr} {S S':St} {v:AV} {m:Nat}
abbrev CF:=Nat→List AV→St→Option (AV×St)
abbrev Use:=Nat×List AV×St×(AV×St)
def Use.holds (x:Use)(F:CF):Prop:=F x.1 x.2.1 x.2.2.1=some x.2.2.2
def Uses {β:Type}(G:CF→Option β)(r:β)(F:CF):Prop:=∃L:List Use,(∀x∈L,x.holds F)∧∀F',(∀x∈L,x.holds F')→G F'=some r
theorem Uses.none {β:Type}{G:CF→Option β}{r:β}{F:CF}(h:∀F',G F'=some r):Uses G r F:=⟨[],by simp,fun F' _=>h F'⟩
theorem Uses.bind {α β:Type}{G:CF→Option α}{H:CF→α→Option β}{K:CF→Option β}{q:α}{r:β}{F:CF}(h1:Uses G q F)(h2:Uses (fun F=>H F q) r F)(hK:∀F',G F'=some q→K F'=H F' q):Uses K r F:=by
 obtain ⟨L1,a1,b1⟩:=h1;obtain ⟨L2,a2,b2⟩:=h2
 refine ⟨L1++L2,fun x hx=>?_,fun F' hF'=>?_⟩
 · rcases List.mem_append.1 hx with hx|hx
   · exact a1 x hx
   · exact a2 x hx
 · rw [hK F' (b1 F' fun x hx=>hF' x (List.mem_append_left _ hx))]
   exact b2 F' fun x hx=>hF' x (List.mem_append_right _ hx)
theorem Uses.map {α β:Type}{G:CF→Option α}{K:CF→Option β}{q:α}{r:β}{F:CF}(h1:Uses G q F)(hK:∀F',G F'=some q→K F'=some r):Uses K r F:=by
 obtain ⟨L1,a1,b1⟩:=h1
 exact ⟨L1,a1,fun F' hF'=>hK F' (b1 F' hF')⟩
theorem uses_call {f:Nat}{args:List AV}{r:AV×St}{F:CF}(h:F f args S=some r):Uses (fun F=>F f args S) r F :=
 ⟨[(f,args,S,r)],fun x hx=>by simp at hx;subst hx;exact h,fun F' hF'=>hF' (f,args,S,r) (by simp)⟩
theorem uses_evCall3 {sf:Bool}{fi:FnI}{f:Nat}{args:List AV}{r:AV×St}{F:CF}(h:evCall3 sf fi (F f) args S=some r):Uses (fun F=>evCall3 sf fi (F f) args S) r F:=by
 unfold evCall3 at h
 cases hra:rawAll S fi.pes args with
 | none=>rw [hra] at h;cases h
 | some p =>
  obtain ⟨args1,S1⟩:=p;rw [hra] at h;simp only at h
  cases h1:mapO (givArg fi.lf S1 (addArgs fi.lf S1 [] args1)) args1 with
  | none=>rw [h1] at h;cases h
  | some args2 =>
   cases h2:mapO (givOb S1 (addArgs fi.lf S1 [] args1)) (addArgs fi.lf S1 [] args1) with
   | none=>rw [h1,h2] at h;cases h
   | some Sin =>
    rw [h1,h2] at h;simp only at h
    cases hc:F f args2 Sin with
    | none=>rw [hc] at h;cases h
    | some q =>
     rw [hc] at h
     refine (uses_call hc).map fun F' hF'=>?_
     simp only [evCall3,hra,h1,h2,hF'];exact h
theorem uses_mapO {α β:Type}{G:CF→α→Option β}{F:CF}:∀ {l:List α} {r:List β},(∀a b,G F a=some b→Uses (fun F=>G F a) b F)→mapO (G F) l=some r→Uses (fun F=>mapO (G F) l) r F:=by
 intro l
 induction l with
 | nil=>intro r _ h;exact Uses.none fun F'=>by simpa [mapO] using h
 | cons a l ih =>
  intro r hG h;simp only [mapO] at h;split at h
  · cases h
  rename_i b hb
  split at h<;>cases h
  rename_i bs hbs
  refine (hG a b hb).bind (H:=fun F' b=>match mapO (G F') l with
   | none=>none
   | some bs=>some (b::bs)) ?_ (fun F' hF'=>by simp only [mapO,hF'];cases mapO (G F') l<;>rfl)
  exact (ih hG hbs).map fun F' hF'=>by simp only [hF']
theorem uses_cmpAt {g:Nat}{caps:List AV}{ag:Bool}{a b:List AV}{k:Int}{F:CF}(h:cmpAt F g caps ag a b=some k):Uses (fun F=>cmpAt F g caps ag a b) k F:=by
 unfold cmpAt at h;split at h
 · rename_i k' hk
   injection h with h
   subst h
   exact (uses_call hk).map fun F' hF'=>by simp only [cmpAt,hF']
 · cases h
theorem uses_sortO {g:Nat}{caps:List AV}{ag:Bool}{els r:List (List AV)}{F:CF}(h:sortO [] (cmpAt F g caps ag) els=some r):Uses (fun F=>sortO [] (cmpAt F g caps ag) els) r F:=by
 unfold sortO at h;split at h
 · cases h
 rename_i t ht
 have:Uses (fun F=>tabO (cmpAt F g caps ag) els) t F:=by
  unfold tabO at ht ⊢
  exact uses_mapO (G:=fun F a=>mapO (cmpAt F g caps ag a) els) (fun a b hb=>uses_mapO (G:=fun F b=>cmpAt F g caps ag a b) (fun _ _ h=>uses_cmpAt h) hb) ht
 exact this.map fun F' hF'=>by simp only [sortO,hF'];exact h
theorem uses_evSort {t:Nat}{args:List AV}{r:AV×St}{F:CF}(h:evSort T F t args S=some r):Uses (fun F=>evSort T F t args S) r F:=by
 unfold evSort at h;split at h
 rotate_left
 · cases h
 rename_i te id n g caps hte;split at h
 rotate_left
 · cases h
 rename_i gi ob caps' hgi hrow hcaps;split at h
 rotate_left
 · cases h
 rename_i hc;split at h
 rotate_left
 · cases h
 rename_i els hels
 exact (uses_sortO hels).map fun F' hF'=>by simp only [evSort,hte,hgi,hrow,hcaps,if_pos hc,hF'];exact h
theorem uses_evCall {f:Nat}{args:List AV}{r:AV×St}{F:CF}(h:evCall T F f args S=some r):Uses (fun F=>evCall T F f args S) r F:=by
 unfold evCall at h
 cases hfi:T.fn f with
 | none=>rw [hfi] at h;cases h
 | some fi =>
  rw [hfi] at h;simp only at h;split at h
  · rename_i hk;split at h
    · cases h
    rename_i hsf
    refine (uses_evCall3 h).map fun F' hF'=>?_
    simp only [evCall,hfi,hk,if_neg hsf];exact hF'
  · rename_i hk
    exact Uses.none fun F'=>by simp only [evCall,hfi,hk];exact h
  · rename_i hk
    exact Uses.none fun F'=>by simp only [evCall,hfi,hk];exact h
  · rename_i hk
    exact (uses_evSort h).map fun F' hF'=>by simp only [evCall,hfi,hk];exact hF'
  · rename_i hk
    exact Uses.none fun F'=>by simp only [evCall,hfi,hk];exact h
  · rename_i hk
    exact Uses.none fun F'=>by simp only [evCall,hfi,hk];exact h
  · rename_i hk hk4 hk5 hk6 hk7 hk8;split at h
    · cases h
    rename_i hsf
    cases hla:lendAll S fi.pes args with
    | none=>rw [hla] at h;cases h
    | some args' =>
     rw [hla] at h;simp only at h
     cases hc:F f args' [] with
     | none=>rw [hc] at h;cases h
     | some q =>
      rw [hc] at h
      refine (uses_call hc).map fun F' hF'=>?_
      have e:evCall T F' f args S=(match lendAll S fi.pes args with
       | none=>none
       | some args'=>match F' f args' [] with
        | none=>none
        | some (res, S') => if fi.tree then
            if S'.length=0 then some ((if args.all (cleanArg S)=true then res else weak res),kill S (args.flatMap (idsDeep S)))
            else if args.all (cleanArg S)=true∧T.soft=false then some (rebaseTop 0 S.length res,kill S (args.flatMap (idsDeep S))++S')
            else none
         else some (rebaseTop 0 S.length res,S++S')):=by
       unfold evCall;rw [hfi];dsimp only;split
       · rename_i hk3;exact absurd hk3 hk
       · rename_i hk3;exact absurd hk3 hk4
       · rename_i hk3;exact absurd hk3 hk5
       · rename_i hk3;exact absurd hk3 hk6
       · rename_i hk3;exact absurd hk3 hk7
       · rename_i hk3;exact absurd hk3 hk8
       · rw [if_neg hsf];rfl
      rw [e,hla];simp only;rw [hF'];exact h
theorem uses_evCallFz {f:Nat}{args:List AV}{r:AV×St}{F:CF}(h:evCallFz T F f args S=some r):Uses (fun F=>evCallFz T F f args S) r F:=by
 unfold evCallFz at h
 cases hfi:T.fn f with
 | none=>rw [hfi] at h;cases h
 | some fi =>
  rw [hfi] at h;simp only at h;split at h
  · cases h
  rename_i hk
  cases hla:lendAll S fi.pes args with
  | none=>rw [hla] at h;cases h
  | some args' =>
   rw [hla] at h;simp only at h
   cases hc:F f args' [] with
   | none=>rw [hc] at h;cases h
   | some q =>
    rw [hc] at h
    refine (uses_call hc).map fun F' hF'=>?_
    simp only [evCallFz,hfi,if_neg hk,hla,hF'];exact h
theorem uses_evOp {Cf:CF→CF}(hC:∀ {f args S r F},Cf F f args S=some r→Uses (fun F=>Cf F f args S) r F){op:Op}{r:AV×St}{F:CF}(h:evOp T (Cf F) op fr S=some r):Uses (fun F=>evOp T (Cf F) op fr S) r F:=by
 cases op with
 | call c =>
  cases hc:c.callee with
  | value x =>
   simp only [evOp,hc] at h
   cases hx:evO fr x with
   | none=>rw [hx] at h;simp at h
   | some q =>
    cases hvs:evArgs fr c.args.toList with
    | none=>rw [hx,hvs] at h;cases q<;>simp at h
    | some vs =>
     rw [hx,hvs] at h
     cases q with
     | fn f caps =>
      simp only at h
      refine (hC h).map fun F' hF'=>?_
      simp only [evOp,hc,hx,hvs];exact hF'
     | _=>simp at h
  | builtin b=>exact .none fun F'=>by simp only [evOp,hc] at h ⊢;exact h
  | invoke a b=>exact .none fun F'=>by simp only [evOp,hc] at h ⊢;exact h
 | makeFunc f first caps=>cases f<;>exact .none fun F'=>h
 | slice t x lo hi mx=>cases mx<;>exact .none fun F'=>h
 | _=>exact .none fun F'=>h
theorem uses_evOps {Cf:CF→CF}(hC:∀ {f args S r F},Cf F f args S=some r→Uses (fun F=>Cf F f args S) r F){F:CF}:∀ {l:List PO} {fr:Fr} {S:St} {r:Fr×St},evOps T (Cf F) l fr S=some r→Uses (fun F=>evOps T (Cf F) l fr S) r F:=by
 intro l
 induction l with
 | nil=>intro fr S r h;exact .none fun F'=>h
 | cons o l ih =>
  intro fr S r h;simp only [evOps] at h
  by_cases hkn:known fr o.guard=true
  case neg=>rw [if_neg hkn] at h;cases h
  rw [if_pos hkn] at h;split at h
  · rename_i hw;split at h
    · cases h
    · rename_i v S1 h1
      refine Uses.bind (G:=fun F=>evOp T (Cf F) o.op fr S) (q:=(v,S1)) (H:=fun F q=>evOps T (Cf F) l (put fr o.dst q.1) q.2) (uses_evOp (Cf:=Cf) hC h1) (ih h) fun F' hF'=>?_
      simp only [evOps,if_pos hkn,if_pos hw,hF']
  · rename_i hw
    refine (ih h).map fun F' hF'=>?_
    simp only [evOps,if_pos hkn,if_neg hw];exact hF'
theorem uses_evOpX {Cf:CF→CF}(hC:∀ {f args S r F},Cf F f args S=some r→Uses (fun F=>Cf F f args S) r F){F:CF}{b:Nat}{x:Option Nat}{op:Op}{r:AV×St}(h:evOpX T (Cf F) b x op fr S=some r):Uses (fun F=>evOpX T (Cf F) b x op fr S) r F:=by
 cases x with
 | none=>exact uses_evOp (Cf:=Cf) hC h
 | some j=>exact .none fun F'=>h
theorem uses_trc {Cf:CF→CF}(hC:∀ {f args S r F},Cf F f args S=some r→Uses (fun F=>Cf F f args S) r F){F:CF}{b:Nat}:∀ {l:List PO} {R:List (Option Nat)} {fr:Fr} {S:St} {r:List TrE×Fr×St},trc T (Cf F) b l R fr S=some r→Uses (fun F=>trc T (Cf F) b l R fr S) r F:=by
 intro l
 induction l with
 | nil=>intro R fr S r h;exact .none fun F'=>by simpa only [trc] using h
 | cons o l ih =>
  intro R fr S r h
  cases R with
  | nil=>simp [trc] at h
  | cons x R =>
  simp only [trc] at h
  by_cases hkn:known fr o.guard=true
  case neg=>rw [if_neg hkn] at h;cases h
  rw [if_pos hkn] at h;split at h
  · rename_i hw;split at h
    · cases h
    · rename_i v S1 h1;split at h
      · cases h
      · rename_i t fr1 S2 h2;cases h
        refine Uses.bind (G:=fun F=>evOpX T (Cf F) b x o.op fr S) (q:=(v,S1)) (H:=fun F q=>match trc T (Cf F) b l R (put fr o.dst q.1) q.2 with
         | none=>none
         | some (t,fr',S'')=>some (⟨fr,S,q.1⟩::t,fr',S'')) (uses_evOpX (Cf:=Cf) hC h1) ((ih h2).map fun F' hF'=>by simp only [hF']) fun F' hF'=>?_
        simp only [trc,if_pos hkn,if_pos hw,hF']
        cases trc T (Cf F') b l R (put fr o.dst v) S1<;>rfl
  · rename_i hw;split at h
    · cases h
    · rename_i t fr1 S2 h2;cases h
      refine (ih h2).map fun F' hF'=>?_
      simp only [trc,if_pos hkn,if_neg hw,hF']
theorem uses_stepAt {Cf:CF→CF}(hC:∀ {f args S r F},Cf F f args S=some r→Uses (fun F=>Cf F f args S) r F){F:CF}{b:Nat}{l:List PO}{R:List (Option Nat)}{t:List TrE}{i:Nat}{r:AV×St}(h:stepAt T (Cf F) b l R t i S=some r):Uses (fun F=>stepAt T (Cf F) b l R t i S) r F:=by
 unfold stepAt at h;split at h
 · rename_i o e ho he;split at h
   · rename_i hw
     refine (uses_evOpX (Cf:=Cf) hC h).map fun F' hF'=>?_
     simp only [stepAt,ho,he,if_pos hw];exact hF'
   · rename_i hw
     exact .none fun F'=>by simp only [stepAt,ho,he,if_neg hw];exact h
 · cases h
theorem uses_moreSts {Cf:CF→CF}(hC:∀ {f args S r F},Cf F f args S=some r→Uses (fun F=>Cf F f args S) r F){F:CF}{b:Nat}{l:List PO}{R:List (Option Nat)}{t:List TrE}:∀ {G:List (Nat×Nat)} {Ss r:List St},moreSts T (Cf F) b l R t G Ss=some r→Uses (fun F=>moreSts T (Cf F) b l R t G Ss) r F:=by
 intro G
 induction G with
 | nil=>intro Ss r h;exact .none fun F'=>by simpa only [moreSts] using h
 | cons g G ih =>
  obtain ⟨k,i⟩:=g;intro Ss r h;simp only [moreSts] at h;split at h
  · cases h
  · rename_i v S1 h1
    refine Uses.bind (G:=fun F=>stepAt T (Cf F) b l R t i (Ss.getD k [])) (q:=(v,S1)) (H:=fun F q=>moreSts T (Cf F) b l R t G (Ss++[q.2])) (uses_stepAt (Cf:=Cf) hC h1) (ih h) fun F' hF'=>?_
    simp only [moreSts,hF']
theorem uses_chkAt {Cf:CF→CF}(hC:∀ {f args S r F},Cf F f args S=some r→Uses (fun F=>Cf F f args S) r F){F:CF}{b:Nat}{l:List PO}{R:List (Option Nat)}{t:List TrE}{Ss:List St}:∀ {Q:List (Nat×Nat×Nat)} {r:Unit},chkAt T (Cf F) b l R t Ss Q=some r→Uses (fun F=>chkAt T (Cf F) b l R t Ss Q) r F:=by
 intro Q
 induction Q with
 | nil=>intro r h;exact .none fun F'=>by simpa only [chkAt] using h
 | cons q Q ih =>
  obtain ⟨i,k,k'⟩:=q;intro r h;simp only [chkAt] at h;split at h
  · cases h
  · rename_i q hq;split at h
    · cases h
    · rename_i e he;split at h
      · rename_i heq
        refine Uses.bind (G:=fun F=>stepAt T (Cf F) b l R t i (Ss.getD k [])) (q:=q) (H:=fun F _=>chkAt T (Cf F) b l R t Ss Q) (uses_stepAt (Cf:=Cf) hC hq) (ih h) fun F' hF'=>?_
        simp only [chkAt,hF',he,if_pos heq]
      · cases h
theorem uses_evFx {Cf:CF→CF}(hC:∀ {f args S r F},Cf F f args S=some r→Uses (fun F=>Cf F f args S) r F){F:CF}{l:List PO}{x:FxI}{r:Fr×St}(h:evFx T (Cf F) l x fr S=some r):Uses (fun F=>evFx T (Cf F) l x fr S) r F:=by
 unfold evFx at h;split at h
 · cases h
 · rename_i t fr1 S1 h1;split at h
   · cases h
   · rename_i Ss h2;split at h
     · cases h
     · rename_i u h3
       refine Uses.bind (H:=fun F q=>match moreSts T (Cf F) S.length l x.R q.1 x.G (preSts q.1 q.2.2 x.E) with
        | none=>none
        | some Ss=>match chkAt T (Cf F) S.length l x.R q.1 Ss x.Q with
         | none=>none
         | some _=>some (q.2.1,q.2.2)) (uses_trc (Cf:=Cf) hC h1) ?_ fun F' hF'=>by unfold evFx;rw [hF'];rfl
       refine Uses.bind (H := fun F Ss => match chkAt T (Cf F) S.length l x.R t Ss x.Q with
           | none=>none
           | some _=>some (fr1,S1)) (uses_moreSts (Cf:=Cf) hC h2) ?_ fun F' hF'=>by simp only [hF']
       exact (uses_chkAt (Cf:=Cf) hC h3).map fun F' hF'=>by simp only [hF'];exact h
theorem uses_evNest {Cf:CF→CF}(hC:∀ {f args S r F},Cf F f args S=some r→Uses (fun F=>Cf F f args S) r F){F:CF}{l:List PO}{k m:Nat}{r:Fr×St}(h:evNest T (Cf F) l k m fr S=some r):Uses (fun F=>evNest T (Cf F) l k m fr S) r F:=by
 unfold evNest at h;split at h
 rotate_left
 · cases h
 rename_i p u h1 hu;split at h
 · cases h
 rename_i q hq;split at h
 · cases h
 rename_i p2 h2;split at h
 · cases h
 rename_i S4 hs
 refine Uses.bind (q:=p) (H:=fun F p=>match evOpen T u.2.1 (p.1.getD u.2.2 .undef) p.2 with
  | none=>none
  | some q=>match evOps T (Cf F) ((l.drop (k+1)).take m) (p.1.set u.1 (.sl p.2.length 0 q.els.length)) (q.st p.2) with
   | none=>none
   | some r=>match evShut q p.2.length r.2 with
    | none=>none
    | some S4=>evOps T (Cf F) (l.drop (k+1+m)) r.1 S4) (uses_evOps (Cf:=Cf) hC h1) ?_ fun F' hF'=>by unfold evNest;rw [hF',hu];rfl
 refine Uses.bind (q := p2) (H := fun F r => match evShut q p.2.length r.2 with
       | none=>none
       | some S4=>evOps T (Cf F) (l.drop (k+1+m)) r.1 S4) (uses_evOps (Cf:=Cf) hC h2) ?_ fun F' hF'=>by simp only [hq,hF']
 exact (uses_evOps (Cf:=Cf) hC h).map fun F' hF'=>by simp only [hs];exact hF'
theorem uses_norm {G:CF→Option (Fr×St)}{F:CF}(hG:∀ {r},G F=some r→Uses G r F){r:Ex×Fr×St}(h:norm (G F)=some r):Uses (fun F=>norm (G F)) r F:=by
 obtain ⟨ex,fr',S'⟩:=r;obtain ⟨rfl,h1⟩:=norm_some h
 exact (hG h1).map fun F' hF'=>by simp only [norm,hF']
theorem uses_evC {F:CF}:∀ {k:Nat} {m:Nat} {c:PC} {fr:Fr} {S:St} {r:Ex×Fr×St},evC T F k m c fr S=some r→Uses (fun F=>evC T F k m c fr S) r F:=by
 intro k
 induction k with
 | zero=>intro m c fr S r h;simp [evC] at h
 | succ k ih =>
  intro m c fr S r h
  cases c with
  | reg l=>simp only [evC] at h ⊢;exact uses_norm (G:=fun F=>evOps T (evCall T F) l fr S) (fun h=>uses_evOps (Cf:=fun F=>evCall T F) uses_evCall h) h
  | nest l kk mm=>simp only [evC] at h ⊢;exact uses_norm (G:=fun F=>evNest T (evCall T F) l kk mm fr S) (fun h=>uses_evNest (Cf:=fun F=>evCall T F) uses_evCall h) h
  | fz l=>simp only [evC] at h ⊢;exact uses_norm (G:=fun F=>evOps T (evCallFz T F) l fr S) (fun h=>uses_evOps (Cf:=fun F=>evCallFz T F) uses_evCallFz h) h
  | fx l x=>simp only [evC] at h ⊢;exact uses_norm (G:=fun F=>evFx T (evCall T F) l x fr S) (fun h=>uses_evFx (Cf:=fun F=>evCall T F) uses_evCall h) h
  | pre hh a =>
   simp only [evC] at h;split at h
   · rename_i ht
     exact (ih h).map fun F' hF'=>by simp only [evC,ht];exact hF'
   · cases h
  | post a hh =>
   simp only [evC] at h
   cases h1:evC T F k m a fr S with
   | none=>rw [h1] at h;cases h
   | some q=>rw [h1] at h;exact (ih h1).map fun F' hF'=>by simp only [evC,hF'];exact h
  | seq a b =>
   simp only [evC] at h
   cases h1:evC T F k m a fr S with
   | none=>rw [h1] at h;cases h
   | some q =>
    refine (ih h1).bind (H:=fun F q=>match q with | (.normal,fr',S')=>evC T F k m b fr' S' | q=>some q) ?_ fun F' hF'=>?_
    · rw [h1] at h;obtain ⟨ex,fr',S'⟩:=q
      cases ex with
      | normal=>exact ih h
      | _=>exact .none fun F'=>h
    · simp only [evC,hF'];obtain ⟨ex,fr',S'⟩:=q
      cases ex<;>rfl
  | cond x a b =>
   simp only [evC] at h;split at h
   · rename_i hx;exact (ih h).map fun F' hF'=>by simp only [evC,hx];exact hF'
   · rename_i hx;exact (ih h).map fun F' hF'=>by simp only [evC,hx];exact hF'
   · cases h
  | amb l x a b =>
   simp only [evC] at h
   cases hl:ambOps l with
   | none=>rw [hl] at h;cases h
   | some pp =>
    rw [hl] at h;simp only at h
    cases h0:evOps T (evCall T F) [pp.1] fr S with
    | none=>rw [h0] at h;cases h
    | some q =>
     rw [h0] at h;simp only at h
     cases h1:ambAt T pp.2 x q.1 with
     | none=>rw [h1] at h;cases h
     | some u =>
      rw [h1] at h;simp only at h;obtain ⟨e1,e2⟩:=both_some h
      refine (uses_evOps (Cf:=fun F=>evCall T F) uses_evCall h0).bind (H:=fun F q=>match ambAt T pp.2 x q.1 with
       | none=>none
       | some u=>both u.2 (evC T F k m a (q.1.set u.1 .any) q.2) (evC T F k m b (q.1.set u.1 .any) q.2)) ?_ fun F' hF'=>by simp only [evC,hl,hF'];rfl
      simp only [h1]
      cases hb:u.2 with
      | false=>exact (ih e2).map fun F' hF'=>by simp only [both,hF',Bool.false_eq_true,if_false]
      | true =>
       refine (ih (e1 hb)).bind (H:=fun F r1=>both true (some r1) (evC T F k m b (q.1.set u.1 .any) q.2)) ?_ fun F' hF'=>by simp only [hF']
       exact (ih e2).map fun F' hF'=>by simp only [both,hF',if_true]
  | block id a =>
   simp only [evC] at h
   cases h1:evC T F k m a fr S with
   | none=>rw [h1] at h;cases h
   | some q =>
    rw [h1] at h
    exact (ih h1).map fun F' hF'=>by simp only [evC,hF'];exact h
  | loop a =>
   simp only [evC] at h
   cases h1:evC T F k m a fr S with
   | none=>rw [h1] at h;cases h
   | some q =>
    refine (ih h1).bind (H:=fun F q=>match q with | (.normal,fr',S')=>evC T F k m (.loop a) fr' S' | q=>some q) ?_ fun F' hF'=>?_
    · rw [h1] at h;obtain ⟨ex,fr',S'⟩:=q
      cases ex with
      | normal=>exact ih h
      | _=>exact .none fun F'=>h
    · simp only [evC,hF'];obtain ⟨ex,fr',S'⟩:=q
      cases ex<;>rfl
  | _=>exact .none fun F'=>by simp only [evC] at h ⊢;exact h
end Go.Pi

namespace Go.Pi
open Go
variable {T:Tab} {fr fr':Fr} {S S':St} {v:AV} {m:Nat}
theorem evC_mono {F F':CF}(hF:∀f a S r,F f a S=some r→F' f a S=some r){k:Nat}{c:PC}{r:Ex×Fr×St}(h:evC T F k m c fr S=some r):evC T F' k m c fr S=some r:=by
 obtain ⟨L,h1,h2⟩:=uses_evC h
 exact h2 F' fun x hx=>hF _ _ _ _ (h1 x hx)
theorem evC_step {F:CF}:∀ {k:Nat} {m:Nat} {c:PC} {fr:Fr} {S:St} {r:Ex×Fr×St},evC T F k m c fr S=some r→evC T F (k+1) m c fr S=some r:=by
 intro k
 induction k with
 | zero=>intro m c fr S r h;simp [evC] at h
 | succ k ih =>
  intro m c fr S r h
  cases c with
  | seq a b =>
   simp only [evC] at h
   cases h1:evC T F k m a fr S with
   | none=>rw [h1] at h;cases h
   | some q =>
    rw [h1] at h;have:=ih h1;simp only [evC] at this ⊢;rw [this];obtain ⟨ex,fr',S'⟩:=q
    cases ex with
    | normal=>exact ih h
    | _=>exact h
  | pre hh a =>
   simp only [evC] at h;split at h
   · rename_i ht;have:=ih h;simp only [evC,ht] at this ⊢;exact this
   · cases h
  | post a hh =>
   simp only [evC] at h
   cases h1:evC T F k m a fr S with
   | none=>rw [h1] at h;cases h
   | some q =>
    rw [h1] at h;have:=ih h1;simp only [evC] at this ⊢;rw [this];exact h
  | cond x a b =>
   simp only [evC] at h;split at h
   · rename_i hx;have:=ih h;simp only [evC,hx] at this ⊢;exact this
   · rename_i hx;have:=ih h;simp only [evC,hx] at this ⊢;exact this
   · cases h
  | amb l x a b =>
   simp only [evC] at h
   cases hl:ambOps l with
   | none=>rw [hl] at h;cases h
   | some pp =>
    rw [hl] at h;simp only at h
    cases h0:evOps T (evCall T F) [pp.1] fr S with
    | none=>rw [h0] at h;cases h
    | some q =>
     rw [h0] at h;simp only at h
     cases h1:ambAt T pp.2 x q.1 with
     | none=>rw [h1] at h;cases h
     | some u =>
      rw [h1] at h;simp only at h;obtain ⟨e1,e2⟩:=both_some h;rw [evC];simp only [hl,h0,h1];unfold both;split
      · rename_i hb;rw [ih (e1 hb),ih e2,if_pos rfl]
      · exact ih e2
  | block id a =>
   simp only [evC] at h
   cases h1:evC T F k m a fr S with
   | none=>rw [h1] at h;cases h
   | some q =>
    rw [h1] at h;have:=ih h1;simp only [evC] at this ⊢;rw [this];exact h
  | loop a =>
   simp only [evC] at h
   cases h1:evC T F k m a fr S with
   | none=>rw [h1] at h;cases h
   | some q =>
    rw [h1] at h;have:=ih h1;simp only [evC] at this ⊢;rw [this];obtain ⟨ex,fr',S'⟩:=q
    cases ex with
    | normal=>have:=ih h;simp only [evC] at this;exact this
    | _=>exact h
  | _=>simp only [evC] at h ⊢;exact h
end Go.Pi

namespace Go.Pi
open Go
variable {T:Tab} {fr fr':Fr} {S S':St} {v:AV} {m:Nat}
theorem evC_le {F:CF}{k k':Nat}(hk:k≤k'){c:PC}{r:Ex×Fr×St}(h:evC T F k m c fr S=some r):evC T F k' m c fr S=some r:=by
 induction hk with
 | refl=>exact h
 | step _ ih=>exact evC_step ih
theorem evF_step:∀ {k f:Nat} {a:List AV} {S:St} {r:AV×St},evF T k f a S=some r→evF T (k+1) f a S=some r:=by
 intro k
 induction k with
 | zero=>intro f a S r h;simp [evF] at h
 | succ k ih =>
  intro f a S r h;rw [evF] at h ⊢
  cases hfi:T.fn f with
  | none=>rw [hfi] at h;cases h
  | some fi =>
   rw [hfi] at h;simp only at h ⊢;split at h
   · rename_i hl;rw [if_pos hl]
     cases h1:evC (T.at fi.soft) (evF T k) k fi.given fi.body (args0 fi a) S with
     | none=>rw [h1] at h;cases h
     | some q =>
      rw [h1] at h
      rw [evC_step (evC_mono (fun f a S r h=>ih h) h1)]
      exact h
   · cases h
theorem evF_le {k k' f:Nat}(hk:k≤k'){a:List AV}{r:AV×St}(h:evF T k f a S=some r):evF T k' f a S=some r:=by
 induction hk with
 | refl=>exact h
 | step _ ih=>exact evF_step ih
open Classical in
noncomputable def evFL (T:Tab)(f:Nat)(a:List AV)(S:St):Option (AV×St) :=
 if h:∃k r,evF T k f a S=some r then some (Classical.choose (Classical.choose_spec h)) else none
theorem evFL_iff {f:Nat}{a:List AV}{r:AV×St}:evFL T f a S=some r↔∃k,evF T k f a S=some r:=by
 unfold evFL
 constructor
 · intro h;split at h
   · rename_i hex
     injection h with h
     subst h;exact ⟨_,Classical.choose_spec (Classical.choose_spec hex)⟩
   · cases h
 · rintro ⟨k,hk⟩
   have hex:∃k r,evF T k f a S=some r:=⟨k,r,hk⟩;rw [dif_pos hex];have h2:=Classical.choose_spec (Classical.choose_spec hex);have e1:=evF_le (Nat.le_max_left k (Classical.choose hex)) hk;have e2:=evF_le (Nat.le_max_right k (Classical.choose hex)) h2;rw [e1] at e2;exact e2.symm
open Classical in
noncomputable def evCL (T:Tab)(m:Nat)(c:PC)(fr:Fr)(S:St):Option (Ex×Fr×St) :=
 if h:∃k r,evC T (evFL T) k m c fr S=some r then some (Classical.choose (Classical.choose_spec h)) else none
theorem evCL_iff {c:PC}{r:Ex×Fr×St}:evCL T m c fr S=some r↔∃k,evC T (evFL T) k m c fr S=some r:=by
 unfold evCL
 constructor
 · intro h;split at h
   · rename_i hex
     injection h with h
     subst h;exact ⟨_,Classical.choose_spec (Classical.choose_spec hex)⟩
   · cases h
 · rintro ⟨k,hk⟩
   have hex:∃k r,evC T (evFL T) k m c fr S=some r:=⟨k,r,hk⟩;rw [dif_pos hex];have h2:=Classical.choose_spec (Classical.choose_spec hex);have e1:=evC_le (Nat.le_max_left k (Classical.choose hex)) hk;have e2:=evC_le (Nat.le_max_right k (Classical.choose hex)) h2;rw [e1] at e2;exact e2.symm
theorem evC_fin {k:Nat}{c:PC}{r:Ex×Fr×St}(h:evC T (evFL T) k m c fr S=some r):∃j,k≤j∧evC T (evF T j) j m c fr S=some r:=by
 obtain ⟨L,h1,h2⟩:=uses_evC h
 have:∃j,∀x∈L,x.holds (evF T j):=by
  clear h2
  induction L with
  | nil=>exact ⟨0,by simp⟩
  | cons x L ih =>
   obtain ⟨j,hj⟩:=ih fun y hy=>h1 y (by simp [hy])
   obtain ⟨i,hi⟩:=evFL_iff.1 (h1 x (by simp))
   refine ⟨max i j,fun y hy=>?_⟩
   rcases List.mem_cons.1 hy with rfl|hy
   · exact evF_le (Nat.le_max_left _ _) hi
   · exact evF_le (Nat.le_max_right _ _) (hj y hy)
 obtain ⟨j,hj⟩:=this
 refine ⟨max k j,Nat.le_max_left _ _,evC_le (Nat.le_max_left k j) (h2 _ fun x hx=>evF_le (Nat.le_max_right _ _) (hj x hx))⟩
theorem ext_some {α:Type}{x y:Option α}(h:∀r,x=some r↔y=some r):x=y:=by
 cases x with
 | none=>cases y with
  | none=>rfl
  | some r=>exact absurd ((h r).2 rfl) (by simp)
 | some r=>exact ((h r).1 rfl).symm
theorem evF_at (T:Tab)(b:Bool):∀k,evF (T.at b) k=evF T k:=by
 intro k
 induction k with
 | zero=>rfl
 | succ k ih =>
  funext f args S0
  simp only [evF,ih];rfl
theorem evFL_soft (T:Tab)(b:Bool):evFL (T.at b)=evFL T:=by
 funext f a S
 apply ext_some
 intro r;rw [evFL_iff,evFL_iff];simp only [evF_at]
theorem Tab.at_self {T:Tab}{b:Bool}(h:b=T.soft):T.at b=T:=by subst h;rfl
theorem evFL_eqS {f:Nat}{fi:FnI}(hfi:T.fn f=some fi){a:List AV}(hl:a.length≤fi.ntmps∧S.length=fi.given∧(fi.kind=3∨fi.given=0)∧(fi.soft=true→fi.tree=false)):evFL T f a S=close (T.at fi.soft) fi (evCL (T.at fi.soft) fi.given fi.body (args0 fi a) S):=by
 apply ext_some
 intro r;rw [evFL_iff]
 constructor
 · rintro ⟨k,hk⟩
   cases k with
   | zero=>simp [evF] at hk
   | succ k =>
    rw [evF,hfi] at hk;simp only [if_pos hl] at hk
    cases h1:evC (T.at fi.soft) (evF T k) k fi.given fi.body (args0 fi a) S with
    | none=>rw [h1] at hk;cases hk
    | some q =>
     rw [h1] at hk
     have:evCL (T.at fi.soft) fi.given fi.body (args0 fi a) S=some q:=evCL_iff.2 ⟨k,by rw [evFL_soft];exact evC_mono (fun f a S r h=>evFL_iff.2 ⟨k,h⟩) h1⟩
     rw [this];exact hk
 · intro h
   cases h1:evCL (T.at fi.soft) fi.given fi.body (args0 fi a) S with
   | none=>rw [h1] at h;cases h
   | some q =>
    rw [h1] at h;obtain ⟨k,hk⟩:=evCL_iff.1 h1;obtain ⟨j,_,hj⟩:=evC_fin hk;refine ⟨j+1,?_⟩;rw [evF,hfi];rw [evF_at] at hj;simp only [if_pos hl,hj];exact h
theorem evFL_eq {f:Nat}{fi:FnI}(hfi:T.fn f=some fi)(hs:fi.soft=false∧T.soft=false){a:List AV}(hl:a.length≤fi.ntmps∧S.length=fi.given∧(fi.kind=3∨fi.given=0)):evFL T f a S=close T fi (evCL T fi.given fi.body (args0 fi a) S):=by
 rw [evFL_eqS hfi ⟨hl.1,hl.2.1,hl.2.2,fun h=>by rw [hs.1] at h;cases h⟩,Tab.at_self (hs.1.trans hs.2.symm)]
end Go.Pi

namespace Go.Pi
open Go
variable {P:Program} {T:Tab} {fr fr':Fr} {S S':St} {v:AV} {m:Nat}
theorem evCL_skip:evCL T m .skip fr S=some (.normal,fr,S):=evCL_iff.2 ⟨1,rfl⟩
theorem evCL_ret:evCL T m .ret fr S=some (.ret,fr,S):=evCL_iff.2 ⟨1,rfl⟩
theorem evCL_exit {id:Nat}:evCL T m (.exit id) fr S=some (.exit id,fr,S):=evCL_iff.2 ⟨1,rfl⟩
theorem evCL_reg {l:List PO}:evCL T m (.reg l) fr S=norm (evOps T (evCall T (evFL T)) l fr S):=by
 apply ext_some
 intro r;rw [evCL_iff]
 constructor
 · rintro ⟨k,hk⟩
   cases k with
   | zero=>simp [evC] at hk
   | succ k=>simpa only [evC] using hk
 · intro h;exact ⟨1,by simpa only [evC] using h⟩
theorem evCL_fz {l:List PO}:evCL T m (.fz l) fr S=norm (evOps T (evCallFz T (evFL T)) l fr S):=by
 apply ext_some
 intro r;rw [evCL_iff]
 constructor
 · rintro ⟨k,hk⟩
   cases k with
   | zero=>simp [evC] at hk
   | succ k=>simpa only [evC] using hk
 · intro h;exact ⟨1,by simpa only [evC] using h⟩
theorem evCL_nest {l:List PO}{k m':Nat}:evCL T m (.nest l k m') fr S=norm (evNest T (evCall T (evFL T)) l k m' fr S):=by
 apply ext_some
 intro r;rw [evCL_iff]
 constructor
 · rintro ⟨k,hk⟩
   cases k with
   | zero=>simp [evC] at hk
   | succ k=>simpa only [evC] using hk
 · intro h;exact ⟨1,by simpa only [evC] using h⟩
theorem evCL_fx {l:List PO}{x:FxI}:evCL T m (.fx l x) fr S=norm (evFx T (evCall T (evFL T)) l x fr S):=by
 apply ext_some
 intro r;rw [evCL_iff]
 constructor
 · rintro ⟨k,hk⟩
   cases k with
   | zero=>simp [evC] at hk
   | succ k=>simpa only [evC] using hk
 · intro h;exact ⟨1,by simpa only [evC] using h⟩
def andThen (r:Option (Ex×Fr×St))(K:Fr→St→Option (Ex×Fr×St)):Option (Ex×Fr×St) :=
 match r with
 | some (.normal,fr,S)=>K fr S
 | r=>r
theorem evCL_seq {a b:PC}:evCL T m (.seq a b) fr S=andThen (evCL T m a fr S) (evCL T m b):=by
 apply ext_some
 intro r;rw [evCL_iff]
 constructor
 · rintro ⟨k,hk⟩
   cases k with
   | zero=>simp [evC] at hk
   | succ k =>
    simp only [evC] at hk
    cases h1:evC T (evFL T) k m a fr S with
    | none=>rw [h1] at hk;cases hk
    | some q =>
     rw [h1] at hk;rw [evCL_iff.2 ⟨k,h1⟩];obtain ⟨ex,fr1,S1⟩:=q
     cases ex with
     | normal=>exact evCL_iff.2 ⟨k,hk⟩
     | _=>exact hk
 · intro h
   cases h1:evCL T m a fr S with
   | none=>rw [h1] at h;cases h
   | some q =>
    rw [h1] at h;obtain ⟨k,hk⟩:=evCL_iff.1 h1;obtain ⟨ex,fr1,S1⟩:=q
    cases ex with
    | normal =>
     obtain ⟨k2,hk2⟩:=evCL_iff.1 (show evCL T m b fr1 S1=some r from h)
     refine ⟨max k k2+1,?_⟩;simp only [evC,evC_le (Nat.le_max_left k k2) hk];exact evC_le (Nat.le_max_right k k2) hk2
    | exit id=>exact ⟨k+1,by simp only [evC,hk];exact h⟩
    | ret=>exact ⟨k+1,by simp only [evC,hk];exact h⟩
theorem evCL_loop {a:PC}:evCL T m (.loop a) fr S=andThen (evCL T m a fr S) (evCL T m (.loop a)):=by
 apply ext_some
 intro r;rw [evCL_iff]
 constructor
 · rintro ⟨k,hk⟩
   cases k with
   | zero=>simp [evC] at hk
   | succ k =>
    simp only [evC] at hk
    cases h1:evC T (evFL T) k m a fr S with
    | none=>rw [h1] at hk;cases hk
    | some q =>
     rw [h1] at hk;rw [evCL_iff.2 ⟨k,h1⟩];obtain ⟨ex,fr1,S1⟩:=q
     cases ex with
     | normal=>exact evCL_iff.2 ⟨k,hk⟩
     | _=>exact hk
 · intro h
   cases h1:evCL T m a fr S with
   | none=>rw [h1] at h;cases h
   | some q =>
    rw [h1] at h;obtain ⟨k,hk⟩:=evCL_iff.1 h1;obtain ⟨ex,fr1,S1⟩:=q
    cases ex with
    | normal =>
     obtain ⟨k2,hk2⟩:=evCL_iff.1 (show evCL T m (.loop a) fr1 S1=some r from h)
     refine ⟨max k k2+1,?_⟩;simp only [evC,evC_le (Nat.le_max_left k k2) hk];exact evC_le (Nat.le_max_right k k2) hk2
    | exit id=>exact ⟨k+1,by simp only [evC,hk];exact h⟩
    | ret=>exact ⟨k+1,by simp only [evC,hk];exact h⟩
def inBlock (id:Nat)(r:Option (Ex×Fr×St)):Option (Ex×Fr×St) :=
 match r with
 | some (.exit i,fr,S)=>if i=id then some (.normal,fr,S) else some (.exit i,fr,S)
 | r=>r
theorem evCL_block {id:Nat}{a:PC}:evCL T m (.block id a) fr S=inBlock id (evCL T m a fr S):=by
 apply ext_some
 intro r;rw [evCL_iff]
 constructor
 · rintro ⟨k,hk⟩
   cases k with
   | zero=>simp [evC] at hk
   | succ k =>
    simp only [evC] at hk
    cases h1:evC T (evFL T) k m a fr S with
    | none=>rw [h1] at hk;cases hk
    | some q =>
     rw [h1] at hk;rw [evCL_iff.2 ⟨k,h1⟩];exact hk
 · intro h
   cases h1:evCL T m a fr S with
   | none=>rw [h1] at h;cases h
   | some q =>
    rw [h1] at h;obtain ⟨k,hk⟩:=evCL_iff.1 h1
    exact ⟨k+1,by simp only [evC,hk];exact h⟩
theorem evCL_cond {x:Operand}{a b:PC}:evCL T m (.cond x a b) fr S=(match evO fr x with | some (.bool c)=>(if c then evCL T m a fr S else evCL T m b fr S) | _=>none):=by
 apply ext_some
 intro r;rw [evCL_iff]
 constructor
 · rintro ⟨k,hk⟩
   cases k with
   | zero=>simp [evC] at hk
   | succ k =>
    simp only [evC] at hk;split at hk
    · rename_i hx;rw [hx];exact evCL_iff.2 ⟨k,hk⟩
    · rename_i hx;rw [hx];exact evCL_iff.2 ⟨k,hk⟩
    · cases hk
 · intro h;split at h
   · rename_i c hx
     cases c with
     | true=>obtain ⟨k,hk⟩:=evCL_iff.1 (show evCL T m a fr S=some r from h);exact ⟨k+1,by simp only [evC,hx];exact hk⟩
     | false=>obtain ⟨k,hk⟩:=evCL_iff.1 (show evCL T m b fr S=some r from h);exact ⟨k+1,by simp only [evC,hx];exact hk⟩
   · cases h
def ambL (r:Option (Fr×St))(T:Tab)(p:PO)(x:Operand)(f:Bool→Fr→St→Option (Ex×Fr×St)):Option (Ex×Fr×St) :=
 match r with
 | none=>none
 | some q=>match ambAt T p x q.1 with
  | none=>none
  | some u=>f u.2 (q.1.set u.1 .any) q.2
theorem evCL_amb {p0 p1:PO}{x:Operand}{a b:PC}:evCL T m (.amb [p0,p1] x a b) fr S=ambL (evOps T (evCall T (evFL T)) [p0] fr S) T p1 x (fun w fr S=>both w (evCL T m a fr S) (evCL T m b fr S)):=by
 apply ext_some
 intro r;rw [evCL_iff]
 constructor
 · rintro ⟨k,hk⟩
   cases k with
   | zero=>simp [evC] at hk
   | succ k =>
    simp only [evC,ambOps] at hk;unfold ambL;split at hk
    · cases hk
    rename_i q h0;rw [h0];simp only;split at hk
    · cases hk
    rename_i u h1;rw [h1];simp only;obtain ⟨e1,e2⟩:=both_some hk;unfold both;split
    · rename_i hb;rw [evCL_iff.2 ⟨k,e1 hb⟩,evCL_iff.2 ⟨k,e2⟩,if_pos rfl]
    · exact evCL_iff.2 ⟨k,e2⟩
 · intro h;unfold ambL at h;split at h
   · cases h
   rename_i q h0;split at h
   · cases h
   rename_i u h1;obtain ⟨e1,e2⟩:=both_some h;obtain ⟨k2,hk2⟩:=evCL_iff.1 e2
   cases hb:u.2 with
   | false =>
    refine ⟨k2+1,?_⟩;simp only [evC,ambOps,h0,h1,hb,both,Bool.false_eq_true,if_false];exact hk2
   | true =>
    obtain ⟨k1,hk1⟩:=evCL_iff.1 (e1 hb);refine ⟨max k1 k2+1,?_⟩;simp only [evC,ambOps,h0,h1,hb,both,if_true];rw [evC_le (Nat.le_max_left k1 k2) hk1,evC_le (Nat.le_max_right k1 k2) hk2,if_pos rfl]
theorem evCL_pre {h:Hint}{a:PC}:evCL T m (.pre h a) fr S=(match tidy m h fr S with | some (fr',S')=>evCL T m a fr' S' | none=>none):=by
 apply ext_some
 intro r;rw [evCL_iff]
 constructor
 · rintro ⟨k,hk⟩
   cases k with
   | zero=>simp [evC] at hk
   | succ k =>
    simp only [evC] at hk;split at hk
    · rename_i ht;rw [ht];exact evCL_iff.2 ⟨k,hk⟩
    · cases hk
 · intro hh;split at hh
   · rename_i ht;obtain ⟨k,hk⟩:=evCL_iff.1 hh
     exact ⟨k+1,by simp only [evC,ht];exact hk⟩
   · cases hh
theorem evCL_post {h:Hint}{a:PC}:evCL T m (.post a h) fr S=andThen (evCL T m a fr S) (fun fr S=>norm (tidy m h fr S)):=by
 apply ext_some
 intro r;rw [evCL_iff]
 constructor
 · rintro ⟨k,hk⟩
   cases k with
   | zero=>simp [evC] at hk
   | succ k =>
    simp only [evC] at hk
    cases h1:evC T (evFL T) k m a fr S with
    | none=>rw [h1] at hk;cases hk
    | some q =>
     rw [h1] at hk;rw [evCL_iff.2 ⟨k,h1⟩];obtain ⟨ex,fr1,S1⟩:=q
     cases ex<;>exact hk
 · intro hh
   cases h1:evCL T m a fr S with
   | none=>rw [h1] at hh;cases hh
   | some q =>
    rw [h1] at hh;obtain ⟨k,hk⟩:=evCL_iff.1 h1;obtain ⟨ex,fr1,S1⟩:=q
    cases ex<;>exact ⟨k+1,by simp only [evC,hk];exact hh⟩
theorem fokL (hT:TabOk P T):FOK P T (evFL T):=by
 intro f args S0 res S' h;obtain ⟨k,hk⟩:=evFL_iff.1 h;exact fok hT k f args S0 res S' hk
end Go.Pi

namespace Go.Pi
open Go
variable {P:Program} {T:Tab}
def sameZ:Value→AV→Bool
 | .int k n,.int k' n'=>decide (k=k')&&decide (n=n')
 | .bool b,.bool b'=>b==b'
 | .string s,.str s'=>s.toList.isEmpty&&s'.toList.isEmpty&&decide (s.size=0)&&decide (s'.size=0)
 | .slice none 0 0,.nil=>true
 | .pointer none,.nilp=>true
 | _,_=>false
def sameZs:List Value→List AV→Bool
 | [],[]=>true
 | v::r,a::s=>sameZ v a&&sameZs r s
 | _,_=>false
theorem bytes_empty {s:ByteArray}(h:s.size=0):s=ByteArray.empty:=by
 cases s with
 | mk d =>
  have:d=#[]:=Array.eq_empty_of_size_eq_zero h;subst this;rfl
theorem sameZ_ok {v:Value}{a:AV}(h:sameZ v a=true):v=zOf a∧zOk a=true:=by
 unfold sameZ at h;split at h
 · simp only [Bool.and_eq_true,decide_eq_true_eq] at h;obtain ⟨rfl,rfl⟩:=h;exact ⟨rfl,rfl⟩
 · simp only [beq_iff_eq] at h;subst h;exact ⟨rfl,rfl⟩
 · simp only [Bool.and_eq_true,decide_eq_true_eq] at h;refine ⟨?_,rfl⟩;rw [bytes_empty h.1.2,zOf,bytes_empty h.2]
 · exact ⟨rfl,rfl⟩
 · exact ⟨rfl,rfl⟩
 · cases h
theorem sameZs_ok:∀ {vs:List Value} {as:List AV},sameZs vs as=true→vs=as.map zOf∧as.all zOk=true:=by
 intro vs
 induction vs with
 | nil=>intro as h;cases as with
  | nil=>exact ⟨rfl,rfl⟩
  | cons=>simp [sameZs] at h
 | cons v vs ih=>intro as h;cases as with
  | nil=>simp [sameZs] at h
  | cons a as =>
   simp only [sameZs,Bool.and_eq_true] at h;obtain ⟨h1,h2⟩:=ih h.2;obtain ⟨h3,h4⟩:=sameZ_ok h.1
   exact ⟨by rw [h1,h3];rfl,by simp [h2,h4]⟩
def chkField (P:Program)(f:Field)(x:Nat×Nat×Bool):Bool :=
 match P.info? f.type,P.underlying f.type with
 | some i,some d=>decide (x=(f.offset,i.size,isAggD d))
 | _,_=>false
def chkFields (P:Program):List Field→List (Nat×Nat×Bool)→Bool
 | [],[]=>true
 | f::r,x::s=>chkField P f x&&chkFields P r s
 | _,_=>false
def flatFields (P:Program):List Field→Nat→List AV→Bool
 | [],_,[]=>true
 | f :: r, j, x :: s => decide (f.name ≠ "_") && decide (f.offset = j) && (match P.underlying f.type, x with
     | some (.int _),.int _ _=>true
     | some .bool,.bool _=>true
     | some .string,.str _=>true
     | _,_=>false)&&flatFields P r (j+1) s
 | _,_,_=>false
def flatChk (P:Program)(t:Nat)(z:List AV):Bool :=
 match P.underlying t with
 | some (.struct fs)=>!P.stoodInHeld t&&!P.eqGuardType P.depth t&&flatFields P fs.toList 0 z
 | _=>false
theorem drop_cons_get {α:Type}{l:List α}{j:Nat}{x:α}{r:List α}(h:l.drop j=x::r):l[j]?=some x∧l.drop (j+1)=r:=by
 have h1:(l.drop j)[0]?=some x:=by rw [h];rfl
 rw [List.getElem?_drop] at h1
 have h2:(l.drop j).drop 1=r:=by rw [h];rfl
 rw [List.drop_drop] at h2
 exact ⟨by simpa using h1,h2⟩
theorem eqFields_flat (w:World)(d:Nat){xs ys:Array Value}:∀ {fs:List Field} {j:Nat} {z:List AV} {us vs:List Value} {e e0:Bool},flatFields P fs j z=true→xs.toList.drop j=us→ys.toList.drop j=vs →
    eqVals (z.map zOf) us=some e0→eqVals us vs=some e→(Op.eqFields (d+1) xs ys fs).run P w=.ok e w:=by
 intro fs
 induction fs with
 | nil =>
  intro j z us vs e e0 hf hu hv h0 h1
  cases z with
  | cons _ _=>simp [flatFields] at hf
  | nil =>
   cases us with
   | cons _ _=>simp [eqVals] at h0
   | nil=>cases vs with
    | cons _ _=>simp [eqVals] at h1
    | nil=>simp only [eqVals,Option.some.injEq] at h1;subst h1;simp [Op.eqFields]
 | cons f fs ih =>
  intro j z us vs e e0 hf hu hv h0 h1
  cases z with
  | nil=>simp [flatFields] at hf
  | cons x z =>
   simp only [flatFields,Bool.and_eq_true,decide_eq_true_eq] at hf;obtain ⟨⟨⟨hn,ho⟩,hk⟩,hr⟩:=hf
   have go : ∀ {a b : Value} {us' vs' : List Value} {r : Bool}, us = a :: us' → vs = b :: vs' → P.plainKey f.type = true → (Op.equalIn (d + 1) f.type a b).run P w = .ok r w →
       ∀ {e' e0':Bool},eqVals (z.map zOf) us'=some e0'→eqVals us' vs'=some e'→e=(r&&e')→(Op.eqFields (d+1) xs ys (f::fs)).run P w=.ok e w:=by
    intro a b us' vs' r hua hvb hp hq e' e0' g0 g1 he;subst hua hvb;obtain ⟨x1,x2⟩:=drop_cons_get hu;obtain ⟨y1,y2⟩:=drop_cons_get hv;have i1:=ih hr x2 y2 g0 g1
    have p1:(part f.type xs f.offset).run P w=.ok a w:=run_part_plain w hp (by rw [ho];simpa using x1)
    have p2:(part f.type ys f.offset).run P w=.ok b w:=run_part_plain w hp (by rw [ho];simpa using y1)
    simp only [Op.eqFields,if_pos hn,Sem.run_bind,p1,p2,Result.andThen_ok,hq,Sem.run_ite,Sem.run_pure,i1,he]
    cases r<;>simp
   split at hk
   · rename_i k' k n m hu';simp only [List.map_cons,zOf] at h0
     cases us with
     | nil=>simp [eqVals] at h0
     | cons a us =>
      cases a<;>simp only [eqVals] at h0<;>try (cases h0;done)
      split at h0<;>try (cases h0;done)
      rename_i hkk
      split at h0<;>cases h0
      rename_i e0' h0'
      cases vs with
      | nil=>simp [eqVals] at h1
      | cons b vs =>
       cases b<;>simp only [eqVals] at h1<;>try (cases h1;done)
       split at h1<;>try (cases h1;done)
       rename_i hkk2
       split at h1<;>cases h1
       rename_i e' h1';subst hkk2
       exact go rfl rfl (by simp [Program.plainKey,hu']) (run_equalIn_int w d _ _ _ _ _ hu') h0' h1' rfl
   · rename_i b0 b1 hu';simp only [List.map_cons,zOf] at h0
     cases us with
     | nil=>simp [eqVals] at h0
     | cons a us =>
      cases a<;>simp only [eqVals] at h0<;>try (cases h0;done)
      split at h0<;>cases h0
      rename_i e0' h0'
      cases vs with
      | nil=>simp [eqVals] at h1
      | cons b vs =>
       cases b<;>simp only [eqVals] at h1<;>try (cases h1;done)
       split at h1<;>cases h1
       rename_i e' h1'
       exact go rfl rfl (by simp [Program.plainKey,hu']) (run_equalIn_bool' w d _ _ _ hu') h0' h1' rfl
   · rename_i b0 b1 hu';simp only [List.map_cons,zOf] at h0
     cases us with
     | nil=>simp [eqVals] at h0
     | cons a us =>
      cases a<;>simp only [eqVals] at h0<;>try (cases h0;done)
      split at h0<;>cases h0
      rename_i e0' h0'
      cases vs with
      | nil=>simp [eqVals] at h1
      | cons b vs =>
       cases b<;>simp only [eqVals] at h1<;>try (cases h1;done)
       split at h1<;>cases h1
       rename_i e' h1'
       exact go rfl rfl (by simp [Program.plainKey,hu']) (run_equalIn_string w d _ _ _ hu') h0' h1' (by rw [beq_toListBytes])
   · cases hk
def tyChk (P:Program)(t:Nat)(ti:TyI):Bool :=
 (match P.info? t,P.underlying t with
  | some i, some d => decide (isAggD d = ti.agg) && decide (i.size = ti.size) && decide (i.bytes = ti.bytes) &&
     (match i.zero with
      | some (.agg cs)=>ti.agg&&sameZs cs.toList ti.zero
      | some zv=>!ti.agg&&sameZs zv.cells.toList ti.zero
      | none=>false) &&
     (decide (ti.elem=0)||(match d with | .slice e=>decide (e=ti.elem) | _=>false)) &&
     (ti.fields.isEmpty||(match d with | .struct fs=>chkFields P fs.toList ti.fields | _=>false)) &&
     (match ti.base with
      | .other=>true
      | .int k=>(match d with | .int k'=>decide (k'=k) | _=>false)
      | .bool=>(match d with | .bool=>true | _=>false)
      | .str=>(match d with | .string=>true | _=>false))
  | _,_=>false) &&
 decide (ti.zero.length=ti.size)&&decide (ti.es.length=ti.size)&&(ti.agg||decide (ti.size=1))&&(!ti.cmp||flatChk P t ti.zero)
theorem chkFields_ok:∀ {fs:List Field} {xs:List (Nat×Nat×Bool)},chkFields P fs xs=true→fs.length=xs.length∧∀(j:Nat) (f:Field),fs[j]?=some f→∃i d,P.info? f.type=some i∧P.underlying f.type=some d∧xs[j]?=some (f.offset,i.size,isAggD d):=by
 intro fs
 induction fs with
 | nil=>intro xs h;cases xs with
  | nil=>exact ⟨rfl,fun j f hj=>by simp at hj⟩
  | cons=>simp [chkFields] at h
 | cons f fs ih=>intro xs h;cases xs with
  | nil=>simp [chkFields] at h
  | cons x xs =>
   simp only [chkFields,Bool.and_eq_true] at h;obtain ⟨h1,h2⟩:=ih h.2
   refine ⟨by simp [h1],fun j g hj=>?_⟩
   cases j with
   | zero =>
    simp at hj;subst hj;have h0:=h.1;unfold chkField at h0;split at h0
    · rename_i i d hi hd;simp only [decide_eq_true_eq] at h0
      exact ⟨i,d,hi,hd,by simp [h0]⟩
    · cases h0
   | succ j=>simpa using h2 j g (by simpa using hj)
theorem tyChk_ok {t:Nat}{ti:TyI}(h:tyChk P t ti=true):TyOk P t ti:=by
 unfold tyChk at h;simp only [Bool.and_eq_true,Bool.or_eq_true,decide_eq_true_eq,Bool.not_eq_true'] at h;obtain ⟨⟨⟨⟨h1,hzl⟩,hel⟩,hag⟩,hcmp⟩:=h;split at h1
 · rename_i i d hi hd;simp only [Bool.and_eq_true,Bool.or_eq_true,decide_eq_true_eq] at h1;obtain ⟨⟨⟨⟨⟨⟨ha,hs⟩,hb⟩,hz⟩,he⟩,hf⟩,hba⟩:=h1
   have hz':∃zv,i.zero=some zv∧sameZs zv.cells.toList ti.zero=true∧(ti.agg=true→zv=.agg zv.cells):=by
    split at hz
    · rename_i cs hcs;simp only [Bool.and_eq_true] at hz
      exact ⟨_,hcs,hz.2,fun _=>rfl⟩
    · rename_i zv hne hzv;simp only [Bool.and_eq_true,Bool.not_eq_true'] at hz
      exact ⟨zv,hzv,hz.2,fun h=>by rw [h] at hz;cases hz.1⟩
    · cases hz
   obtain ⟨zv,hzv,hzs,hza⟩:=hz';obtain ⟨k1,k2⟩:=sameZs_ok hzs
   refine ⟨⟨i,zv,d,hi,hd,ha,hs,hb,hzv,k1,hza⟩,k2,hzl,hel,fun h=>?_,fun hne=>?_,fun hne=>?_,?_,fun hc=>?_⟩
   · rw [h] at hag;simpa using hag
   · rcases he with he|he
     · exact absurd he hne
     · split at he
       · simp only [decide_eq_true_eq] at he;subst he;exact hd
       · cases he
   · rcases hf with hf|hf
     · simp at hf;exact absurd hf hne
     · split at hf
       · rename_i fs;obtain ⟨q1,q2⟩:=chkFields_ok hf
         exact ⟨fs,hd,by simpa using q1,fun j f hj=>q2 j f (by simpa using hj)⟩
       · cases hf
   · cases hbb:ti.base with
     | other=>trivial
     | int k =>
      rw [hbb] at hba;simp only at hba ⊢;split at hba
      · simp only [decide_eq_true_eq] at hba;subst hba;exact hd
      · cases hba
     | bool =>
      rw [hbb] at hba;simp only at hba ⊢;split at hba
      · exact hd
      · cases hba
     | str =>
      rw [hbb] at hba;simp only at hba ⊢;split at hba
      · exact hd
      · cases hba
   · intro _ xs ys e e0 hxs h0 h1 w
     rcases hcmp with hcmp|hcmp
     · rw [hcmp] at hc;cases hc
     · unfold flatChk at hcmp;split at hcmp
       · rename_i fs hfs;simp only [Bool.and_eq_true,Bool.not_eq_true'] at hcmp;obtain ⟨⟨hs1,hs2⟩,hs3⟩:=hcmp
         have hfo:P.fieldsOf t=fs:=by simp [Program.fieldsOf,hfs]
         have hq:(Op.equalIn 10000 t (.agg xs) (.agg ys)).run P w=.ok e w:=by
          rw [show (10000:Nat)=9999+1 from rfl,run_equalIn_struct w 9999 t xs ys (by rw [hfo];exact hfs) hs1,hfo]
          exact eqFields_flat w 9998 hs3 (by simp) (by simp) h0 h1
         exact ⟨by rw [run_eql_struct,hq];rfl,by rw [run_neq_struct,hq];rfl,hs2⟩
       · cases hcmp
 · cases h1
end Go.Pi

namespace Go.Pi
open Go
variable {P:Program}
def mkTab (tys:List (Nat×TyI))(fns:List (Nat×FnI)):Tab where
 ty t:=(tys.find? fun p=>p.1==t).map (·.2)
 fn f:=(fns.find? fun p=>p.1==f).map (·.2)
 soft:=false
def FnOk (P:Program)(p:Nat×FnI):Prop :=
 ∃ (fn : Func) (c : Code), P.funcs[p.1]? = some fn ∧ fn.body = some c ∧ lay p.2.body c = p.2.body ∧ fn.ntmps = p.2.ntmps ∧ fn.results.toList = p.2.results ∧ (fn.name == "runtime.NumGoroutine") = false
inductive AllFn (P:Program):List (Nat×FnI)→Prop
 | nil:AllFn P []
 | cons {p:Nat×FnI} {l:List (Nat×FnI)} (h:FnOk P p) (t:AllFn P l):AllFn P (p::l)
theorem AllFn.mem {l:List (Nat×FnI)}(h:AllFn P l):∀p∈l,FnOk P p:=by
 induction h with
 | nil=>simp
 | cons h _ ih => intro p hp; rcases List.mem_cons.1 hp with rfl | hp
                  · exact h
                  · exact ih p hp
theorem tabOkI_of {tys:List (Nat×TyI)}{fns:List (Nat×FnI)}(h1:tys.all (fun p=>tyChk P p.1 p.2)=true)(h2:AllFn P fns)(h3:∀f fi,(mkTab tys fns).fn f=some fi→PrimOk P f fi):TabOk P (mkTab tys fns):=by
 constructor
 · exact h3
 · intro t ti h;simp only [mkTab,Option.map_eq_some_iff] at h;obtain ⟨p,hp,rfl⟩:=h;have hm:=List.mem_of_find?_eq_some hp;have he:=List.find?_some hp;simp only [beq_iff_eq] at he;subst he;exact tyChk_ok (List.all_eq_true.1 h1 p hm)
 · intro f fi h;simp only [mkTab,Option.map_eq_some_iff] at h;obtain ⟨p,hp,rfl⟩:=h;have hm:=List.mem_of_find?_eq_some hp;have he:=List.find?_some hp;simp only [beq_iff_eq] at he;subst he;exact h2.mem p hm
theorem primOk_of {f:Nat}{fi:FnI}(h:¬(4≤fi.kind∧fi.kind≤8)):PrimOk P f fi:=⟨fun k=>by omega,fun k=>by omega,fun k=>by omega,fun k=>by omega,fun k=>by omega⟩
def noPrim (q:Nat×FnI):Bool:=!decide (4≤q.2.kind∧q.2.kind≤8)
theorem fn_mem {tys:List (Nat×TyI)}{fns:List (Nat×FnI)}{f:Nat}{fi:FnI}(h:(mkTab tys fns).fn f=some fi):(f,fi)∈fns:=by
 simp only [mkTab,Option.map_eq_some_iff] at h;obtain ⟨p,hp,rfl⟩:=h;have hm:=List.mem_of_find?_eq_some hp;have he:=List.find?_some hp;simp only [beq_iff_eq] at he;subst he;exact hm
theorem col_prim {f:Nat}{fi:FnI}(hk:fi.kind=7)(h:CollOk P f fi.vfn fi.given):PrimOk P f fi:=⟨fun k=>by omega,fun k=>by omega,fun k=>by omega,fun _=>h,fun k=>by omega⟩
theorem val_prim {f:Nat}{fi:FnI}(hk:fi.kind=8)(h:ValsOk P f fi.vfn fi.given):PrimOk P f fi:=⟨fun k=>by omega,fun k=>by omega,fun k=>by omega,fun k=>by omega,fun _=>h⟩
theorem srt_prim {f:Nat}{fi:FnI}(hk:fi.kind=6)(h:SortOk P f fi.given):PrimOk P f fi:=⟨fun k=>by omega,fun k=>by omega,fun _=>h,fun k=>by omega,fun k=>by omega⟩
theorem tabOkL_of {tys:List (Nat×TyI)}{fns:List (Nat×FnI)}(L:List (Nat×FnI))(h1:tys.all (fun p=>tyChk P p.1 p.2)=true)(h2:AllFn P fns)(h3:fns.all (fun p=>noPrim p||L.any (fun q=>q.1==p.1))=true)(hL:∀q∈L,(mkTab tys fns).fn q.1=some q.2∧PrimOk P q.1 q.2):TabOk P (mkTab tys fns) :=
 tabOkI_of h1 h2 fun f fi h=>by
  have:=List.all_eq_true.1 h3 _ (fn_mem h);rw [Bool.or_eq_true] at this
  rcases this with k|k
  · exact primOk_of (by
      simp only [noPrim,Bool.not_eq_true',decide_eq_false_iff_not] at k
      exact k)
  · obtain ⟨q,hq,hqp⟩:=List.any_eq_true.1 k;obtain ⟨h5,h6⟩:=hL q hq
    have e:q.1=f:=by simpa using hqp
    rw [e,h] at h5
    injection h5 with h5
    rw [h5,←e];exact h6
end Go.Pi

namespace Go.Pi
open Go
variable {H:Type} {enc:TypeId×Value→H} {P:Program} {w:World} {base:Nat} {spare:Nat→Bool} {held:Bool}
def Cells (w:World)(avs:List AV)(cs:List Value):Prop:=avs.length=cs.length∧∀i,i<cs.length→Rd w (fun _=>True) (avs.getD i .undef) (cs.getD i Go.undef)
def Opens (enc:TypeId×Value→H)(P:Program)(w:World)(base:Nat)(spare:Nat→Bool)(held:Bool)(t:TypeId){α:Type}(good:α→Prop)(f:α→List AV):Prop :=
 ∀fuel cs x,DataW.trod enc P w base spare held fuel t cs=some x→∃a,good a∧Cells w (f a) cs
theorem opens_int {t:TypeId}{k:IntKind}(ht:P.underlying t=some (.int k)):Opens enc P w base spare held t (fun n:Int=>(Lit.int k n).wf=true) (fun n=>[.int k n]):=by
 intro fuel cs x h;obtain ⟨n,rfl,_,hw⟩:=DataW.trod_int ht h
 exact ⟨n,hw,rfl,fun i hi=>by simp at hi;subst hi;exact .int k n⟩
theorem spot_none {w:World}{a:Addr}{v:Value}(h:w.cell? a=some v):a=⟨a.block,a.off,none⟩:=by
 obtain ⟨b,o,s⟩:=a
 cases s with
 | none=>rfl
 | some k =>
  simp only [World.cell?] at h;split at h
  · simp at h
  · cases h
theorem pick_list {α:Type}{p:Nat→α→Prop}:∀(n:Nat),(∀i,i<n→∃x,p i x)→∃q:List α,q.length=n∧∀i (hi:i<q.length),p i q[i]:=by
 intro n
 induction n with
 | zero=>intro _;exact ⟨[],rfl,fun i hi=>absurd hi (Nat.not_lt_zero i)⟩
 | succ n ih =>
  intro key
  obtain ⟨q,hq,hall⟩:=ih (fun i hi=>key i (by omega))
  obtain ⟨x,hx⟩:=key n (by omega)
  refine ⟨q++[x],by simp [hq],fun i hi=>?_⟩
  rcases Nat.lt_or_ge i q.length with hlt|hge
  · rw [List.getElem_append_left hlt];exact hall i hlt
  · have:i=n:=by simp at hi;omega
    subst this
    have e:(q++[x])[i]'hi=x:=by
     rw [List.getElem_append_right (by omega)]
     simp [hq]
    rw [e];exact hx
theorem opens_slice {t e:TypeId}{α:Type}{good:α→Prop}{f:α→List AV}(ht:P.underlying t=some (.slice e))(hc:0<P.cellsOf e)(he:Opens enc P w base spare held e good f) :
    Opens enc P w base spare held t (fun xs:List α=>(∀x∈xs,good x)∧xs.length≤maxLen) (fun xs=>[.ts .imm (P.cellsOf e) (xs.map f)]):=by
 intro fuel cs x h
 rcases Deep.open_slice ht h with ⟨rfl,_⟩|⟨a,len,cap,m,n,D,Pl,rfl,hb,hl,hm,hmm,_,hx⟩
 · refine ⟨[],⟨by simp,by simp⟩,rfl,fun i hi=>?_⟩
   simp at hi;subst hi
   exact .ts .imm _ [] none 0 0 0 (fun _ _=>undef) (by simp) (by simp) (by simp) (by simp) (by simp)
 · have hlm:len≤m:=by rw [hmm];split<;>omega
   have key:∀i,i<len→∃p:α×List Value,good p.1∧Cells w (f p.1) p.2∧w.cells? base (a.add (i*P.cellsOf e)) (P.cellsOf e)=some p.2:=by
    intro i hi
    obtain ⟨cs',h1,h2⟩:=hx i (by omega)
    obtain ⟨y,hg,hcl⟩:=he _ _ _ h2;exact ⟨(y,cs'),hg,hcl,h1⟩
   have pick:=pick_list len key;obtain ⟨q,hq,hall⟩:=pick
   refine ⟨q.map (·.1),⟨fun y hy=>?_,by simp;omega⟩,rfl,fun i hi=>?_⟩
   · obtain ⟨p,hp,rfl⟩:=List.mem_map.1 hy;obtain ⟨i,hi,rfl⟩:=List.getElem_of_mem hp;exact (hall i hi).1
   · simp at hi;subst hi
     have hlen:(q.map (·.1)).map f=q.map fun p=>f p.1:=by simp
     have hl2:(q.map fun p=>f p.1).length=len:=by simp [hq]
     have cell:∀i j,i<len→j<P.cellsOf e→∃c,((q.map (·.2)).getD i []).getD j undef=c∧w.cell? ((a.add (i*P.cellsOf e)).add j)=some c∧Rd w (fun _=>True) (at2 (q.map fun p=>f p.1) i j) c:=by
      intro i j hi hj
      have hi':i<q.length:=by omega
      obtain ⟨_,hcl,h1⟩:=hall i hi';obtain ⟨_,h2,h3⟩:=World.cells?_some h1;have h4:=h3 j hj
      have e1:((q.map (·.2)).getD i [])=q[i].2:=by simp [List.getD_eq_getElem?_getD,hi']
      have e2:q[i].2.getD j undef=q[i].2[j]'(by omega):=by simp [List.getD_eq_getElem?_getD,(by omega:j<q[i].2.length)]
      refine ⟨_,rfl,?_,?_⟩
      · rw [e1,e2,h4,List.getElem?_eq_getElem (by omega)]
      · have h5:=hcl.2 j (by omega)
        rw [e1]
        have e3:at2 (q.map fun p=>f p.1) i j=(f q[i].1).getD j .undef:=by simp [at2,List.getD_eq_getElem?_getD,hi']
        rw [e3];exact h5
     have addr:∀i j,i<len→j<P.cellsOf e→(a.add (i*P.cellsOf e)).add j=⟨a.block,a.off+i*P.cellsOf e+j,none⟩∧a=⟨a.block,a.off,none⟩:=by
      intro i j hi hj
      obtain ⟨c,_,h0,_⟩:=cell 0 0 (by omega) hc
      have hsp:a=⟨a.block,a.off,none⟩:=by
       have:(a.add (0*P.cellsOf e)).add 0=a:=by simp [Addr.add]
       rw [this] at h0;exact spot_none h0
      refine ⟨?_,hsp⟩;rw [hsp,Addr_add,Addr_add]
     have hrd:Rd w (fun _=>True) (.ts .imm (P.cellsOf e) (q.map fun p=>f p.1)) (.slice (some a) (q.map fun p=>f p.1).length cap):=by
      refine .ts .imm _ _ (some a) cap a.block a.off (fun i j=>((q.map (·.2)).getD i []).getD j undef) (fun r hr=>?_) (by omega) (fun hn=>?_) (fun i j hi hj=>?_) (fun i j hi hj=>?_)
      · obtain ⟨p,hp,rfl⟩:=List.mem_map.1 hr;obtain ⟨i,hi,rfl⟩:=List.getElem_of_mem hp;obtain ⟨_,hcl,h1⟩:=hall i hi;rw [hcl.1];exact (World.cells?_some h1).2.1
      · rw [hl2] at hn;obtain ⟨c,_,h0,_⟩:=cell 0 0 hn hc;obtain ⟨ha,hb'⟩:=addr 0 0 hn hc
        refine ⟨by rw [hb'],trivial,?_⟩
        rw [ha] at h0;exact cell_lt h0
      · rw [hl2] at hi;obtain ⟨c,hce,h0,_⟩:=cell i j hi hj;rw [(addr i j hi hj).1] at h0;simp only [hce];exact h0
      · rw [hl2] at hi;obtain ⟨c,hce,_,h1⟩:=cell i j hi hj;simp only [hce];exact h1
     rw [hl2] at hrd
     have e:List.map f (List.map (fun p=>p.1) q)=q.map fun p=>f p.1:=by simp
     simp only [List.getD_cons_zero,e];exact hrd
end Go.Pi

namespace Go.Pi
open Go
variable {H:Type} {enc:TypeId×Value→H} {P:Program} {w:World} {base:Nat} {spare:Nat→Bool} {held:Bool}
def seg (P:Program)(cs:List Value)(x:TypeId×Nat):List Value:=(cs.drop x.2).take (P.cellsOf x.1)
def SegOpens (enc:TypeId×Value→H)(P:Program)(w:World)(base:Nat)(spare:Nat→Bool)(held:Bool)(L:List (TypeId×Nat)){α:Type}(good:α→Prop)(f:α→List AV):Prop :=
 ∀n cs,(∀x∈L,∃y,DataW.trod enc P w base spare held n x.1 (seg P cs x)=some y)→∃a,good a∧Cells w (f a) (L.flatMap (seg P cs))
theorem Cells.app {a1 a2:List AV}{c1 c2:List Value}(h1:Cells w a1 c1)(h2:Cells w a2 c2):Cells w (a1++a2) (c1++c2):=by
 refine ⟨by simp [h1.1,h2.1],fun i hi=>?_⟩
 have e1:=h1.1;simp only [List.getD_eq_getElem?_getD,List.getElem?_append]
 by_cases hlt:i<c1.length
 · rw [if_pos hlt,if_pos (by omega)]
   simpa [List.getD_eq_getElem?_getD] using h1.2 i hlt
 · rw [if_neg hlt,if_neg (by omega),e1]
   simpa [List.getD_eq_getElem?_getD] using h2.2 (i-c1.length) (by simp at hi;omega)
theorem seg_nil:SegOpens enc P w base spare held [] (fun _:Unit=>True) (fun _=>[]) :=
 fun _ _ _=>⟨(),trivial,rfl,fun i hi=>absurd hi (Nat.not_lt_zero i)⟩
theorem seg_cons {t:TypeId}{off:Nat}{L:List (TypeId×Nat)}{α β:Type}{g1:α→Prop}{f1:α→List AV}{g2:β→Prop}{f2:β→List AV}(h1:Opens enc P w base spare held t g1 f1)(h2:SegOpens enc P w base spare held L g2 f2) :
    SegOpens enc P w base spare held ((t,off)::L) (fun p:α×β=>g1 p.1∧g2 p.2) (fun p=>f1 p.1++f2 p.2):=by
 intro n cs h
 obtain ⟨y,hy⟩:=h (t,off) (by simp)
 obtain ⟨a,ga,ha⟩:=h1 _ _ _ hy
 obtain ⟨b,gb,hb⟩:=h2 n cs (fun x hx=>h x (by simp [hx]))
 exact ⟨(a,b),⟨ga,gb⟩,by simpa using ha.app hb⟩
def contig (P:Program):Nat→List (TypeId×Nat)→Nat→Bool
 | acc,[],total=>decide (acc=total)
 | acc,(t,off)::L,total=>decide (off=acc)&&contig P (acc+P.cellsOf t) L total
theorem contig_flat {cs:List Value}:∀ {L:List (TypeId×Nat)} {acc:Nat},contig P acc L cs.length=true→L.flatMap (seg P cs)=cs.drop acc:=by
 intro L
 induction L with
 | nil=>intro acc h;simp only [contig,decide_eq_true_eq] at h;subst h;simp
 | cons x L ih =>
  obtain ⟨t,off⟩:=x;intro acc h;simp only [contig,Bool.and_eq_true,decide_eq_true_eq] at h;obtain ⟨rfl,h⟩:=h;rw [List.flatMap_cons,ih h,seg];rw [←List.drop_drop,List.take_append_drop]
theorem opens_struct {t:TypeId}{fs:Array Field}{α:Type}{good:α→Prop}{f:α→List AV}(ht:P.underlying t=some (.struct fs))(hc:contig P 0 (fs.toList.map fun f=>(f.type,f.offset)) (P.cellsOf t)=true)
    (h:SegOpens enc P w base spare held (fs.toList.map fun f=>(f.type,f.offset)) good f):Opens enc P w base spare held t good f:=by
 intro fuel cs x hx;obtain ⟨xs,n,rfl,_,hlen,hxl,hfs⟩:=DataW.trod_struct ht hx
 obtain ⟨a,ga,ha⟩:=h n cs (fun y hy=>by
  obtain ⟨fl,hfl,rfl⟩:=List.mem_map.1 hy;obtain ⟨i,hi⟩:=List.getElem?_of_mem hfl
  have hi':fs[i]?=some fl:=by simpa using hi
  have hlt:i<fs.size:=(Array.getElem?_eq_some_iff.1 hi').1;have:=hfs i fl hi'
  exact ⟨xs[i]'(by omega),by rw [seg];simp only;rw [this,List.getElem?_eq_getElem (by omega)]⟩)
 refine ⟨a,ga,?_⟩;rw [←hlen] at hc;rw [contig_flat hc] at ha;simpa using ha
theorem Opens.map {t:TypeId}{α β:Type}{good:α→Prop}{f:α→List AV}(h:Opens enc P w base spare held t good f)(φ:α→β){good':β→Prop}{f':β→List AV}(hφ:∀a,good a→good' (φ a)∧f' (φ a)=f a):Opens enc P w base spare held t good' f':=by
 intro fuel cs x hx;obtain ⟨a,ga,ha⟩:=h fuel cs x hx;obtain ⟨h1,h2⟩:=hφ a ga
 exact ⟨φ a,h1,by rw [h2];exact ha⟩
def Cx.startS (sf:Prop):Cx:=⟨0,fun _=>none,fun _=>none,fun _=>none,fun _=>False,sf⟩
def Cx.start:Cx:=Cx.startS False
theorem sr_start {T:Tab}(w:World):SR T w (Cx.startS (T.soft=true)) []:=⟨rfl,fun _ h=>absurd rfl h,fun _ h=>h.elim,fun id ob h=>by simp [getOb] at h,Iff.rfl⟩
theorem VR.startS {w:World}{sf:Prop}{av:AV}{u:Value}(h:VR w Cx.start av u):VR w (Cx.startS sf) av u:=by
 have c:Chg w Cx.start (Cx.startS sf):=⟨Nat.le_refl _,fun _ _=>rfl,fun q b _ hok=>by
  have hr:(Cx.startS sf).root b=none:=rfl
  have hp:¬(Cx.startS sf).pro b:=fun h=>h
  cases q
  · exact ⟨not_root_of_none hr,hp⟩
  · exact ⟨not_root_of_none hr,hp⟩
  · exact ⟨hr,hp⟩⟩
 exact h.chg c
theorem Rd.start {av:AV}{u:Value}(h:Rd w (fun _=>True) av u):Rd w (Cx.start.ok .imm) av u :=
 h.keep (Nat.le_refl _) fun _ _ _=>⟨rfl,rfl,fun h=>h⟩
end Go.Pi

namespace Go.Pi
open Go
variable {T:Tab} {m:Nat}
end Go.Pi

namespace Go.Pi
open Go
def ck {α:Type}(c:Prop)[Decidable c](k:Option α):Option α:=if c then k else none
theorem ck_some {α:Type}{c:Prop}[Decidable c]{k:Option α}{r:α}(h:ck c k=some r):c∧k=some r:=by
 unfold ck at h;split at h
 · rename_i hc;exact ⟨hc,h⟩
 · cases h
def bnd {α β:Type}(o:Option α)(k:α→Option β):Option β :=
 match o with
 | none=>none
 | some x=>k x
theorem bnd_some {α β:Type}{o:Option α}{k:α→Option β}{r:β}(h:bnd o k=some r):∃x,o=some x∧k x=some r:=by
 cases o with
 | none=>cases h
 | some x=>exact ⟨x,rfl,h⟩
def br {α:Type}(b:Bool)(x y:Option α):Option α :=
 match b with
 | true=>x
 | false=>y
def selS {α β γ:Type}(s:α ⊕ β)(f:α→Option γ)(g:β→Option γ):Option γ :=
 match s with
 | .inl x=>f x
 | .inr y=>g y
theorem selS_l {α β γ:Type}{x:α}{f:α→Option γ}{g:β→Option γ}{r:γ}(h:selS (.inl x) f g=some r):f x=some r:=h
theorem selS_r {α β γ:Type}{y:β}{f:α→Option γ}{g:β→Option γ}{r:γ}(h:selS (.inr y) f g=some r):g y=some r:=h
def sel2 {α0 α1 γ:Type}(p:α0×α1)(f:α0→α1→Option γ):Option γ :=
 match p with
 | (x0,x1)=>f x0 x1
theorem sel2_some {α0 α1 γ:Type}{x0:α0}{x1:α1}{f:α0→α1→Option γ}{r:γ}(h:sel2 (x0,x1) f=some r):f x0 x1=some r:=h
def sel3 {α0 α1 α2 γ:Type}(p:α0×α1×α2)(f:α0→α1→α2→Option γ):Option γ :=
 match p with
 | (x0,x1,x2)=>f x0 x1 x2
theorem sel3_some {α0 α1 α2 γ:Type}{x0:α0}{x1:α1}{x2:α2}{f:α0→α1→α2→Option γ}{r:γ}(h:sel3 (x0,x1,x2) f=some r):f x0 x1 x2=some r:=h
def sel4 {α0 α1 α2 α3 γ:Type}(p:α0×α1×α2×α3)(f:α0→α1→α2→α3→Option γ):Option γ :=
 match p with
 | (x0,x1,x2,x3)=>f x0 x1 x2 x3
def sel5 {α0 α1 α2 α3 α4 γ:Type}(p:α0×α1×α2×α3×α4)(f:α0→α1→α2→α3→α4→Option γ):Option γ :=
 match p with
 | (x0,x1,x2,x3,x4)=>f x0 x1 x2 x3 x4
def sel6 {α0 α1 α2 α3 α4 α5 γ:Type}(p:α0×α1×α2×α3×α4×α5)(f:α0→α1→α2→α3→α4→α5→Option γ):Option γ :=
 match p with
 | (x0,x1,x2,x3,x4,x5)=>f x0 x1 x2 x3 x4 x5
def sel7 {α0 α1 α2 α3 α4 α5 α6 γ:Type}(p:α0×α1×α2×α3×α4×α5×α6)(f:α0→α1→α2→α3→α4→α5→α6→Option γ):Option γ :=
 match p with
 | (x0,x1,x2,x3,x4,x5,x6)=>f x0 x1 x2 x3 x4 x5 x6
def sel8 {α0 α1 α2 α3 α4 α5 α6 α7 γ:Type}(p:α0×α1×α2×α3×α4×α5×α6×α7)(f:α0→α1→α2→α3→α4→α5→α6→α7→Option γ):Option γ :=
 match p with
 | (x0,x1,x2,x3,x4,x5,x6,x7)=>f x0 x1 x2 x3 x4 x5 x6 x7
def sel9 {α0 α1 α2 α3 α4 α5 α6 α7 α8 γ:Type}(p:α0×α1×α2×α3×α4×α5×α6×α7×α8)(f:α0→α1→α2→α3→α4→α5→α6→α7→α8→Option γ):Option γ :=
 match p with
 | (x0,x1,x2,x3,x4,x5,x6,x7,x8)=>f x0 x1 x2 x3 x4 x5 x6 x7 x8
def sel10 {α0 α1 α2 α3 α4 α5 α6 α7 α8 α9 γ:Type}(p:α0×α1×α2×α3×α4×α5×α6×α7×α8×α9)(f:α0→α1→α2→α3→α4→α5→α6→α7→α8→α9→Option γ):Option γ :=
 match p with
 | (x0,x1,x2,x3,x4,x5,x6,x7,x8,x9)=>f x0 x1 x2 x3 x4 x5 x6 x7 x8 x9
def sel11 {α0 α1 α2 α3 α4 α5 α6 α7 α8 α9 α10 γ:Type}(p:α0×α1×α2×α3×α4×α5×α6×α7×α8×α9×α10)(f:α0→α1→α2→α3→α4→α5→α6→α7→α8→α9→α10→Option γ):Option γ :=
 match p with
 | (x0,x1,x2,x3,x4,x5,x6,x7,x8,x9,x10)=>f x0 x1 x2 x3 x4 x5 x6 x7 x8 x9 x10
def sel12 {α0 α1 α2 α3 α4 α5 α6 α7 α8 α9 α10 α11 γ:Type}(p:α0×α1×α2×α3×α4×α5×α6×α7×α8×α9×α10×α11)(f:α0→α1→α2→α3→α4→α5→α6→α7→α8→α9→α10→α11→Option γ):Option γ :=
 match p with
 | (x0,x1,x2,x3,x4,x5,x6,x7,x8,x9,x10,x11)=>f x0 x1 x2 x3 x4 x5 x6 x7 x8 x9 x10 x11
inductive Ctl (σ β:Type) where
 | nxt (s:σ)
 | out (b:β)
def iter {σ β:Type}(body:σ→Option (Ctl σ β)):Nat→σ→Option β
 | 0,_=>none
 | k+1,s=>match body s with
  | none=>none
  | some (.out b)=>some b
  | some (.nxt s')=>iter body k s'
theorem iter_le {σ β:Type}{body:σ→Option (Ctl σ β)}:∀ {k j:Nat} {s:σ} {b:β},k≤j→iter body k s=some b→iter body j s=some b:=by
 intro k
 induction k with
 | zero=>intro j s b _ h;cases h
 | succ k ih =>
  intro j s b hj h
  cases j with
  | zero=>omega
  | succ j =>
   simp only [iter] at h ⊢
   cases hb:body s with
   | none=>rw [hb] at h;cases h
   | some c =>
    rw [hb] at h
    cases c with
    | out b'=>exact h
    | nxt s'=>exact ih (by omega) h
open Classical in
noncomputable def loopP {σ β:Type}(body:σ→Option (Ctl σ β))(s:σ):Option β :=
 if h:∃b k,iter body k s=some b then some h.choose else none
theorem loopP_iff {σ β:Type}{body:σ→Option (Ctl σ β)}{s:σ}{b:β}:loopP body s=some b↔∃k,iter body k s=some b:=by
 unfold loopP
 constructor
 · intro h;split at h
   · rename_i hex
     injection h with h
     subst h;exact hex.choose_spec
   · cases h
 · rintro ⟨k,hk⟩
   have hex:∃b k,iter body k s=some b:=⟨b,k,hk⟩;rw [dif_pos hex];obtain ⟨j,hj⟩:=hex.choose_spec;have e1:=iter_le (Nat.le_max_left k j) hk;have e2:=iter_le (Nat.le_max_right k j) hj;rw [e1] at e2;exact e2.symm
theorem loopP_eq {σ β:Type}(body:σ→Option (Ctl σ β))(s:σ):loopP body s=bnd (body s) (fun c=>match c with | .out b=>some b | .nxt s'=>loopP body s'):=by
 have key:∀b,loopP body s=some b↔bnd (body s) (fun c=>match c with | .out b=>some b | .nxt s'=>loopP body s')=some b:=by
  intro b;rw [loopP_iff]
  constructor
  · rintro ⟨k,hk⟩
    cases k with
    | zero=>cases hk
    | succ k =>
     simp only [iter] at hk
     cases hb:body s with
     | none=>rw [hb] at hk;cases hk
     | some c =>
      rw [hb] at hk
      cases c with
      | out b'=>exact hk
      | nxt s'=>exact loopP_iff.2 ⟨k,hk⟩
  · intro h
    cases hb:body s with
    | none=>rw [hb] at h;cases h
    | some c =>
     rw [hb] at h
     cases c with
     | out b'=>exact ⟨1,by simp only [iter,hb];exact h⟩
     | nxt s' =>
      obtain ⟨k,hk⟩:=loopP_iff.1 (show loopP body s'=some b from h)
      exact ⟨k+1,by simp only [iter,hb];exact hk⟩
 cases h:bnd (body s) (fun c=>match c with | .out b=>some b | .nxt s'=>loopP body s') with
 | none =>
  cases h2:loopP body s with
  | none=>rfl
  | some b=>rw [(key b).1 h2] at h;cases h
 | some b=>exact (key b).2 h
theorem loopP_ind {σ β:Type}{body:σ→Option (Ctl σ β)}{Q:σ→β→Prop}(h1:∀s b,body s=some (.out b)→Q s b)(h2:∀s s' b,body s=some (.nxt s')→Q s' b→Q s b):∀s b,loopP body s=some b→Q s b:=by
 intro s b h;obtain ⟨k,hk⟩:=loopP_iff.1 h;clear h
 induction k generalizing s with
 | zero=>cases hk
 | succ k ih =>
  simp only [iter] at hk
  cases hb:body s with
  | none=>rw [hb] at hk;cases hk
  | some c =>
   rw [hb] at hk
   cases c with
   | out b' =>
    simp only [Option.some.injEq] at hk;subst hk;exact h1 _ _ hb
   | nxt s'=>exact h2 _ _ _ hb (ih s' hk)
open Classical in
noncomputable def limO {α:Type}(g:Nat→Option α):Option α :=
 if h:∃r N,∀k,N≤k→g k=some r then some h.choose else none
def eqI (a b:Int):Bool:=decide (a=b)
def ltI (a b:Int):Bool:=decide (a<b)
def leI (a b:Int):Bool:=decide (a≤b)
def eqS (a b:ByteArray):Bool:=a.toList==b.toList
def eqB (a b:Bool):Bool:=a==b
def wadd (k:IntKind)(a b:Int):Int:=k.wrap (a+b)
def wsub (k:IntKind)(a b:Int):Int:=k.wrap (a-b)
def wmul (k:IntKind)(a b:Int):Int:=k.wrap (a*b)
def wquo (k:IntKind)(a b:Int):Int:=k.wrap (a.tdiv b)
def wrem (_k:IntKind)(a b:Int):Int:=a.tmod b
def wshl (k:IntKind)(a b:Int):Int:=k.wrap (a*2 ^ (min b.toNat k.bits))
def insP {α:Type}(xs:List α)(i:Int)(ys:List α):Option (List α):=ck (0≤i∧i≤(xs.length:Int)∧xs.length+ys.length≤68719476736) (some (xs.take i.toNat++ys++xs.drop i.toNat))
def delP {α:Type}(xs:List α)(i j:Int):Option (List α):=ck (0≤i∧i<j∧j≤(xs.length:Int)) (some (xs.take i.toNat++xs.drop j.toNat))
def srtP {α:Type}[Inhabited α](c:α→α→Option Int)(xs:List α):Option (List α):=ck (xs.length≤68719476736) (sortO default c xs)
def wshr (k:IntKind)(a b:Int):Int:=a.fdiv (2 ^ (min b.toNat k.bits))
def wneg (k:IntKind)(a:Int):Int:=k.wrap (0-a)
def wcv (k:IntKind)(a:Int):Int:=k.wrap a
def wmin (a b:Int):Int:=if b<a then b else a
def wmax (a b:Int):Int:=if b > a then b else a
def idx {α:Type}(xs:List α)(i:Int):Option α:=if 0≤i then xs[i.toNat]? else none
theorem idx_some {α:Type}{xs:List α}{i:Int}{x:α}(h:idx xs i=some x):0≤i∧i<xs.length∧xs[i.toNat]?=some x:=by
 unfold idx at h;split at h
 · rename_i h0;obtain ⟨h1,_⟩:=List.getElem?_eq_some_iff.1 h
   exact ⟨h0,by omega,h⟩
 · cases h
def subT {α:Type}(xs:List α)(b:Int):List α:=xs.take b.toNat
def subF {α:Type}(xs:List α)(a:Int):List α:=xs.drop a.toNat
def sub {α:Type}(xs:List α)(a b:Int):List α:=(xs.take b.toNat).drop a.toNat
def setI {α:Type}(xs:List α)(i:Int)(x:α):List α:=xs.set i.toNat x
def big:Nat:=68719476736
def cpy {α:Type}(xs:List α)(lo n:Nat)(ys:List α):Option (List α) :=
 if lo+n≤xs.length then some (xs.take lo++ys.take (min ys.length n)++xs.drop (lo+min ys.length n)) else none
end Go.Pi

namespace Go.Pi
open Go
attribute [simp] viewTop evCL_seq evCL_reg evCL_fz evCL_skip evCL_ret evCL_exit evCL_block evOp ofVal evBin isShift finish outs outV outCell outL tupOf rebaseTop rebase rebaseCell evUn evArgs evBuiltin evLen isRow evLoad evStore absorb absorbL setTop AV.cells AV.isCell splice zeroRow evParts fillAgg fillRow evOpt bounds evAppend sourceOf sourceView lend lend1 lendL lendAll lendPtr lendCell mapO freeze kill min2 max2 foldO maxRow
section
variable {T:Tab} {m:Nat} {C:Nat→List AV→St→Option (AV×St)} {fr:Fr} {S:St}
@[simp] theorem andThen_none (K:Fr→St→Option (Ex×Fr×St)):andThen none K=none:=rfl
@[simp] theorem andThen_go (K:Fr→St→Option (Ex×Fr×St)):andThen (some (.normal,fr,S)) K=K fr S:=rfl
@[simp] theorem andThen_ret (K:Fr→St→Option (Ex×Fr×St)):andThen (some (.ret,fr,S)) K=some (.ret,fr,S):=rfl
@[simp] theorem andThen_exit (K:Fr→St→Option (Ex×Fr×St))(i:Nat):andThen (some (.exit i,fr,S)) K=some (.exit i,fr,S):=rfl
@[simp] theorem inBlock_none (id:Nat):inBlock id none=none:=rfl
@[simp] theorem inBlock_go (id:Nat):inBlock id (some (.normal,fr,S))=some (.normal,fr,S):=rfl
@[simp] theorem inBlock_ret (id:Nat):inBlock id (some (.ret,fr,S))=some (.ret,fr,S):=rfl
@[simp] theorem inBlock_exit (id i:Nat):inBlock id (some (.exit i,fr,S))=if i=id then some (.normal,fr,S) else some (.exit i,fr,S):=rfl
@[simp] theorem norm_none:norm none=none:=rfl
@[simp] theorem norm_ok:norm (some (fr,S))=some (.normal,fr,S):=rfl
@[simp] theorem close_go (fi:FnI):close T fi (some (.normal,fr,S))=finish T fi fr S:=rfl
@[simp] theorem close_ret (fi:FnI):close T fi (some (.ret,fr,S))=finish T fi fr S:=rfl
noncomputable def pickC (T:Tab)(m:Nat)(a b:PC)(fr:Fr)(S:St)(v:Option AV):Option (Ex×Fr×St) :=
 match v with
 | some (.bool c)=>(if c then evCL T m a fr S else evCL T m b fr S)
 | _=>none
@[simp] theorem evCL_cond1 (x:Operand)(a b:PC):evCL T m (.cond x a b) fr S=pickC T m a b fr S (evO fr x):=by
 rw [evCL_cond];rfl
@[simp] theorem pickC_true (a b:PC):pickC T m a b fr S (some (.bool true))=evCL T m a fr S:=rfl
@[simp] theorem pickC_false (a b:PC):pickC T m a b fr S (some (.bool false))=evCL T m b fr S:=rfl
def bindO (T:Tab)(C:Nat→List AV→St→Option (AV×St))(d:Option Nat)(r:List PO)(fr:Fr)(v:Option (AV×St)):Option (Fr×St) :=
 match v with
 | none=>none
 | some (v,S')=>evOps T C r (put fr d v) S'
@[simp] theorem bindO_none (d:Option Nat)(r:List PO):bindO T C d r fr none=none:=rfl
@[simp] theorem bindO_d (d:Nat)(r:List PO)(v:AV):bindO T C (some d) r fr (some (v,S))=evOps T C r (fr.set d v) S:=rfl
@[simp] theorem bindO_n (r:List PO)(v:AV):bindO T C none r fr (some (v,S))=evOps T C r fr S:=rfl
@[simp] theorem evOps_nil:evOps T C [] fr S=some (fr,S):=rfl
@[simp] theorem evOps_go (d:Option Nat)(op:Op)(r:List PO):evOps T C (⟨d,op,none⟩::r) fr S=bindO T C d r fr (evOp T C op fr S):=by
 simp only [evOps,known,want,if_true,bindO]
 cases evOp T C op fr S<;>rfl
def consT (e:TrE)(r:Option (List TrE×Fr×St)):Option (List TrE×Fr×St) :=
 match r with
 | none=>none
 | some (t,fr',S')=>some (e::t,fr',S')
@[simp] theorem consT_none (e:TrE):consT e none=none:=rfl
@[simp] theorem consT_some (e:TrE)(t:List TrE):consT e (some (t,fr,S))=some (e::t,fr,S):=rfl
def bindT (T:Tab)(C:Nat→List AV→St→Option (AV×St))(b:Nat)(d:Option Nat)(r:List PO)(xs:List (Option Nat))(fr:Fr)(S:St)(v:Option (AV×St)):Option (List TrE×Fr×St) :=
 match v with
 | none=>none
 | some (v,S')=>consT ⟨fr,S,v⟩ (trc T C b r xs (put fr d v) S')
variable {b:Nat} {xs:List (Option Nat)} {x:Option Nat}
@[simp] theorem bindT_none (d:Option Nat)(r:List PO):bindT T C b d r xs fr S none=none:=rfl
@[simp] theorem bindT_some (d:Option Nat)(r:List PO)(v:AV)(S':St):bindT T C b d r xs fr S (some (v,S'))=consT ⟨fr,S,v⟩ (trc T C b r xs (put fr d v) S'):=rfl
@[simp] theorem trc_nil:trc T C b [] xs fr S=some ([],fr,S):=rfl
@[simp] theorem trc_go (d:Option Nat)(op:Op)(r:List PO):trc T C b (⟨d,op,none⟩::r) (x::xs) fr S=bindT T C b d r xs fr S (evOpX T C b x op fr S):=by
 simp only [trc,known,want,if_true,bindT,consT]
 cases evOpX T C b x op fr S<;>rfl
def kn (g:Option AV):Bool :=
 match g with
 | some .any=>false
 | _=>true
def wt (g:Option AV)(w:Bool):Bool :=
 match g with
 | some (.bool b)=>b==w
 | _=>false
def gateT (T:Tab)(C:Nat→List AV→St→Option (AV×St))(b:Nat)(x:Option Nat)(d:Option Nat)(op:Op)(r:List PO)(xs:List (Option Nat))(fr:Fr)(S:St)(w:Bool)(g:Option AV):Option (List TrE×Fr×St) :=
 if kn g then (if wt g w then bindT T C b d r xs fr S (evOpX T C b x op fr S) else consT ⟨fr,S,.undef⟩ (trc T C b r xs (put fr d .undef) S)) else none
@[simp] theorem trc_gate (d:Option Nat)(op:Op)(g:Nat)(w:Bool)(r:List PO):trc T C b (⟨d,op,some (g,w)⟩::r) (x::xs) fr S=gateT T C b x d op r xs fr S w fr[g]?:=by
 have h1:known fr (some (g,w))=kn fr[g]?:=rfl;have h2:want fr (some (g,w))=wt fr[g]? w:=rfl;simp only [trc,h1,h2,gateT,bindT,consT]
 cases evOpX T C b x op fr S<;>rfl
@[simp] theorem gateT_tt (d:Option Nat)(op:Op)(r:List PO):gateT T C b x d op r xs fr S true (some (.bool true))=bindT T C b d r xs fr S (evOpX T C b x op fr S):=rfl
@[simp] theorem gateT_ff (d:Option Nat)(op:Op)(r:List PO):gateT T C b x d op r xs fr S false (some (.bool false))=bindT T C b d r xs fr S (evOpX T C b x op fr S):=rfl
@[simp] theorem gateT_tf (d:Option Nat)(op:Op)(r:List PO):gateT T C b x d op r xs fr S true (some (.bool false))=consT ⟨fr,S,.undef⟩ (trc T C b r xs (put fr d .undef) S):=rfl
@[simp] theorem gateT_ft (d:Option Nat)(op:Op)(r:List PO):gateT T C b x d op r xs fr S false (some (.bool true))=consT ⟨fr,S,.undef⟩ (trc T C b r xs (put fr d .undef) S):=rfl
@[simp] theorem gateT_un (d:Option Nat)(op:Op)(r:List PO)(w:Bool)(vs:List AV):gateT T C b x d op r xs fr S w (some (.tup vs))=consT ⟨fr,S,.undef⟩ (trc T C b r xs (put fr d .undef) S):=rfl
@[simp] theorem evOpX_none (op:Op):evOpX T C b none op fr S=evOp T C op fr S:=rfl
@[simp] theorem evOpX_some (j:Nat)(op:Op):evOpX T C b (some j) op fr S=evAt T (b+j) op fr S:=rfl
def atC (T:Tab)(r:Nat)(o:Op)(fr:Fr)(S:St)(g:Option Ob):Option (AV×St) :=
 match g with
 | some _=>none
 | none=>if r<S.length then match o with
  | .alloc t=>match T.ty t with
   | some ti=>some (.ptr r 0 0,S.set r (some ⟨.box,ti.size,[ti.zero]⟩))
   | none=>none
  | .box t x=>match T.ty t,evO fr x with
   | some ti,some v=>if v.cells.length=ti.size then some (.ptr r 0 0,S.set r (some ⟨.box,ti.size,[v.cells]⟩)) else none
   | _,_=>none
  | .buildSlice t len parts=>match T.elemOf t,evParts fr parts.toList with
   | some te, some ps => if len * te.size ≤ 1024 then match fillRow te.es te.size (List.replicate len (zeroRow te)) S ps with
       | none=>none
       | some (els,S1)=>some (.sl r 0 len,S1.set r (some ⟨.lit,te.size,els⟩))
    else none
   | _,_=>none
  | _=>none
 else none
@[simp] theorem evAt_eq (r:Nat)(o:Op):evAt T r o fr S=atC T r o fr S (getOb S r):=by
 unfold evAt atC
 cases getOb S r<;>rfl
attribute [simp] atC
noncomputable def fxA (T:Tab)(C:Nat→List AV→St→Option (AV×St))(l:List PO)(x:FxI)(b:Nat)(r:Option (List TrE×Fr×St)):Option (Fr×St) :=
 match r with
 | none=>none
 | some (t,fr',S')=>match moreSts T C b l x.R t x.G (preSts t S' x.E) with
  | none=>none
  | some Ss=>match chkAt T C b l x.R t Ss x.Q with
   | none=>none
   | some _=>some (fr',S')
noncomputable def fxB (T:Tab)(C:Nat→List AV→St→Option (AV×St))(l:List PO)(x:FxI)(b:Nat)(t:List TrE)(fr':Fr)(S':St)(r:Option (List St)):Option (Fr×St) :=
 match r with
 | none=>none
 | some Ss=>match chkAt T C b l x.R t Ss x.Q with
  | none=>none
  | some _=>some (fr',S')
def fxC (fr':Fr)(S':St)(r:Option Unit):Option (Fr×St) :=
 match r with
 | none=>none
 | some _=>some (fr',S')
@[simp] theorem evFx_eq (l:List PO)(x:FxI):evFx T C l x fr S=fxA T C l x S.length (trc T C S.length l x.R fr (S++List.replicate x.n none)):=rfl
@[simp] theorem fxA_some (l:List PO)(x:FxI)(t:List TrE):fxA T C l x b (some (t,fr,S))=fxB T C l x b t fr S (moreSts T C b l x.R t x.G (preSts t S x.E)):=rfl
@[simp] theorem fxB_some (l:List PO)(x:FxI)(t:List TrE)(Ss:List St):fxB T C l x b t fr S (some Ss)=fxC fr S (chkAt T C b l x.R t Ss x.Q):=rfl
@[simp] theorem fxC_some (u:Unit):fxC fr S (some u)=some (fr,S):=rfl
@[simp] theorem evCL_fx1 {m:Nat}(l:List PO)(x:FxI):evCL T m (.fx l x) fr S=norm (evFx T (evCall T (evFL T)) l x fr S):=evCL_fx
def moreC (T:Tab)(C:Nat→List AV→St→Option (AV×St))(b:Nat)(l:List PO)(R:List (Option Nat))(t:List TrE)(r:List (Nat×Nat))(Ss:List St)(v:Option (AV×St)):Option (List St) :=
 match v with
 | none=>none
 | some (_,S)=>moreSts T C b l R t r (Ss++[S])
@[simp] theorem moreSts_nil (l:List PO)(R:List (Option Nat))(t:List TrE)(Ss:List St):moreSts T C b l R t [] Ss=some Ss:=rfl
@[simp] theorem moreSts_cons (l:List PO)(R:List (Option Nat))(t:List TrE)(k i:Nat)(r:List (Nat×Nat))(Ss:List St):moreSts T C b l R t ((k,i)::r) Ss=moreC T C b l R t r Ss (stepAt T C b l R t i (Ss.getD k [])):=by
 simp only [moreSts,moreC]
 cases stepAt T C b l R t i (Ss.getD k [])<;>rfl
@[simp] theorem moreC_some (l:List PO)(R:List (Option Nat))(t:List TrE)(r:List (Nat×Nat))(Ss:List St)(v:AV):moreC T C b l R t r Ss (some (v,S))=moreSts T C b l R t r (Ss++[S]):=rfl
open Classical in
noncomputable def chkC (T:Tab)(C:Nat→List AV→St→Option (AV×St))(b:Nat)(l:List PO)(R:List (Option Nat))(t:List TrE)(Ss:List St)(r:List (Nat×Nat×Nat))(S':St)(e:Option TrE)(v:Option (AV×St)):Option Unit :=
 match v with
 | none=>none
 | some q=>match e with
  | none=>none
  | some e=>if q=(e.v,S') then chkAt T C b l R t Ss r else none
@[simp] theorem chkAt_nil (l:List PO)(R:List (Option Nat))(t:List TrE)(Ss:List St):chkAt T C b l R t Ss []=some ():=rfl
@[simp] theorem chkAt_cons (l:List PO)(R:List (Option Nat))(t:List TrE)(Ss:List St)(i k k':Nat)(r:List (Nat×Nat×Nat)):chkAt T C b l R t Ss ((i,k,k')::r)=chkC T C b l R t Ss r (Ss.getD k' []) t[i]? (stepAt T C b l R t i (Ss.getD k [])):=by
 simp only [chkAt,chkC]
 cases stepAt T C b l R t i (Ss.getD k []) with
 | none=>rfl
 | some q=>cases t[i]?<;>rfl
open Classical in
@[simp] theorem chkC_some (l:List PO)(R:List (Option Nat))(t:List TrE)(Ss:List St)(r:List (Nat×Nat×Nat))(S':St)(e:TrE)(q:AV×St):chkC T C b l R t Ss r S' (some e) (some q)=if q=(e.v,S') then chkAt T C b l R t Ss r else none:=rfl
def stepC (T:Tab)(C:Nat→List AV→St→Option (AV×St))(b:Nat)(x:Option Nat)(S:St)(o:Option PO)(e:Option TrE):Option (AV×St) :=
 match o,e with
 | some o,some e=>if want e.fr o.guard then evOpX T C b x o.op e.fr S else some (.undef,S)
 | _,_=>none
@[simp] theorem stepAt_eq (l:List PO)(R:List (Option Nat))(t:List TrE)(i:Nat):stepAt T C b l R t i S=stepC T C b (R.getD i none) S l[i]? t[i]?:=by
 unfold stepAt stepC
 cases l[i]?<;>cases t[i]?<;>rfl
@[simp] theorem stepC_some (o:PO)(e:TrE):stepC T C b x S (some o) (some e)=if want e.fr o.guard then evOpX T C b x o.op e.fr S else some (.undef,S):=rfl
attribute [simp] preSts want
def gate (T:Tab)(C:Nat→List AV→St→Option (AV×St))(d:Option Nat)(op:Op)(r:List PO)(fr:Fr)(S:St)(w:Bool)(g:Option AV):Option (Fr×St) :=
 if kn g then (if wt g w then bindO T C d r fr (evOp T C op fr S) else evOps T C r (put fr d .undef) S) else none
@[simp] theorem evOps_gate (d:Option Nat)(op:Op)(g:Nat)(w:Bool)(r:List PO):evOps T C (⟨d,op,some (g,w)⟩::r) fr S=gate T C d op r fr S w fr[g]?:=by
 have h1:known fr (some (g,w))=kn fr[g]?:=rfl;have h2:want fr (some (g,w))=wt fr[g]? w:=rfl;simp only [evOps,h1,h2,gate,bindO]
 cases evOp T C op fr S<;>rfl
@[simp] theorem gate_tt (d:Option Nat)(op:Op)(r:List PO):gate T C d op r fr S true (some (.bool true))=bindO T C d r fr (evOp T C op fr S):=rfl
@[simp] theorem gate_ff (d:Option Nat)(op:Op)(r:List PO):gate T C d op r fr S false (some (.bool false))=bindO T C d r fr (evOp T C op fr S):=rfl
@[simp] theorem gate_tf (d:Option Nat)(op:Op)(r:List PO):gate T C d op r fr S true (some (.bool false))=evOps T C r (put fr d .undef) S:=rfl
@[simp] theorem gate_ft (d:Option Nat)(op:Op)(r:List PO):gate T C d op r fr S false (some (.bool true))=evOps T C r (put fr d .undef) S:=rfl
@[simp] theorem gate_un (d:Option Nat)(op:Op)(r:List PO)(w:Bool)(vs:List AV):gate T C d op r fr S w (some (.tup vs))=evOps T C r (put fr d .undef) S:=rfl
@[simp] theorem put_d (d:Nat)(v:AV):put fr (some d) v=fr.set d v:=rfl
@[simp] theorem put_n (v:AV):put fr none v=fr:=rfl
end
def upd (f:Nat→AV)(d:Nat)(v:AV):Nat→AV:=fun e=>if d=e then v else f e
@[simp] theorem upd_same (f:Nat→AV)(d:Nat)(v:AV):upd f d v d=v:=by simp [upd]
def frOf (n:Nat)(f:Nat→AV):Fr:=(List.range n).map f
def ini (args:List AV):Nat→AV:=fun e=>args.getD e .undef
@[simp] theorem ini_nil (e:Nat):ini [] e=.tup []:=by simp [ini]
@[simp] theorem ini_zero (a:AV)(r:List AV):ini (a::r) 0=a:=rfl
@[simp] theorem ini_succ (a:AV)(r:List AV)(e:Nat):ini (a::r) (e+1)=ini r e:=by simp [ini]
theorem frOf_set {n d:Nat}{f:Nat→AV}{v:AV}:(frOf n f).set d v=frOf n (upd f d v):=by
 apply List.ext_getElem
 · simp [frOf]
 · intro i h1 h2;simp [frOf,List.getElem_set,upd]
theorem frOf_getD {n e:Nat}{f:Nat→AV}{u:AV}(h:e<n):(frOf n f).getD e u=f e:=by
 simp [frOf,List.getD_eq_getElem?_getD,h]
theorem frOf_get {n e:Nat}{f:Nat→AV}(h:e<n):(frOf n f)[e]?=some (f e):=by
 simp [frOf,h]
theorem args0_frOf {fi:FnI}{args:List AV}(h:args.length≤fi.ntmps):args0 fi args=frOf fi.ntmps (ini args):=by
 apply List.ext_getElem
 · simp [args0,frOf];omega
 · intro i h1 h2;simp [frOf,args0,ini,List.getElem_append,List.getD_eq_getElem?_getD];split
   · rename_i h3;simp [h3]
   · rename_i h3;simp [List.getElem?_eq_none (Nat.le_of_not_lt h3)]
theorem evFL_at {T:Tab}{f:Nat}{fi:FnI}(hfi:T.fn f=some fi){a:List AV}(hl:a.length≤fi.ntmps){S:St}(hg:S.length=fi.given)(hk:fi.kind=3∨fi.given=0)(hs:fi.soft=false∧T.soft=false):evFL T f a S=close T fi (evCL T fi.given fi.body (frOf fi.ntmps (ini a)) S):=by
 rw [evFL_eq hfi hs ⟨hl,hg,hk⟩,args0_frOf hl]
theorem evFL_atS {T:Tab}{f:Nat}{fi:FnI}(hfi:T.fn f=some fi){a:List AV}(hl:a.length≤fi.ntmps){S:St}(hg:S.length=fi.given)(hk:fi.kind=3∨fi.given=0)(hs:fi.soft=true∧fi.tree=false):evFL T f a S=close (T.at true) fi (evCL (T.at true) fi.given fi.body (frOf fi.ntmps (ini a)) S):=by
 rw [evFL_eqS hfi ⟨hl,hg,hk,fun _=>hs.2⟩,args0_frOf hl,hs.1]
def notAny (v:AV):Option AV :=
 match v with
 | .any=>none
 | v=>some v
@[simp] theorem evO_tmp {n t:Nat}{f:Nat→AV}(h:t<n):evO (frOf n f) (.tmp t)=notAny (f t):=by
 simp only [evO,frOf_getD h,notAny]
 cases f t<;>rfl
@[simp] theorem notAny_int (k:IntKind)(n:Int):notAny (.int k n)=some (.int k n):=rfl
@[simp] theorem notAny_bool (b:Bool):notAny (.bool b)=some (.bool b):=rfl
@[simp] theorem notAny_str (b:ByteArray):notAny (.str b)=some (.str b):=rfl
@[simp] theorem notAny_nil:notAny .nil=some .nil:=rfl
@[simp] theorem notAny_nilp:notAny .nilp=some .nilp:=rfl
@[simp] theorem notAny_fn (f:Nat)(cs:List AV):notAny (.fn f cs)=some (.fn f cs):=rfl
@[simp] theorem notAny_agg (cs:List AV):notAny (.agg cs)=some (.agg cs):=rfl
@[simp] theorem notAny_tup (cs:List AV):notAny (.tup cs)=some (.tup cs):=rfl
@[simp] theorem notAny_sl (id lo n:Nat):notAny (.sl id lo n)=some (.sl id lo n):=rfl
@[simp] theorem notAny_ptr (id i j:Nat):notAny (.ptr id i j)=some (.ptr id i j):=rfl
@[simp] theorem notAny_ts (q:Ql)(sz:Nat)(els:List (List AV)):notAny (.ts q sz els)=some (.ts q sz els):=rfl
@[simp] theorem notAny_tp (q:Ql)(sz:Nat)(els:List (List AV))(i j:Nat):notAny (.tp q sz els i j)=some (.tp q sz els i j):=rfl
@[simp] theorem evO_const (fr:Fr)(v:Value):evO fr (.const v)=ofVal v:=rfl
@[simp] theorem evO_func (fr:Fr)(g:Nat):evO fr (.func g)=some (.fn g []):=rfl
@[simp] theorem evInt_eql (k:IntKind)(a b:Int):evInt .eql k a b=some (.bool (decide (a=b))):=rfl
@[simp] theorem evInt_neq (k:IntKind)(a b:Int):evInt .neq k a b=some (.bool (!decide (a=b))):=rfl
@[simp] theorem evInt_add (k:IntKind)(a b:Int):evInt .add k a b=some (.int k (k.wrap (a+b))):=rfl
@[simp] theorem evInt_sub (k:IntKind)(a b:Int):evInt .sub k a b=some (.int k (k.wrap (a-b))):=rfl
@[simp] theorem evInt_mul (k:IntKind)(a b:Int):evInt .mul k a b=some (.int k (k.wrap (a*b))):=rfl
@[simp] theorem evInt_and (k:IntKind)(a b:Int):evInt .and k a b=some (.int k (intBits .and k a b)):=rfl
@[simp] theorem evInt_or (k:IntKind)(a b:Int):evInt .or k a b=some (.int k (intBits .or k a b)):=rfl
@[simp] theorem evInt_xor (k:IntKind)(a b:Int):evInt .xor k a b=some (.int k (intBits .xor k a b)):=rfl
@[simp] theorem evInt_andNot (k:IntKind)(a b:Int):evInt .andNot k a b=some (.int k (intBits .andNot k a b)):=rfl
@[simp] theorem evInt_lss (k:IntKind)(a b:Int):evInt .lss k a b=some (.bool (decide (a<b))):=rfl
@[simp] theorem evInt_leq (k:IntKind)(a b:Int):evInt .leq k a b=some (.bool (decide (a≤b))):=rfl
@[simp] theorem evInt_gtr (k:IntKind)(a b:Int):evInt .gtr k a b=some (.bool (decide (b<a))):=rfl
@[simp] theorem evInt_geq (k:IntKind)(a b:Int):evInt .geq k a b=some (.bool (decide (b≤a))):=rfl
@[simp] theorem evInt_quo (k:IntKind)(a b:Int):evInt .quo k a b=if b=0 then none else some (.int k (k.wrap (a.tdiv b))):=rfl
@[simp] theorem evInt_rem (k:IntKind)(a b:Int):evInt .rem k a b=if b=0 then none else some (.int k (a.tmod b)):=rfl
@[simp] theorem evInt_shl (k:IntKind)(a b:Int):evInt .shl k a b=if b<0 then none else some (.int k (k.wrap (a*2 ^ (min b.toNat k.bits)))):=rfl
@[simp] theorem evInt_shr (k:IntKind)(a b:Int):evInt .shr k a b=if b<0 then none else some (.int k (a.fdiv (2 ^ (min b.toNat k.bits)))):=rfl
theorem wrap64 {x:Int}(h1:-9223372036854775808≤x)(h2:x<9223372036854775808):IntKind.i64.wrap x=x:=by
 simp [IntKind.wrap,IntKind.bits,IntKind.signed];omega
@[simp] theorem wrap_zero:IntKind.i64.wrap 0=0:=by decide
@[simp] theorem wrap_one:IntKind.i64.wrap 1=1:=by decide
@[simp] theorem wrap_neg1:IntKind.i64.wrap (-1)=-1:=by decide
@[simp] theorem wrap_lit (n:Nat)(h:n<9223372036854775808):IntKind.i64.wrap (@OfNat.ofNat Int n instOfNat)=@OfNat.ofNat Int n instOfNat:=by
 apply wrap64
 · show (-9223372036854775808:Int)≤(n:Int);omega
 · show (n:Int)<9223372036854775808;omega
@[simp] theorem int_lt_succ (a:Int):a<a+1:=by omega
@[simp] theorem int_le_succ (a:Int):a≤a+1:=by omega
def nth {α:Type}[Inhabited α](xs:List α)(i:Nat):α:=xs.getD i default
@[simp] theorem getOb_at (S S2:St)(b:Option Ob):getOb (S++b::S2) S.length=b:=by
 simp [getOb];cases b<;>rfl
@[simp] theorem getOb_nil (n:Nat):getOb [] n=none:=by simp [getOb]
@[simp] theorem getOb_zero (b:Option Ob)(S:St):getOb (b::S) 0=b:=by
 simp [getOb];cases b<;>rfl
@[simp] theorem getOb_succ (b:Option Ob)(S:St)(n:Nat):getOb (b::S) (n+1)=getOb S n:=by simp [getOb]
@[simp] theorem getOb_plus (S L:St)(k:Nat):getOb (S++L) (S.length+k)=getOb L k:=by simp [getOb,List.getElem?_append_right]
@[simp] theorem set_plus {α:Type}(S L:List α)(k:Nat)(v:α):(S++L).set (S.length+k) v=S++L.set k v:=by
 simp
@[simp] theorem set_at (S S2:St)(b c:Option Ob):(S++b::S2).set S.length c=S++c::S2:=by simp
def filled {α β:Type}(f:α→β)(z:β)(xs:List α)(i:Nat):List β:=(xs.take i).map f++List.replicate (xs.length-i) z
@[simp] theorem filled_length {α β:Type}(f:α→β)(z:β)(xs:List α)(i:Nat):(filled f z xs i).length=xs.length:=by simp [filled];omega
def inR (n lo hi:Int):Bool:=decide (lo≤n)&&decide (n≤hi)
def allB (n:Nat)(p:Nat→Bool):Bool:=(List.range n).all p
@[simp] theorem allB_zero (p:Nat→Bool):allB 0 p=true:=rfl
def idxF {α:Type}(p:α→Bool):List α→Int
 | []=>-1
 | x::r=>if p x then 0 else if idxF p r<0 then -1 else idxF p r+1
@[simp] theorem setQL_nil (q:Ql):setQL q []=[]:=rfl
@[simp] theorem setQL_cons (q:Ql)(c:AV)(r:List AV):setQL q (c::r)=setQ q c::setQL q r:=rfl
@[simp] theorem setQ_int (q:Ql)(k:IntKind)(n:Int):setQ q (.int k n)=.int k n:=rfl
@[simp] theorem setQ_bool (q:Ql)(b:Bool):setQ q (.bool b)=.bool b:=rfl
@[simp] theorem setQ_str (q:Ql)(s:ByteArray):setQ q (.str s)=.str s:=rfl
attribute [simp] setQ_ts
@[simp] theorem setQLL_map {α:Type}(q:Ql)(f:α→List AV)(xs:List α):setQLL q (xs.map f)=xs.map fun x=>setQL q (f x):=by
 induction xs with
 | nil=>rfl
 | cons x r ih=>simp [setQLL,ih]
@[simp] theorem window_all {α:Type}(f:α→List AV)(xs:List α):window (xs.map f) 0 xs.length=xs.map f:=by
 simp only [window,List.drop_zero]
 exact List.take_of_length_le (by simp)
attribute [simp] ownOnly ownOnlyL ownOnlyLL
@[simp] theorem ownOnlyLL_map {α:Type}(f:α→List AV)(xs:List α):ownOnlyLL (xs.map f)=xs.all fun x=>ownOnlyL (f x):=by
 induction xs with
 | nil=>rfl
 | cons x r ih=>simp [ownOnlyLL,ih]
@[simp] theorem window_zero (l:List (List AV))(lo:Nat):window l lo 0=[]:=by simp [window]
@[simp] theorem window_nil (lo n:Nat):window [] lo n=[]:=by simp [window]
@[simp] theorem window_succ (a:List AV)(r:List (List AV))(n:Nat):window (a::r) 0 (n+1)=a::window r 0 n:=by simp [window]
def afterC (S:St)(r:Option (AV×St)):Option (AV×St) :=
 match r with
 | none=>none
 | some (res,S')=>some (rebaseTop 0 S.length res,S++S')
def lendC (F:List AV→St→Option (AV×St))(S:St)(l:Option (List AV)):Option (AV×St) :=
 match l with
 | none=>none
 | some args'=>afterC S (F args' [])
@[simp] theorem lendC_some (F:List AV→St→Option (AV×St))(S:St)(l:List AV):lendC F S (some l)=afterC S (F l []):=rfl
@[simp] theorem afterC_int (S S':St)(k:IntKind)(n:Int):afterC S (some (.int k n,S'))=some (.int k n,S++S'):=by simp [afterC]
@[simp] theorem afterC_bool (S S':St)(b:Bool):afterC S (some (.bool b,S'))=some (.bool b,S++S'):=by simp [afterC]
@[simp] theorem afterC_str (S S':St)(b:ByteArray):afterC S (some (.str b,S'))=some (.str b,S++S'):=by simp [afterC]
@[simp] theorem afterC_sl (S S':St)(id lo n:Nat):afterC S (some (.sl id lo n,S'))=some (.sl (S.length+id) lo n,S++S'):=by
 simp [afterC];intro h;have h:=List.eq_nil_of_length_eq_zero h.symm;subst h;simp
@[simp] theorem afterC_agg (S S':St)(cs:List AV):afterC S (some (.agg cs,S'))=some (.agg (cs.map (rebaseCell 0 S.length)),S++S'):=by
 simp [afterC];intro h;have h:=List.eq_nil_of_length_eq_zero h.symm;subst h;simp
 have e:rebaseCell 0 0=id:=by funext c;cases c<;>simp
 rw [e];simp
@[simp] theorem afterC_tup (S S':St)(vs:List AV):afterC S (some (.tup vs,S'))=some (.tup (vs.map (rebase 0 S.length)),S++S'):=by
 simp [afterC];intro h;have h:=List.eq_nil_of_length_eq_zero h.symm;subst h;simp
 have e:rebase 0 0=id:=by
  have e:rebaseCell 0 0=id:=by funext c;cases c<;>simp
  funext v;cases v<;>simp [e]
 rw [e];simp
theorem evCall0 {T:Tab}{F:Nat→List AV→St→Option (AV×St)}{f:Nat}{fi:FnI}(h:T.fn f=some fi)(hk:fi.kind=0)(ht:fi.tree=false)(hs:fi.soft=false)(args:List AV)(S:St) :
    evCall T F f args S=lendC (F f) S (lendAll S fi.pes args):=by
 simp only [evCall,h,hk,ht,hs,lendC,Bool.false_eq_true,if_false]
 cases lendAll S fi.pes args with
 | none=>rfl
 | some a=>simp only [afterC];cases F f a [] with
  | none=>rfl
  | some p=>simp
def afterZ (S:St)(res:List (List Nat))(r:Option (AV×St)):Option (AV×St) :=
 match r with
 | none=>none
 | some (v,Sr)=>match freeze Sr res v with
  | none=>none
  | some v=>some (v,S)
def lendZ (F:List AV→St→Option (AV×St))(S:St)(res:List (List Nat))(l:Option (List AV)):Option (AV×St) :=
 match l with
 | none=>none
 | some args'=>afterZ S res (F args' [])
@[simp] theorem lendZ_some (F:List AV→St→Option (AV×St))(S:St)(res:List (List Nat))(l:List AV):lendZ F S res (some l)=afterZ S res (F l []):=rfl
@[simp] theorem afterZ_int (S S':St)(k:IntKind)(n:Int)(e:Nat):afterZ S [[e]] (some (.int k n,S'))=some (.int k n,S):=by simp [afterZ]
@[simp] theorem afterZ_bool (S S':St)(b:Bool)(e:Nat):afterZ S [[e]] (some (.bool b,S'))=some (.bool b,S):=by simp [afterZ]
@[simp] theorem afterZ_str (S S':St)(b:ByteArray)(e:Nat):afterZ S [[e]] (some (.str b,S'))=some (.str b,S):=by simp [afterZ]
def bindZ (S:St)(v:Option AV):Option (AV×St) :=
 match v with
 | none=>none
 | some v=>some (v,S)
def bindZt (S:St)(v:Option (List AV)):Option (AV×St) :=
 match v with
 | none=>none
 | some v=>some (.tup v,S)
@[simp] theorem bindZ_some (S:St)(v:AV):bindZ S (some v)=some (v,S):=rfl
@[simp] theorem bindZt_some (S:St)(v:List AV):bindZt S (some v)=some (.tup v,S):=rfl
@[simp] theorem afterZ_sl (S S':St)(id lo n e:Nat):afterZ S [[e]] (some (.sl id lo n,S'))=bindZ S (lend S' [e] (.sl id lo n)):=by
 simp only [afterZ,freeze,bindZ]
@[simp] theorem afterZ_agg (S S':St)(cs:List AV)(es:List Nat):afterZ S [es] (some (.agg cs,S'))=bindZ S (lend S' es (.agg cs)):=by
 simp only [afterZ,freeze,bindZ]
@[simp] theorem afterZ_tup (S S':St)(vs:List AV)(es:List (List Nat)):afterZ S es (some (.tup vs,S'))=bindZt S (lendAll S' es vs):=by
 simp only [afterZ,freeze,bindZt]
 cases lendAll S' es vs<;>rfl
theorem evCallFz0 {T:Tab}{F:Nat→List AV→St→Option (AV×St)}{f:Nat}{fi:FnI}(h:T.fn f=some fi)(hk:fi.kind=0)(ht:fi.tree=false)(hs:fi.soft=false)(args:List AV)(S:St) :
    evCallFz T F f args S=lendZ (F f) S fi.res (lendAll S fi.pes args):=by
 simp only [evCallFz,h,hk,ht,hs,lendZ];simp only [Nat.zero_ne_one,Bool.false_eq_true,or_self,if_false,reduceCtorEq]
 cases lendAll S fi.pes args with
 | none=>simp
 | some a =>
  simp only [afterZ]
  cases F f a [] with
  | none=>simp
  | some p => obtain ⟨v, Sr⟩ := p
              simp only []
              cases freeze Sr fi.res v<;>simp
attribute [simp] rawAll
@[simp] theorem take_mid (A B:St)(r:Option Ob):(A++r::B).take (A.length+(B.length+1))=A++r::B:=List.take_of_length_le (by simp)
def markL (k:Int)(n:Nat):List Int:=(List.range n).map fun (i:Nat)=>k+i
@[simp] theorem markL_length (k:Int)(n:Nat):(markL k n).length=n:=by simp [markL]
def markd (f:Int→List AV)(k:Int)(els:List (List AV))(i:Nat):List (List AV):=(markL k i).map f++els.drop i
@[simp] theorem markd_length (f:Int→List AV)(k:Int)(els:List (List AV))(i:Nat)(h:i≤els.length):(markd f k els i).length=els.length:=by simp [markd];omega
def markR (f:Nat→List AV)(els:List (List AV))(i:Nat):List (List AV):=(List.range i).map f++els.drop i
def szL (n:Nat)(l:Int):Int:=if l-n<0 then -1 else l-n
def szThen (l:Int)(k:Int→Int):Int:=if l<0 then -1 else k l
def szGo {α:Type}(f:α→Int→Int):List α→Int→Int
 | [],l=>l
 | x::r,l=>if f x l<0 then -1 else szGo f r (f x l)
def szS {α:Type}(f:α→Int→Int)(xs:List α)(l:Int):Int:=if l-xs.length<0 then -1 else szGo f xs (l-xs.length)
inductive Step1 (I:Nat→Fr→St→Prop) (R:Option (Ex×Fr×St)→Prop) (i:Nat):Option (Ex×Fr×St)→Prop where
 | go (fr S) (h:I (i+1) fr S):Step1 I R i (some (.normal,fr,S))
 | ret (fr S) (h:R (some (.ret,fr,S))):Step1 I R i (some (.ret,fr,S))
 | exit (id fr S) (h:R (some (.exit id,fr,S))):Step1 I R i (some (.exit id,fr,S))
inductive End1 (R:Option (Ex×Fr×St)→Prop):Option (Ex×Fr×St)→Prop where
 | ret (fr S) (h:R (some (.ret,fr,S))):End1 R (some (.ret,fr,S))
 | exit (id fr S) (h:R (some (.exit id,fr,S))):End1 R (some (.exit id,fr,S))
inductive StepM (I:Nat→Fr→St→Prop) (R:Option (Ex×Fr×St)→Prop) (k:Nat):Option (Ex×Fr×St)→Prop where
 | go (fr S) (k':Nat) (hk:k'<k) (h:I k' fr S):StepM I R k (some (.normal,fr,S))
 | ret (fr S) (h:R (some (.ret,fr,S))):StepM I R k (some (.ret,fr,S))
 | exit (id fr S) (h:R (some (.exit id,fr,S))):StepM I R k (some (.exit id,fr,S))
end Go.Pi

namespace Go.Pi
open Go
def ctlX {σ β:Type}(E:σ→Fr×St)(X:β→Ex×Fr×St)(c:Ctl σ β):Ex×Fr×St :=
 match c with
 | .nxt s=>(.normal,(E s).1,(E s).2)
 | .out b=>X b
theorem ctlX_nxt {σ β:Type}(E:σ→Fr×St)(X:β→Ex×Fr×St)(s:σ):ctlX E X (.nxt s)=(.normal,(E s).1,(E s).2):=rfl
theorem ctlX_out {σ β:Type}(E:σ→Fr×St)(X:β→Ex×Fr×St)(b:β):ctlX E X (.out b)=X b:=rfl
theorem loop_walk {T:Tab}{m:Nat}{c:PC}{σ β:Type}{body:σ→Option (Ctl σ β)}{E:σ→Fr×St}{X:β→Ex×Fr×St}(hX:∀b,(X b).1≠.normal)
    (hb:∀s o,body s=some o→evCL T m c (E s).1 (E s).2=some (ctlX E X o)) :
    ∀s b,loopP body s=some b→evCL T m (.loop c) (E s).1 (E s).2=some (X b):=by
 refine loopP_ind (fun s b h=>?_) (fun s s' b h ih=>?_)
 · have e:evCL T m c (E s).1 (E s).2=some (X b):=hb s _ h;rw [evCL_loop,e];have:=hX b;generalize X b=x at this ⊢;obtain ⟨ex,fr,S⟩:=x
   cases ex with
   | normal=>exact absurd rfl this
   | _=>rfl
 · have e:evCL T m c (E s).1 (E s).2=some (.normal,(E s').1,(E s').2):=hb s _ h;rw [evCL_loop,e];exact ih
section
variable (k:IntKind) (a b:Int)
theorem g_add:evInt .add k a b=some (.int k (wadd k a b)):=rfl
theorem g_sub:evInt .sub k a b=some (.int k (wsub k a b)):=rfl
theorem g_mul:evInt .mul k a b=some (.int k (wmul k a b)):=rfl
theorem g_quo:evInt .quo k a b=if b=0 then none else some (.int k (wquo k a b)):=rfl
theorem g_rem:evInt .rem k a b=if b=0 then none else some (.int k (wrem k a b)):=rfl
theorem g_and:evInt .and k a b=some (.int k (intBits .and k a b)):=rfl
theorem g_or:evInt .or k a b=some (.int k (intBits .or k a b)):=rfl
theorem g_xor:evInt .xor k a b=some (.int k (intBits .xor k a b)):=rfl
theorem g_andNot:evInt .andNot k a b=some (.int k (intBits .andNot k a b)):=rfl
theorem g_shl:evInt .shl k a b=if b<0 then none else some (.int k (wshl k a b)):=rfl
theorem g_shr:evInt .shr k a b=if b<0 then none else some (.int k (wshr k a b)):=rfl
theorem g_eql:evInt .eql k a b=some (.bool (eqI a b)):=rfl
theorem g_neq:evInt .neq k a b=some (.bool (!eqI a b)):=rfl
theorem g_lss:evInt .lss k a b=some (.bool (ltI a b)):=rfl
theorem g_leq:evInt .leq k a b=some (.bool (leI a b)):=rfl
theorem g_gtr:evInt .gtr k a b=some (.bool (ltI b a)):=rfl
theorem g_geq:evInt .geq k a b=some (.bool (leI b a)):=rfl
end
theorem g_beql {T:Tab}{t:Nat}(h:T.baseOf t=.bool)(a b:Bool):evBin T .eql t (.bool a) (.bool b)=some (.bool (eqB a b)):=by simp only [evBin,h,if_true];rfl
theorem g_bneq {T:Tab}{t:Nat}(h:T.baseOf t=.bool)(a b:Bool):evBin T .neq t (.bool a) (.bool b)=some (.bool (!eqB a b)):=by simp only [evBin,h,if_true];rfl
theorem g_int {T:Tab}{op:BinOp}{t:Nat}(k:IntKind)(a b:Int):evBin T op t (.int k a) (.int k b)=evInt op k a b:=by simp [evBin]
theorem g_shl2 {T:Tab}{t:Nat}(k k':IntKind)(a b:Int):evBin T .shl t (.int k a) (.int k' b)=evInt .shl k a b:=by simp [evBin,isShift]
theorem g_shr2 {T:Tab}{t:Nat}(k k':IntKind)(a b:Int):evBin T .shr t (.int k a) (.int k' b)=evInt .shr k a b:=by simp [evBin,isShift]
def eqcO (b:Bool)(e:Option Bool):Option Bool :=
 match e with
 | some e=>some (b&&e)
 | none=>none
theorem eqcO_some (b e:Bool):eqcO b (some e)=some (b&&e):=rfl
theorem eqc_nil:eqCells [] []=some true:=rfl
theorem eqc_int (k:IntKind)(a b:Int)(r s:List AV):eqCells (.int k a::r) (.int k b::s)=eqcO (eqI a b) (eqCells r s):=by simp only [eqCells,if_true,eqcO];cases eqCells r s<;>rfl
theorem eqc_bool (a b:Bool)(r s:List AV):eqCells (.bool a::r) (.bool b::s)=eqcO (eqB a b) (eqCells r s):=by simp only [eqCells,eqcO];cases eqCells r s<;>rfl
theorem eqc_str (a b:ByteArray)(r s:List AV):eqCells (.str a::r) (.str b::s)=eqcO (a==b) (eqCells r s):=by simp only [eqCells,eqcO];cases eqCells r s<;>rfl
def eqaO (op:BinOp)(e:Option Bool):Option AV :=
 match op,e with
 | .eql,some e=>some (.bool e)
 | .neq,some e=>some (.bool !e)
 | _,_=>none
theorem eqaO_eql (e:Bool):eqaO .eql (some e)=some (.bool e):=rfl
theorem eqaO_neq (e:Bool):eqaO .neq (some e)=some (.bool !e):=rfl
def eqtO (op:BinOp)(a:List AV)(e:Option Bool)(i:Option TyI):Option AV :=
 match i with
 | some i=>if i.cmp=true∧i.agg=true∧a.length=i.size∧(eqCells i.zero a).isSome=true then eqaO op e else none
 | none=>none
theorem eqtO_some (op:BinOp)(a:List AV)(e:Option Bool)(i:TyI):eqtO op a e (some i)=if i.cmp=true∧i.agg=true∧a.length=i.size∧(eqCells i.zero a).isSome=true then eqaO op e else none:=rfl
theorem g_eqa {T:Tab}{op:BinOp}{t:Nat}(a b:List AV):evBin T op t (.agg a) (.agg b)=eqtO op a (eqCells a b) (T.ty t):=by
 simp only [evBin,eqtO]
 cases T.ty t with
 | none=>rfl
 | some i=>cases eqCells a b<;>cases op<;>rfl
theorem g_str {T:Tab}{op:BinOp}{t:Nat}(a b:ByteArray):evBin T op t (.str a) (.str b)=evStr op a b:=rfl
theorem g_not (b:Bool):evUn .not (.bool b)=some (.bool !b):=rfl
theorem g_neg (k:IntKind)(n:Int):evUn .neg (.int k n)=some (.int k (wneg k n)):=rfl
theorem g_min (k k':IntKind)(a b:Int):min2 (.int k a) (.int k' b)=some (.int k (wmin a b)):=rfl
theorem g_max (k k':IntKind)(a b:Int):max2 (.int k a) (.int k' b)=some (.int k (wmax a b)):=rfl
def cvO (si di:Option TyI)(n:Int)(S:St):Option (AV×St) :=
 match si,di with
 | some si,some di=>match si.base,di.base with
  | .int _,.int k=>some (.int k (wcv k n),S)
  | _,_=>none
 | _,_=>none
theorem g_convert {T:Tab}{C:Nat→List AV→St→Option (AV×St)}{fr:Fr}{S:St}{src dst:Nat}{x:Operand}{k:IntKind}{n:Int}(h:evO fr x=some (.int k n)):evOp T C (.convert src dst x) fr S=cvO (T.ty src) (T.ty dst) n S:=by
 simp only [evOp,h,cvO,wcv]
 cases T.ty src<;>cases T.ty dst<;>rfl
def anyF:Nat→AV:=fun _=>.any
theorem g_rep {n:Nat}{f:Nat→AV}:List.replicate (frOf n f).length AV.any=frOf n anyF:=by
 apply List.ext_getElem
 · simp [frOf]
 · intro i h1 h2;simp [frOf,anyF]
theorem upd_at (f:Nat→AV)(d e:Nat)(v:AV):upd f d v e=if d=e then v else f e:=rfl
theorem put_sm (n d:Nat)(f:Nat→AV)(v:AV):put (frOf n f) (some d) v=frOf n (upd f d v):=frOf_set
theorem put_no (fr:Fr)(v:AV):put fr none v=fr:=rfl
theorem bindO_sm {T:Tab}{C:Nat→List AV→St→Option (AV×St)}{n:Nat}{f:Nat→AV}{S:St}(d:Nat)(r:List PO)(v:AV):bindO T C (some d) r (frOf n f) (some (v,S))=evOps T C r (frOf n (upd f d v)) S:=by
 rw [←frOf_set];rfl
section
variable {n0:Nat} {fr f:Fr} {S S':St} {R:List Rs} {src:List Org}
def consO {α:Type}(x:Option α)(l:Option (List α)):Option (List α) :=
 match x,l with
 | some x,some l=>some (x::l)
 | _,_=>none
theorem consO_some {α:Type}(x:α)(l:List α):consO (some x) (some l)=some (x::l):=rfl
theorem mapO_nil {α β:Type}(g:α→Option β):mapO g []=some []:=rfl
theorem mapO_cons {α β:Type}(g:α→Option β)(a:α)(r:List α):mapO g (a::r)=consO (g a) (mapO g r):=by
 simp only [mapO]
 cases g a with
 | none=>rfl
 | some b=>simp only [];cases mapO g r<;>rfl
def tdA (n0:Nat)(h:Hint)(fr:Fr)(S:St)(r:Option (List Rs)):Option (Fr×St) :=
 match r with
 | none=>none
 | some R =>
  if rsOk R then
   match tdFr n0 h.rows R fr h.keep (List.replicate fr.length .any),tdLow n0 h.drop h.rows R S n0,tdHigh n0 h.rows R S R with
   | some fr',some A,some B=>some (fr',A++B)
   | _,_,_=>none
  else none
theorem tidy_a (h:Hint):tidy0 n0 h fr S=tdA n0 h fr S (mapO (rsOf fr S) h.rows):=rfl
theorem tidy_z (k:List Nat)(r:List Org)(d:List Nat):tidy n0 ⟨k,r,d,[]⟩ fr S=tidy0 n0 ⟨k,r,d,[]⟩ fr S:=rfl
def frzC (n0:Nat)(h:Hint):Option (Fr×St)→Option (Fr×St)
 | none=>none
 | some q=>tidy n0 h q.1 q.2
theorem frzC_some (h:Hint)(q:Fr×St):frzC n0 h (some q)=tidy n0 h q.1 q.2:=rfl
def frzS (fr:Fr):Option St→Option (Fr×St)
 | none=>none
 | some S=>some (fr,S)
theorem frzS_some:frzS fr (some S)=some (fr,S):=rfl
theorem tidy_c (k:List Nat)(r:List Org)(d:List Nat)(id c e:Nat)(f:List (Nat×Nat×Nat)):tidy n0 ⟨k,r,d,(id,c,e)::f⟩ fr S=frzC n0 ⟨k,r,d,f⟩ (if c=4294967296 then evFrt fr S id e else frzS fr (evFrz S id c e)):=by
 unfold tidy frzC;simp only [evFrzs]
 by_cases h:c=4294967296
 · rw [if_pos h,if_pos h];cases evFrt fr S id e<;>rfl
 · rw [if_neg h,if_neg h];cases evFrz S id c e<;>rfl
def tdJ (a:Option Fr)(b c:Option St):Option (Fr×St) :=
 match a,b,c with
 | some fr',some A,some B=>some (fr',A++B)
 | _,_,_=>none
theorem tdJ_some (a:Fr)(b c:St):tdJ (some a) (some b) (some c)=some (a,b++c):=rfl
theorem tdA_some (h:Hint):tdA n0 h fr S (some R)=if rsOk R then tdJ (tdFr n0 h.rows R fr h.keep (List.replicate fr.length .any)) (tdLow n0 h.drop h.rows R S n0) (tdHigh n0 h.rows R S R) else none:=rfl
theorem rsOf_old (id:Nat):rsOf fr S (.old id)=some (.row id 0 none):=rfl
theorem rsOf_winT (t c:Nat):rsOf fr S (.winT t c)=winRs (cellAt (fr.getD t .undef) c):=rfl
theorem rsOf_nilT (t c e:Nat):rsOf fr S (.nilT t c e)=some (.nil e):=rfl
theorem rsOf_nilB (t c e:Nat):rsOf fr S (.nilB t c e)=some (.nil e):=rfl
def winG (c:Nat)(o:Option Ob):Option Rs :=
 match o with
 | some ob=>winRs (cellAt (.agg ob.els.flatten) c)
 | none=>none
theorem rsOf_winB (id c:Nat):rsOf fr S (.winB id c)=winG c (getOb S id):=rfl
theorem winG_some (c:Nat)(ob:Ob):winG c (some ob)=winRs (cellAt (.agg ob.els.flatten) c):=rfl
theorem winRs_sl (id lo n:Nat):winRs (.sl id lo n)=some (.row id lo (some n)):=rfl
theorem cellAt_agg (cs:List AV)(c:Nat):cellAt (.agg cs) c=cs.getD c .undef:=rfl
theorem cellAt_fn (g:Nat)(cs:List AV)(c:Nat):cellAt (.fn g cs) c=cs.getD c .undef:=rfl
theorem cellAt_sl (id lo n c:Nat):cellAt (.sl id lo n) c=.sl id lo n:=rfl
def tdN (n0:Nat)(src:List Org)(R:List Rs)(fr:Fr)(t:Nat)(r:List Nat)(f:Fr)(v:Option AV):Option Fr :=
 match v with
 | none=>none
 | some v=>tdFr n0 src R fr r (f.set t v)
theorem tdFr_nil:tdFr n0 src R fr [] f=some f:=rfl
theorem tdFr_cons (t:Nat)(r:List Nat):tdFr n0 src R fr (t::r) f=tdN n0 src R fr t r f (tdV n0 src R t (fr.getD t .undef)):=by
 simp only [tdFr,tdN]
 cases tdV n0 src R t (fr.getD t .undef)<;>rfl
theorem tdN_some (t:Nat)(r:List Nat)(v:AV):tdN n0 src R fr t r f (some v)=tdFr n0 src R fr r (f.set t v):=rfl
def tdAg (v:Option (List AV)):Option AV :=
 match v with
 | none=>none
 | some cs=>some (.agg cs)
def tdFn (g:Nat)(v:Option (List AV)):Option AV :=
 match v with
 | none=>none
 | some cs=>some (.fn g cs)
theorem tdAg_some (cs:List AV):tdAg (some cs)=some (.agg cs):=rfl
theorem tdFn_some (g:Nat)(cs:List AV):tdFn g (some cs)=some (.fn g cs):=rfl
theorem tdV_agg (t:Nat)(cs:List AV):tdV n0 src R t (.agg cs)=tdAg (tdL n0 src R true t 0 cs):=by
 simp only [tdV,tdAg];cases tdL n0 src R true t 0 cs<;>rfl
theorem tdV_fn (t g:Nat)(cs:List AV):tdV n0 src R t (.fn g cs)=tdFn g (tdL n0 src R true t 0 cs):=by
 simp only [tdV,tdFn];cases tdL n0 src R true t 0 cs<;>rfl
section
variable (t:Nat)
theorem tdV_int (k:IntKind)(n:Int):tdV n0 src R t (.int k n)=some (.int k n):=rfl
theorem tdV_bool (b:Bool):tdV n0 src R t (.bool b)=some (.bool b):=rfl
theorem tdV_str (b:ByteArray):tdV n0 src R t (.str b)=some (.str b):=rfl
theorem tdV_nil:tdV n0 src R t .nil=tdC n0 src R true t 0 .nil:=rfl
theorem tdV_nilp:tdV n0 src R t .nilp=some .nilp:=rfl
theorem tdV_sl (id lo n:Nat):tdV n0 src R t (.sl id lo n)=tdC n0 src R true t 0 (.sl id lo n):=rfl
theorem tdV_ptr (id i j:Nat):tdV n0 src R t (.ptr id i j)=tdC n0 src R true t 0 (.ptr id i j):=rfl
theorem tdV_ts (q:Ql)(sz:Nat)(els:List (List AV)):tdV n0 src R t (.ts q sz els)=some (.ts q sz els):=rfl
theorem tdV_tp (q:Ql)(sz:Nat)(els:List (List AV))(i j:Nat):tdV n0 src R t (.tp q sz els i j)=some (.tp q sz els i j):=rfl
theorem tdV_undef:tdV n0 src R t (.tup [])=some (.tup []):=rfl
theorem tdV_any:tdV n0 src R t .any=some .any:=rfl
end
section
variable (tm:Bool) (a c:Nat)
theorem tdC_int (k:IntKind)(n:Int):tdC n0 src R tm a c (.int k n)=some (.int k n):=rfl
theorem tdC_bool (b:Bool):tdC n0 src R tm a c (.bool b)=some (.bool b):=rfl
theorem tdC_str (b:ByteArray):tdC n0 src R tm a c (.str b)=some (.str b):=rfl
theorem tdC_nilp:tdC n0 src R tm a c .nilp=some .nilp:=rfl
theorem tdC_ts (q:Ql)(sz:Nat)(els:List (List AV)):tdC n0 src R tm a c (.ts q sz els)=some (.ts q sz els):=rfl
theorem tdC_tp (q:Ql)(sz:Nat)(els:List (List AV))(i j:Nat):tdC n0 src R tm a c (.tp q sz els i j)=some (.tp q sz els i j):=rfl
theorem tdC_fn (g:Nat):tdC n0 src R tm a c (.fn g [])=some (.fn g []):=rfl
def nilO (k:Option Nat):Option AV :=
 match k with
 | some k=>some (.sl k 0 0)
 | none=>some .nil
theorem nilO_some (k:Nat):nilO (some k)=some (.sl k 0 0):=rfl
theorem nilO_none:nilO none=some .nil:=rfl
theorem tdC_nil:tdC n0 src R tm a c .nil=nilO (nilAt tm a c src n0):=by
 simp only [tdC,nilO]
 cases nilAt tm a c src n0<;>rfl
def slO (n:Nat)(k:Option (Nat×Nat)):Option AV :=
 match k with
 | some (k,lo)=>some (.sl k lo n)
 | none=>none
theorem slO_some (n k lo:Nat):slO n (some (k,lo))=some (.sl k lo n):=rfl
theorem tdC_sl (id lo n:Nat):tdC n0 src R tm a c (.sl id lo n)=if id<n0∧rsFree id R=true then some (.sl id lo n) else slO n (rsSl R n0 id lo n):=by
 simp only [tdC,slO];split
 · rfl
 · cases rsSl R n0 id lo n with
   | none=>rfl
   | some p=>obtain ⟨k,lo'⟩:=p;rfl
def ptrO (i j:Nat)(k:Option Nat):Option AV :=
 match k with
 | some k=>some (.ptr k i j)
 | none=>none
theorem ptrO_some (i j k:Nat):ptrO i j (some k)=some (.ptr k i j):=rfl
theorem tdC_ptr (id i j:Nat):tdC n0 src R tm a c (.ptr id i j)=if id<n0∧rsFree id R=true then some (.ptr id i j) else ptrO i j (rsPtr R n0 id):=by
 simp only [tdC,ptrO];split
 · rfl
 · cases rsPtr R n0 id<;>rfl
theorem tdL_nil:tdL n0 src R tm a c []=some []:=rfl
theorem tdL_cons (v:AV)(r:List AV):tdL n0 src R tm a c (v::r)=consO (tdC n0 src R tm a c v) (tdL n0 src R tm a (c+1) r):=by
 simp only [tdL]
 cases tdC n0 src R tm a c v with
 | none=>rfl
 | some b=>simp only [];cases tdL n0 src R tm a (c+1) r<;>rfl
end
theorem rsSl_row (id' lo':Nat)(m:Option Nat)(R:List Rs)(k id lo n:Nat):rsSl (.row id' lo' m::R) k id lo n=if id'=id then (match m with | none=>some (k,lo) | some n'=>if lo'=lo∧n'=n then some (k,0) else none) else rsSl R (k+1) id lo n:=by simp only [rsSl];split<;>rfl
theorem rsSl_nil (e:Nat)(R:List Rs)(k id lo n:Nat):rsSl (.nil e::R) k id lo n=rsSl R (k+1) id lo n:=rfl
theorem rsPtr_row (id' lo':Nat)(m:Option Nat)(R:List Rs)(k id:Nat):rsPtr (.row id' lo' m::R) k id=if id'=id then (match m with | none=>some k | some _=>none) else rsPtr R (k+1) id:=by simp only [rsPtr];split<;>rfl
theorem rsPtr_nil (e:Nat)(R:List Rs)(k id:Nat):rsPtr (.nil e::R) k id=rsPtr R (k+1) id:=rfl
section
variable (tm:Bool) (a c k:Nat) (r:List Org)
theorem nilAt_nil:nilAt tm a c [] k=none:=rfl
theorem nilAt_T (t c' e:Nat):nilAt tm a c (.nilT t c' e::r) k=if tm=true∧t=a∧c'=c then some k else nilAt tm a c r (k+1):=rfl
theorem nilAt_B (t c' e:Nat):nilAt tm a c (.nilB t c' e::r) k=if tm=false∧t=a∧c'=c then some k else nilAt tm a c r (k+1):=rfl
theorem nilAt_old (id:Nat):nilAt tm a c (.old id::r) k=nilAt tm a c r (k+1):=rfl
theorem nilAt_wT (t c':Nat):nilAt tm a c (.winT t c'::r) k=nilAt tm a c r (k+1):=rfl
theorem nilAt_wB (t c':Nat):nilAt tm a c (.winB t c'::r) k=nilAt tm a c r (k+1):=rfl
end
theorem tdEls_nil (id c:Nat):tdEls n0 src R id c []=some []:=rfl
theorem tdEls_cons (id c:Nat)(x:List AV)(xs:List (List AV)):tdEls n0 src R id c (x::xs)=consO (tdL n0 src R false id c x) (tdEls n0 src R id (c+x.length) xs):=by
 simp only [tdEls]
 cases tdL n0 src R false id c x with
 | none=>rfl
 | some b=>simp only [];cases tdEls n0 src R id (c+x.length) xs<;>rfl
def obO (ob:Ob)(els:Option (List (List AV))):Option Ob :=
 match els with
 | none=>none
 | some els=>some { ob with els:=els }
theorem obO_some (kd:Kd)(sz:Nat)(els els':List (List AV)):obO ⟨kd,sz,els⟩ (some els')=some ⟨kd,sz,els'⟩:=rfl
theorem tdOb_box (id sz:Nat)(els:List (List AV)):tdOb n0 src R id ⟨.box,sz,els⟩=obO ⟨.box,sz,els⟩ (tdEls n0 src R id 0 els):=by
 simp only [tdOb,if_true,obO]
 cases tdEls n0 src R id 0 els<;>rfl
theorem tdOb_arr (id sz:Nat)(els:List (List AV)):tdOb n0 src R id ⟨.arr,sz,els⟩=some ⟨.arr,sz,els⟩:=rfl
theorem tdOb_lit (id sz:Nat)(els:List (List AV)):tdOb n0 src R id ⟨.lit,sz,els⟩=some ⟨.arr,sz,els⟩:=rfl
def lowO (S':Option St)(ob:Option (Option Ob)):Option St :=
 match S',ob with
 | some S',some ob=>some (S'++[ob])
 | _,_=>none
theorem lowO_some (S':St)(ob:Option Ob):lowO (some S') (some ob)=some (S'++[ob]):=rfl
def lowB (n0:Nat)(src:List Org)(R:List Rs)(k:Nat)(ob:Option Ob):Option (Option Ob) :=
 match ob with
 | none=>some none
 | some ob=>match tdOb n0 src R k ob with
  | none=>none
  | some ob'=>some (some ob')
def someO (ob:Option Ob):Option (Option Ob) :=
 match ob with
 | none=>none
 | some ob=>some (some ob)
theorem someO_some (ob:Ob):someO (some ob)=some (some ob):=rfl
theorem lowB_none (k:Nat):lowB n0 src R k none=some none:=rfl
theorem lowB_some (k:Nat)(ob:Ob):lowB n0 src R k (some ob)=someO (tdOb n0 src R k ob):=by simp only [lowB,someO]
theorem tdLow_zero (D:List Nat):tdLow n0 D src R S 0=some []:=rfl
theorem tdLow_succ (D:List Nat)(k:Nat):tdLow n0 D src R S (k+1)=lowO (tdLow n0 D src R S k) (if D.elem k=true∨rsFree k R=false then some none else lowB n0 src R k (getOb S k)):=by
 simp only [tdLow,lowO,lowB]
 cases tdLow n0 D src R S k with
 | none=>rfl
 | some A =>
  simp only [];split
  · rfl
  · cases getOb S k with
    | none=>rfl
    | some ob=>simp only [];cases tdOb n0 src R k ob<;>rfl
theorem tdHigh_nil:tdHigh n0 src R S []=some []:=rfl
theorem tdHigh_fresh (e:Nat)(r:List Rs):tdHigh n0 src R S (.nil e::r)=consO (some (some ⟨.arr,e,[]⟩)) (tdHigh n0 src R S r):=by
 simp only [tdHigh,consO]
 cases tdHigh n0 src R S r<;>rfl
def cutO (lo:Nat)(m:Option Nat)(ob:Option Ob):Option (Option Ob) :=
 match ob with
 | none=>none
 | some ob=>match m with
  | none=>if lo=0 then some (some ob) else none
  | some n=>if lo+n≤ob.els.length∧ob.kd≠.box then some (some { ob with els:=window ob.els lo n }) else none
theorem cutO_none (ob:Ob):cutO 0 none (some ob)=some (some ob):=rfl
theorem cutO_some (lo n:Nat)(kd:Kd)(sz:Nat)(els:List (List AV)):cutO lo (some n) (some ⟨kd,sz,els⟩)=if lo+n≤els.length∧kd≠.box then some (some ⟨kd,sz,window els lo n⟩) else none:=rfl
def highO (n0:Nat)(src:List Org)(R:List Rs)(id lo:Nat)(m:Option Nat)(ob:Option Ob):Option (Option Ob) :=
 match ob with
 | none=>none
 | some ob=>cutO lo m (tdOb n0 src R id ob)
theorem highO_some (id lo:Nat)(m:Option Nat)(ob:Ob):highO n0 src R id lo m (some ob)=cutO lo m (tdOb n0 src R id ob):=rfl
theorem tdHigh_row (id lo:Nat)(m:Option Nat)(r:List Rs):tdHigh n0 src R S (.row id lo m::r)=consO (highO n0 src R id lo m (getOb S id)) (tdHigh n0 src R S r):=by
 simp only [tdHigh,highO]
 cases getOb S id with
 | none=>rfl
 | some ob =>
  simp only []
  cases h1:tdOb n0 src R id ob with
  | none=>rfl
  | some ob' =>
   have hl:ob'.els.length=ob.els.length∧(ob'.kd=.box↔ob.kd=.box):=by
    have lenT:∀ {els:List (List AV)} {c:Nat} {els':List (List AV)},tdEls n0 src R id c els=some els'→els'.length=els.length:=by
     intro els
     induction els with
     | nil=>intro c els' h;simp only [tdEls,Option.some.injEq] at h;subst h;rfl
     | cons x xs ih =>
      intro c els' h;simp only [tdEls] at h;split at h
      · cases h
      · split at h<;>cases h
        rename_i rs' hrs;simp [ih hrs]
    unfold tdOb at h1;split at h1
    · split at h1<;>cases h1
      rename_i els hels;exact ⟨lenT hels,Iff.rfl⟩
    · rename_i hk;cases h1;exact ⟨rfl,by simp [hk]⟩
   cases tdHigh n0 src R S r with
   | none=>simp only [];cases cutO lo m (some ob')<;>rfl
   | some S' =>
    simp only [cutO]
    cases m with
    | none=>simp only [];split<;>rfl
    | some n =>
     simp only []
     by_cases hc:lo+n≤ob.els.length∧ob.kd≠.box
     · rw [if_pos hc,if_pos ⟨by rw [hl.1];exact hc.1,fun hb=>hc.2 (hl.2.1 hb)⟩];rfl
     · rw [if_neg hc,if_neg (fun h=>hc ⟨by rw [←hl.1];exact h.1,fun hb=>h.2 (hl.2.2 hb)⟩)];rfl
theorem rsOk_nil:rsOk []=true:=rfl
theorem rsOk_fresh (e:Nat)(r:List Rs):rsOk (.nil e::r)=rsOk r:=rfl
theorem rsFree_nil (id:Nat):rsFree id []=true:=rfl
theorem rsFree_row (id id' lo:Nat)(m:Option Nat)(r:List Rs):rsFree id (.row id' lo m::r)=(decide (id'≠id)&&rsFree id r):=rfl
theorem rsFree_fresh (id e:Nat)(r:List Rs):rsFree id (.nil e::r)=rsFree id r:=rfl
theorem rsOk_row' (id lo:Nat)(m:Option Nat)(r:List Rs):rsOk (.row id lo m::r)=(rsFree id r&&rsOk r):=rfl
theorem g_pre {T:Tab}{m:Nat}(h:Hint)(a:PC):evCL T m (.pre h a) fr S=andThen (norm (tidy m h fr S)) (evCL T m a):=by
 rw [evCL_pre]
 cases tidy m h fr S with
 | none=>rfl
 | some p=>rfl
theorem g_post {T:Tab}{m:Nat}(h:Hint)(a:PC):evCL T m (.post a h) fr S=andThen (evCL T m a fr S) (fun fr S=>norm (tidy m h fr S)):=evCL_post
end
def ambD (f:Bool→Fr→St→Option (Ex×Fr×St))(u:Option (Nat×Bool))(fr:Fr)(S:St):Option (Ex×Fr×St) :=
 match u with
 | none=>none
 | some u=>f u.2 (fr.set u.1 .any) S
theorem ambL_some {T:Tab}{p:PO}{x:Operand}{f:Bool→Fr→St→Option (Ex×Fr×St)}{fr:Fr}{S:St}:ambL (some (fr,S)) T p x f=ambD f (ambAt T p x fr) fr S:=by
 first | rfl | (unfold ambL ambD;simp only [];cases ambAt T p x fr<;>rfl)
theorem ambD_some {f:Bool→Fr→St→Option (Ex×Fr×St)}{d:Nat}{w:Bool}{fr:Fr}{S:St}:ambD f (some (d,w)) fr S=f w (fr.set d .any) S:=rfl
def ambE (ti:Option TyI)(w:Option Bool)(d n:Nat):Option (Nat×Bool) :=
 match ti,w with
 | some ti,some w=>if ti.elem≠0∧d<n then some (d,w) else none
 | _,_=>none
theorem ambE_some (ti:TyI)(w:Bool)(d n:Nat):ambE (some ti) (some w) d n=if ti.elem≠0∧d<n then some (d,w) else none:=rfl
theorem g_ambAt0 {T:Tab}{t t' s d:Nat}{fr:Fr}:ambAt T ⟨some d,.binOp .eql t (.tmp s) (.const (.slice none 0 0)) t',none⟩ (.tmp d) fr=ambE (T.ty t) (ambWay (fr.getD s .undef)) d fr.length:=by
 unfold ambAt ambE;simp only [if_true]
 cases T.ty t<;>cases ambWay (List.getD fr s AV.undef)<;>rfl
theorem ambWay_nil (q:Ql)(sz:Nat):ambWay (.ts q sz [])=some true:=rfl
theorem ambWay_cons (q:Ql)(sz:Nat)(x:List AV)(r:List (List AV)):ambWay (.ts q sz (x::r))=some false:=rfl
theorem both_self (a:Option (Ex×Fr×St)):both true a a=a:=by simp [both]
theorem both_false (a b:Option (Ex×Fr×St)):both false a b=b:=by simp [both]
theorem len_frOf (n:Nat)(f:Nat→AV):(frOf n f).length=n:=by simp [frOf]
theorem g_ambAt {T:Tab}{t t' s d n:Nat}{f:Nat→AV}:ambAt T ⟨some d,.binOp .eql t (.tmp s) (.const (.slice none 0 0)) t',none⟩ (.tmp d) (frOf n f)=ambE (T.ty t) (ambWay ((frOf n f).getD s .undef)) d n:=by
 rw [g_ambAt0,len_frOf]
theorem take_len_map {α β:Type}(f:α→β)(xs:List α):(xs.map f).take xs.length=xs.map f:=List.take_of_length_le (by simp)
theorem window_full {α:Type}(f:α→List AV)(xs:List α):window (xs.map f) 0 xs.length=xs.map f:=window_all f xs
theorem fineLL_map {α:Type}(f:α→List AV)(h:∀x,fine.fineL (f x)=true)(xs:List α):fine.fineLL (xs.map f)=true:=by
 induction xs with
 | nil=>rfl
 | cons x r ih=>simp [fine.fineLL,ih,h]
theorem nudeLL_map {α:Type}(f:α→List AV)(h:∀x,nude.nudeL (f x)=true)(xs:List α):nude.nudeLL (xs.map f)=true:=by
 induction xs with
 | nil=>rfl
 | cons x r ih=>simp [nude.nudeLL,ih,h]
theorem ownLL_map {α:Type}(f:α→List AV)(h:∀x,ownOnlyL (f x)=true)(xs:List α):ownOnlyLL (xs.map f)=true:=by
 induction xs with
 | nil=>rfl
 | cons x r ih=>simp [ownOnlyLL,h]
def c3A (ok lf:Bool)(G:List AV→St→Option (AV×St))(r:Option (List AV×St)):Option (AV×St) :=
 match r with
 | none=>none
 | some (args1,S1) =>
  match mapO (givArg lf S1 (addArgs lf S1 [] args1)) args1,mapO (givOb S1 (addArgs lf S1 [] args1)) (addArgs lf S1 [] args1) with
  | some args2,some Sin =>
   match G args2 Sin with
   | none=>none
   | some (res,S') =>
    if (lentClean lf S1 args1&&(lentIds lf S1 args1).all (fun i=>!(addArgs lf S1 [] args1).contains i)) &&
     ((ok&&noLent lf args1&&args2.all fine&&Sin.all fineOb)||(nude res&&S'.all nudeOb)) then
     some (renA (backId (addArgs lf S1 [] args1) S1.length) res,backAll S1 (addArgs lf S1 [] args1) S')
    else none
  | _,_=>none
def c3B (ok lf:Bool)(G:List AV→St→Option (AV×St))(args1:List AV)(S1:St)(ids:List Nat):Option (AV×St) :=
    match mapO (givArg lf S1 ids) args1,mapO (givOb S1 ids) ids with
    | some args2,some Sin =>
     match G args2 Sin with
     | none=>none
     | some (res,S') =>
      if (lentClean lf S1 args1&&(lentIds lf S1 args1).all (fun i=>!ids.contains i)) &&
       ((ok&&noLent lf args1&&args2.all fine&&Sin.all fineOb)||(nude res&&S'.all nudeOb)) then
       some (renA (backId ids S1.length) res,backAll S1 ids S')
      else none
    | _,_=>none
def c3D (ok lf:Bool)(args1:List AV)(S1:St)(ids:List Nat)(args2:List AV)(Sin:St)(r:Option (AV×St)):Option (AV×St) :=
 match r with
 | none=>none
 | some (res,S') =>
  if (lentClean lf S1 args1&&(lentIds lf S1 args1).all (fun i=>!ids.contains i)) &&
   ((ok&&noLent lf args1&&args2.all fine&&Sin.all fineOb)||(nude res&&S'.all nudeOb)) then
   some (renA (backId ids S1.length) res,backAll S1 ids S')
  else none
def c3C (ok lf:Bool)(G:List AV→St→Option (AV×St))(args1:List AV)(S1:St)(ids:List Nat)(a:Option (List AV))(b:Option St):Option (AV×St) :=
 match a,b with
 | some args2,some Sin=>c3D ok lf args1 S1 ids args2 Sin (G args2 Sin)
 | _,_=>none
theorem evCall3_g {T:Tab}{F:Nat→List AV→St→Option (AV×St)}{f:Nat}{fi:FnI}(h:T.fn f=some fi)(hk:fi.kind=3)(hs:¬(fi.soft=true∧T.soft=false))(args:List AV)(S:St):evCall T F f args S=c3A (fi.soft==T.soft) fi.lf (F f) (rawAll S fi.pes args):=by
 simp only [evCall,h,hk,if_neg hs];rfl
theorem evCallS {T:Tab}{F:Nat→List AV→St→Option (AV×St)}{f:Nat}{fi:FnI}(h:T.fn f=some fi)(hk:fi.kind=6)(args:List AV)(S:St):evCall T F f args S=evSort T F fi.given args S:=by
 simp only [evCall,h,hk]
theorem evCallC {T:Tab}{F:Nat→List AV→St→Option (AV×St)}{f:Nat}{fi:FnI}(h:T.fn f=some fi)(hk:fi.kind=7)(args:List AV)(S:St):evCall T F f args S=evColl T fi.given fi.vfn args S:=by
 simp only [evCall,h,hk]
theorem evCallV {T:Tab}{F:Nat→List AV→St→Option (AV×St)}{f:Nat}{fi:FnI}(h:T.fn f=some fi)(hk:fi.kind=8)(args:List AV)(S:St):evCall T F f args S=evVals T fi.given fi.vfn args S:=by
 simp only [evCall,h,hk]
theorem evColl_at {T:Tab}{t:Nat}{te:TyI}(hte:T.elemOf t=some te)(hag:te.agg=true)(hs:te.size≤1024)(v sz:Nat)(hsz:sz=te.size)(els:List (List AV))(S:St) :
    evColl T t v [.fn v [.tp .imm 1 [[.ts .imm sz els]] 0 0]] S=if els.length≤68719476736 then some (.sl S.length 0 els.length,S++[some ⟨.arr,sz,els.map (fun x=>x.map (setTop .imm))⟩]) else none:=by
 subst hsz;simp only [evColl,hte]
 by_cases c:els.length≤68719476736
 · rw [if_pos c,if_pos ⟨trivial,trivial,hag,hs,c⟩]
 · rw [if_neg c,if_neg (fun k=>c k.2.2.2.2)]
theorem evVals_at {T:Tab}{t:Nat}{te:TyI}(hte:T.elemOf t=some te)(v:Nat)(x:AV)(S:St):evVals T t v [x] S=if isSl x=true then some (.fn v [.ptr S.length 0 0],S++[some ⟨.box,1,[[x]]⟩]) else none:=by
 simp only [evVals,hte]
def insD (sz:Nat)(n m:Nat)(i:Int)(els vels:List (List AV))(id vid:Nat)(S:St):Option (AV×St) :=
 if 0≤i∧i≤(n:Int)∧n+m≤maxRow then some (.sl S.length 0 (n+m),(S.set vid none).set id none++[some ⟨.arr,sz,els.take i.toNat++vels++els.drop i.toNat⟩]) else none
theorem c3A_some (ok lf:Bool)(G:List AV→St→Option (AV×St))(args1:List AV)(S1:St):c3A ok lf G (some (args1,S1))=c3B ok lf G args1 S1 (addArgs lf S1 [] args1):=rfl
theorem c3B_eq (ok lf:Bool)(G:List AV→St→Option (AV×St))(args1:List AV)(S1:St)(ids:List Nat):c3B ok lf G args1 S1 ids=c3C ok lf G args1 S1 ids (mapO (givArg lf S1 ids) args1) (mapO (givOb S1 ids) ids):=by
 unfold c3B c3C
 cases mapO (givArg lf S1 ids) args1 with
 | none=>rfl
 | some a=>cases mapO (givOb S1 ids) ids<;>rfl
theorem c3C_some (ok lf:Bool)(G:List AV→St→Option (AV×St))(args1:List AV)(S1:St)(ids:List Nat)(a:List AV)(b:St):c3C ok lf G args1 S1 ids (some a) (some b)=c3D ok lf args1 S1 ids a b (G a b):=rfl
theorem c3D_some (ok lf:Bool)(args1:List AV)(S1:St)(ids:List Nat)(a:List AV)(b:St)(res:AV)(S':St):c3D ok lf args1 S1 ids a b (some (res,S'))=if (lentClean lf S1 args1&&(lentIds lf S1 args1).all (fun i=>!ids.contains i)) &&
      ((ok&&noLent lf args1&&a.all fine&&b.all fineOb)||(nude res&&S'.all nudeOb)) then some (renA (backId ids S1.length) res,backAll S1 ids S') else none:=rfl
def bakC (b:Bool)(res:AV):AV :=
 match b with
 | true=>res
 | false=>weak res
def afterT (sf:Bool)(S:St)(args:List AV)(r:Option (AV×St)):Option (AV×St) :=
 match r with
 | none=>none
 | some (res,S')=>if S'.length=0 then some ((if args.all (cleanArg S)=true then res else weak res),kill S (args.flatMap (idsDeep S))) else if args.all (cleanArg S)=true∧sf=false then some (rebaseTop 0 S.length res,kill S (args.flatMap (idsDeep S))++S') else none
def treeC (sf:Bool)(F:List AV→St→Option (AV×St))(S:St)(args:List AV)(l:Option (List AV)):Option (AV×St) :=
 match l with
 | none=>none
 | some args'=>afterT sf S args (F args' [])
theorem treeC_some (sf:Bool)(F:List AV→St→Option (AV×St))(S:St)(args l:List AV):treeC sf F S args (some l)=afterT sf S args (F l []):=rfl
theorem afterT_nil (sf:Bool)(S:St)(args:List AV)(res:AV):afterT sf S args (some (res,[]))=some (bakC (args.all (cleanArg S)) res,kill S (args.flatMap (idsDeep S))):=by
 simp only [afterT,List.length_nil,if_true,bakC]
 cases args.all (cleanArg S)<;>rfl
theorem bakC_t (res:AV):bakC true res=res:=rfl
theorem bakC_f (res:AV):bakC false res=weak res:=rfl
theorem evCallT {T:Tab}{F:Nat→List AV→St→Option (AV×St)}{f:Nat}{fi:FnI}(h:T.fn f=some fi)(hk:fi.kind=0)(ht:fi.tree=true)(hs:fi.soft=false)(args:List AV)(S:St) :
    evCall T F f args S=treeC T.soft (F f) S args (lendAll S fi.pes args):=by
 simp only [evCall,h,hk,ht,hs,treeC,Bool.false_eq_true,if_false,if_true]
 cases lendAll S fi.pes args with
 | none=>rfl
 | some a=>simp only [afterT];cases F f a [] with
  | none=>rfl
  | some p=>rfl
theorem weak_tup (vs:List AV):weak (.tup vs)=.tup (vs.map weak1):=rfl
theorem weak_ts (q:Ql)(sz:Nat)(els:List (List AV)):weak (.ts q sz els)=.ts .bor sz (setQLL .bor els):=rfl
theorem weak_tp (q:Ql)(sz i j:Nat)(els:List (List AV)):weak (.tp q sz els i j)=.tp .bor sz (setQLL .bor els) i j:=rfl
theorem weak_agg (cs:List AV):weak (.agg cs)=.agg (cs.map (setQ .bor)):=rfl
theorem weak1_int (k:IntKind)(n:Int):weak1 (.int k n)=.int k n:=rfl
theorem weak1_bool (b:Bool):weak1 (.bool b)=.bool b:=rfl
theorem weak1_str (b:ByteArray):weak1 (.str b)=.str b:=rfl
theorem weak1_ts (q:Ql)(sz:Nat)(els:List (List AV)):weak1 (.ts q sz els)=.ts .bor sz (setQLL .bor els):=rfl
theorem weak1_tp (q:Ql)(sz i j:Nat)(els:List (List AV)):weak1 (.tp q sz els i j)=.tp .bor sz (setQLL .bor els) i j:=rfl
theorem weak1_agg (cs:List AV):weak1 (.agg cs)=.agg (cs.map (setQ .bor)):=rfl
theorem strong_tup (vs:List AV):strong (.tup vs)=.tup (vs.map strong1):=rfl
theorem strong_ts (q:Ql)(sz:Nat)(els:List (List AV)):strong (.ts q sz els)=.ts .imm sz (setQLL .imm els):=rfl
theorem strong_tp (q:Ql)(sz i j:Nat)(els:List (List AV)):strong (.tp q sz els i j)=.tp .imm sz (setQLL .imm els) i j:=rfl
theorem strong_agg (cs:List AV):strong (.agg cs)=.agg (cs.map (setQ .imm)):=rfl
theorem strong1_int (k:IntKind)(n:Int):strong1 (.int k n)=.int k n:=rfl
theorem strong1_bool (b:Bool):strong1 (.bool b)=.bool b:=rfl
theorem strong1_str (b:ByteArray):strong1 (.str b)=.str b:=rfl
theorem strong1_ts (q:Ql)(sz:Nat)(els:List (List AV)):strong1 (.ts q sz els)=.ts .imm sz (setQLL .imm els):=rfl
theorem strong1_tp (q:Ql)(sz i j:Nat)(els:List (List AV)):strong1 (.tp q sz els i j)=.tp .imm sz (setQLL .imm els) i j:=rfl
theorem strong1_agg (cs:List AV):strong1 (.agg cs)=.agg (cs.map (setQ .imm)):=rfl
theorem setQ_tp' (q q0:Ql)(sz i j:Nat)(els:List (List AV)):setQ q (.tp q0 sz els i j)=.tp q sz (setQLL q els) i j:=rfl
theorem setQ_nilp (q:Ql):setQ q .nilp=.nilp:=rfl
end Go.Pi

namespace Go.Pi
open Go
theorem idx_row {α:Type}(f:α→List AV){xs:List α}{i:Int}{x:α}(h:idx xs i=some x):0≤i∧i<xs.length∧(xs.map f)[i.toNat]?=some (f x):=by
 obtain ⟨h1,h2,h3⟩:=idx_some h
 exact ⟨h1,h2,by rw [List.getElem?_map,h3];rfl⟩
theorem g_bne (a b:Nat):(a != b)=!(a==b):=rfl
attribute [go_sem] g_bne List.any_cons List.any_nil
attribute [go_sem] treeC_some afterT_nil bakC_t bakC_f cleanArg weak_tup weak_ts weak_tp weak_agg weak1_int weak1_bool weak1_str weak1_ts weak1_tp weak1_agg strong_tup strong_ts strong_tp strong_agg strong1_int strong1_bool strong1_str strong1_ts strong1_tp strong1_agg setQ_tp' setQ_nilp
theorem gll_nil (q:Ql):setQLL q []=[]:=rfl
theorem gll_cons (q:Ql)(c:List AV)(r:List (List AV)):setQLL q (c::r)=setQL q c::setQLL q r:=rfl
attribute [go_sem] gll_nil gll_cons ownOnly ownOnlyL ownOnlyLL fine fine.fineL fine.fineLL nude nude.nudeL nude.nudeLL fineOb nudeOb
attribute [go_sem] c3A_some c3B_eq c3C_some c3D_some addArgs addArg addPtrs addPtr addCells addCell addId posOf rnC givArg givOb capsOf lentIds lentClean noLent backId backAll setMany renA renL renOb
theorem take_of_len_map {α β:Type}{xs:List α}{n:Nat}(h:xs.length=n)(f:α→β):(xs.map f).take n=xs.map f:=List.take_of_length_le (by simp [h])
theorem g_set_get {α:Type}(l:List α)(i:Nat)(a:α):(l.set i a)[i]?=match l[i]? with | some _=>some a | none=>none:=by
 cases h:l[i]? with
 | none=>simp only [List.getElem?_eq_none_iff] at h;simp only [List.getElem?_eq_none_iff,List.length_set];exact h
 | some x=>obtain ⟨h1,_⟩:=List.getElem?_eq_some_iff.1 h;rw [List.getElem?_set_self h1]
theorem take_len_le {α:Type}{xs:List α}{n:Nat}(h:n≤xs.length):(xs.take n).length=n:=by rw [List.length_take];omega
theorem len_take_map {α β:Type}(f:α→β)(xs:List α)(n:Nat):((xs.map f).take n).length=(xs.take n).length:=by simp only [List.length_take,List.length_map]
theorem len_win_map {α β:Type}(f:α→β)(xs:List α)(k n:Nat):(((xs.map f).drop k).take n).length=((xs.drop k).take n).length:=by simp only [List.length_take,List.length_drop,List.length_map]
attribute [go_sem] len_take_map len_win_map List.size_toArray g_set_get List.set_set take_len_le List.length_drop
theorem fine_all:∀l:List (List AV),fine.fineLL l=l.all fine.fineL
 | []=>rfl
 | c::r=>by simp only [fine.fineLL,List.all_cons,fine_all r]
theorem fine_take {l:List (List AV)}(h:fine.fineLL l=true)(k:Nat):fine.fineLL (l.take k)=true:=by rw [fine_all,List.all_eq_true] at h ⊢;exact fun x hx=>h x (List.mem_of_mem_take hx)
theorem fine_drop {l:List (List AV)}(h:fine.fineLL l=true)(k:Nat):fine.fineLL (l.drop k)=true:=by rw [fine_all,List.all_eq_true] at h ⊢;exact fun x hx=>h x (List.mem_of_mem_drop hx)
theorem fine_app (a b:List (List AV)):fine.fineLL (a++b)=(fine.fineLL a&&fine.fineLL b):=by simp only [fine_all,List.all_append]
theorem fine_set {l:List (List AV)}(h:fine.fineLL l=true){x:List AV}(hx:fine.fineL x=true)(k:Nat):fine.fineLL (l.set k x)=true:=by
 rw [fine_all,List.all_eq_true] at h ⊢;intro y hy
 rcases List.mem_or_eq_of_mem_set hy with hy|rfl
 · exact h y hy
 · exact hx
theorem fine_rep {x:List AV}(hx:fine.fineL x=true)(k:Nat):fine.fineLL (List.replicate k x)=true:=by
 rw [fine_all,List.all_eq_true];intro y hy;rw [(List.mem_replicate.1 hy).2];exact hx
theorem nude_all:∀l:List (List AV),nude.nudeLL l=l.all nude.nudeL
 | []=>rfl
 | c::r=>by simp only [nude.nudeLL,List.all_cons,nude_all r]
theorem nude_take {l:List (List AV)}(h:nude.nudeLL l=true)(k:Nat):nude.nudeLL (l.take k)=true:=by rw [nude_all,List.all_eq_true] at h ⊢;exact fun x hx=>h x (List.mem_of_mem_take hx)
theorem nude_drop {l:List (List AV)}(h:nude.nudeLL l=true)(k:Nat):nude.nudeLL (l.drop k)=true:=by rw [nude_all,List.all_eq_true] at h ⊢;exact fun x hx=>h x (List.mem_of_mem_drop hx)
theorem nude_app (a b:List (List AV)):nude.nudeLL (a++b)=(nude.nudeLL a&&nude.nudeLL b):=by simp only [nude_all,List.all_append]
theorem nude_set {l:List (List AV)}(h:nude.nudeLL l=true){x:List AV}(hx:nude.nudeL x=true)(k:Nat):nude.nudeLL (l.set k x)=true:=by
 rw [nude_all,List.all_eq_true] at h ⊢;intro y hy
 rcases List.mem_or_eq_of_mem_set hy with hy|rfl
 · exact h y hy
 · exact hx
theorem nude_rep {x:List AV}(hx:nude.nudeL x=true)(k:Nat):nude.nudeLL (List.replicate k x)=true:=by
 rw [nude_all,List.all_eq_true];intro y hy;rw [(List.mem_replicate.1 hy).2];exact hx
theorem own_all:∀l:List (List AV),ownOnlyLL l=l.all ownOnlyL
 | []=>rfl
 | c::r=>by simp only [ownOnlyLL,List.all_cons,own_all r]
theorem own_take {l:List (List AV)}(h:ownOnlyLL l=true)(k:Nat):ownOnlyLL (l.take k)=true:=by rw [own_all,List.all_eq_true] at h ⊢;exact fun x hx=>h x (List.mem_of_mem_take hx)
theorem own_drop {l:List (List AV)}(h:ownOnlyLL l=true)(k:Nat):ownOnlyLL (l.drop k)=true:=by rw [own_all,List.all_eq_true] at h ⊢;exact fun x hx=>h x (List.mem_of_mem_drop hx)
theorem own_app (a b:List (List AV)):ownOnlyLL (a++b)=(ownOnlyLL a&&ownOnlyLL b):=by simp only [own_all,List.all_append]
theorem own_set {l:List (List AV)}(h:ownOnlyLL l=true){x:List AV}(hx:ownOnlyL x=true)(k:Nat):ownOnlyLL (l.set k x)=true:=by
 rw [own_all,List.all_eq_true] at h ⊢;intro y hy
 rcases List.mem_or_eq_of_mem_set hy with hy|rfl
 · exact h y hy
 · exact hx
theorem own_rep {x:List AV}(hx:ownOnlyL x=true)(k:Nat):ownOnlyLL (List.replicate k x)=true:=by
 rw [own_all,List.all_eq_true];intro y hy;rw [(List.mem_replicate.1 hy).2];exact hx
theorem gsq_map (q:Ql):∀l:List (List AV),setQLL q l=l.map (setQL q)
 | []=>rfl
 | c::r=>by simp only [gll_cons,List.map_cons,gsq_map q r]
theorem gsq_take (q:Ql)(l:List (List AV))(k:Nat):setQLL q (l.take k)=(setQLL q l).take k:=by rw [gsq_map,gsq_map,List.map_take]
theorem gsq_drop (q:Ql)(l:List (List AV))(k:Nat):setQLL q (l.drop k)=(setQLL q l).drop k:=by rw [gsq_map,gsq_map,List.map_drop]
theorem gsq_app (q:Ql)(a b:List (List AV)):setQLL q (a++b)=setQLL q a++setQLL q b:=by simp only [gsq_map,List.map_append]
theorem gsq_set (q:Ql)(l:List (List AV))(k:Nat)(x:List AV):setQLL q (l.set k x)=(setQLL q l).set k (setQL q x):=by simp only [gsq_map,List.map_set]
theorem gsq_rep (q:Ql)(k:Nat)(x:List AV):setQLL q (List.replicate k x)=List.replicate k (setQL q x):=by simp only [gsq_map,List.map_replicate]
attribute [go_sem] fine_take fine_drop fine_app fine_set fine_rep nude_take nude_drop nude_app nude_set nude_rep own_take own_drop own_app own_set own_rep gsq_take gsq_drop gsq_app gsq_set gsq_rep
theorem mapO_up {α β γ:Type}{f:α→Option γ}{g:β→Option γ}(e:α→β):∀ {l:List α} {r:List γ},(∀a∈l,∀c,f a=some c→g (e a)=some c)→mapO f l=some r→mapO g (l.map e)=some r:=by
 intro l
 induction l with
 | nil=>intro r _ h;simpa [mapO] using h
 | cons a l ih =>
  intro r H h;simp only [mapO] at h;split at h
  · cases h
  rename_i b hb
  split at h<;>cases h
  rename_i bs hbs
  simp only [List.map_cons,mapO,H a (by simp) b hb,ih (fun a ha=>H a (by simp [ha])) hbs]
theorem srt_row {α:Type}[Inhabited α](enc:α→List AV){c:α→α→Option Int}{c':List AV→List AV→Option Int}{xs ys:List α}(hc:∀a b k,c a b=some k→c' (enc a) (enc b)=some k)(h:srtP c xs=some ys) :
    sortO [] c' (xs.map enc)=some (ys.map enc)∧ys.length=xs.length∧xs.length≤68719476736:=by
 unfold srtP at h;obtain ⟨g,h⟩:=ck_some h;unfold sortO at h ⊢;split at h
 · cases h
 rename_i t ht
 have h1:tabO c' (xs.map enc)=some t:=mapO_up enc (fun a _ r hr=>mapO_up enc (fun b _ k hk=>hc a b k hk) hr) ht
 rw [h1];split at h
 rotate_left
 · cases h
 rename_i ho
 injection h with h
 simp only [List.length_map];rw [if_pos ho]
 have hm:∀i∈ordIdx xs.length (tabLt t),i<xs.length:=fun i hi=>by
  have:=(List.mergeSort_perm _ _).mem_iff.1 hi;simpa using this
 refine ⟨?_,?_,g⟩
 · rw [←h,List.map_map]
   congr 1
   apply List.map_congr_left
   intro i hi;have:=hm i hi;simp [List.getD_eq_getElem?_getD,this]
 · rw [←h,List.length_map];have:(ordIdx xs.length (tabLt t)).Perm (List.range xs.length):=List.mergeSort_perm _ _;rw [this.length_eq,List.length_range]
def srtF (id:Nat)(S:St)(ob:Ob):Option (List (List AV))→Option (AV×St)
 | some els=>some (.tup [],S.set id (some { ob with els:=els }))
 | none=>none
theorem srtF_some (id:Nat)(S:St)(ob:Ob)(els:List (List AV)):srtF id S ob (some els)=some (.tup [],S.set id (some { ob with els:=els })):=rfl
def srtC (F:Nat→List AV→St→Option (AV×St))(g:Nat)(ag:Bool)(sz id n:Nat)(S:St)(ids:List Nat):Option Ob→Option (List AV)→Option (AV×St)
 | some ob,some caps'=>if ob.sz=sz∧n=ob.els.length∧n≤68719476736∧id∉ids then srtF id S ob (sortO [] (cmpAt F g caps' ag) ob.els) else none
 | _,_=>none
theorem srtC_some (F:Nat→List AV→St→Option (AV×St))(g:Nat)(ag:Bool)(sz id n:Nat)(S:St)(ids:List Nat)(ob:Ob)(caps':List AV):srtC F g ag sz id n S ids (some ob) (some caps')=if ob.sz=sz∧n=ob.els.length∧n≤68719476736∧id∉ids then srtF id S ob (sortO [] (cmpAt F g caps' ag) ob.els) else none:=rfl
theorem evSort_at {T:Tab}{F:Nat→List AV→St→Option (AV×St)}{t:Nat}{te:TyI}(hte:T.elemOf t=some te){g:Nat}{gi:FnI}(hg:T.fn g=some gi)(hk:gi.kind=0)(hs:gi.soft=false)(hsf:T.soft=false)(id n:Nat)(caps:List AV)(S:St) :
    evSort T F t [.sl id 0 n,.fn g caps] S=srtC F g te.agg te.size id n S (idsDeep S (.fn g caps)) (isRow S id) (mapO (lendPtr S) caps):=by
 simp only [evSort,hte,hg]
 cases h1:isRow S id with
 | none=>simp [srtC]
 | some ob=>cases h2:mapO (lendPtr S) caps with
  | none=>simp [srtC]
  | some caps' =>
   simp only [srtC]
   by_cases c:ob.sz=te.size∧n=ob.els.length∧n≤68719476736∧id∉idsDeep S (.fn g caps)
   · rw [if_pos c,if_pos ⟨hk,hs,hsf,c⟩];unfold srtF
     cases sortO [] (cmpAt F g caps' te.agg) ob.els<;>rfl
   · rw [if_neg c,if_neg (fun k=>c k.2.2.2)]
attribute [go_sem] evDel srtC_some srtF_some idsDeep idsOf idsCell
theorem bcall {α β:Type}{m:Option α}{k:α→Option β}{z:β}{Q:α→Prop}(e:∀r,m=some r→Q r)(h:bnd m k=some z):∃r,Q r∧k r=some z:=by
 obtain ⟨r,q,h⟩:=bnd_some h;exact ⟨r,e r q,h⟩
theorem bidx {α β:Type}(f:α→List AV){xs:List α}{i:Int}{k:α→Option β}{z:β}(h:bnd (idx xs i) k=some z):∃x,0≤i∧i<(xs.length:Int)∧(xs.map f)[i.toNat]?=some (f x)∧k x=some z:=by
 obtain ⟨x,q,h⟩:=bnd_some h;obtain ⟨a,b,c⟩:=idx_row f q;exact ⟨x,a,b,c,h⟩
theorem brx {α:Type}{b:Bool}{x y:Option α}{r:α}(h:br b x y=some r):(b=false∧y=some r)∨(b=true∧x=some r):=by
 cases b
 · exact .inl ⟨rfl,h⟩
 · exact .inr ⟨rfl,h⟩
theorem ql_own:(Ql.own==Ql.own)=true:=rfl
theorem take_all {α:Type}{xs:List α}{n:Nat}(h:xs.length=n):xs.take n=xs:=by subst h;exact List.take_of_length_le (Nat.le_refl _)
attribute [go_sem] ql_own take_all
@[go_sem] theorem one_len {α:Type}(xs:List α):1+xs.length=xs.length+1:=Nat.add_comm _ _
theorem g_wrapn (k:IntKind)(n:Int):k.wrap n=wcv k n:=rfl
attribute [go_sem] cleanPtr cleanCell idsDeep idsOf idsCell List.all_append List.flatMap evCL_amb ambL_some ambD_some ambE_some g_ambAt ambWay_nil ambWay_cons both_self both_false evClear evCopy
attribute [go_sem] g_wrapn Option.isSome_some List.isEmpty_nil List.isEmpty_cons
attribute [go_sem] ctlX_nxt ctlX_out andThen_none andThen_go andThen_ret andThen_exit inBlock_none inBlock_go inBlock_ret inBlock_exit norm_none norm_ok close_go close_ret evCL_cond1 pickC_true pickC_false bindO_none bindO_sm bindO_n evOps_nil evOps_go
attribute [go_sem] consT_none consT_some bindT_none bindT_some trc_nil trc_go trc_gate gateT_tt gateT_ff gateT_tf gateT_ft gateT_un evOpX_none evOpX_some evAt_eq evFx_eq fxA_some fxB_some fxC_some evCL_fx1 moreSts_nil moreSts_cons moreC_some chkAt_nil chkAt_cons chkC_some stepAt_eq stepC_some
attribute [go_sem] frOf_set frOf_getD frOf_get
attribute [go_sem] evOps_gate gate_tt gate_ff gate_tf gate_ft gate_un put_sm put_no upd_same upd_at ini_nil ini_zero ini_succ evO_tmp notAny_int notAny_bool notAny_str notAny_nil notAny_nilp notAny_fn notAny_agg notAny_tup notAny_sl notAny_ptr notAny_ts notAny_tp evO_const evO_func
attribute [go_sem] g_add g_sub g_mul g_quo g_rem g_and g_or g_xor g_andNot g_shl g_shr g_shl2 g_shr2 eqcO_some eqc_nil eqc_int eqc_bool eqc_str eqaO_eql eqaO_neq eqtO_some g_eqa g_eql g_neq g_lss g_leq g_gtr g_geq g_beql g_bneq g_int g_str g_not g_neg g_min g_max g_convert cvO
attribute [go_sem] getOb_nil getOb_zero getOb_succ setQL_nil setQL_cons setQ_int setQ_bool setQ_str setQ_ts window window_full window_zero window_nil
attribute [go_sem] lendC_some afterC_int afterC_bool afterC_str afterC_sl afterC_agg afterC_tup lendZ_some afterZ_int afterZ_bool afterZ_str bindZ_some bindZt_some afterZ_sl afterZ_agg afterZ_tup
attribute [go_sem] g_rep g_pre g_post tidy_a tidy_z tidy_c frzC_some frzS_some evFrt evFrz tdJ_some tdA_some rsOf_old rsOf_winT rsOf_nilT rsOf_nilB rsOf_winB winG_some winRs_sl cellAt_agg cellAt_fn cellAt_sl tdFr_nil tdFr_cons tdN_some tdAg_some tdFn_some tdV_agg tdV_fn tdV_int tdV_bool tdV_str tdV_nil tdV_nilp tdV_sl tdV_ptr tdV_ts tdV_tp tdV_undef tdV_any
attribute [go_sem] tdC_int tdC_bool tdC_str tdC_nilp tdC_ts tdC_tp tdC_fn nilO_some nilO_none tdC_nil slO_some tdC_sl ptrO_some tdC_ptr tdL_nil tdL_cons rsSl_row rsSl_nil rsPtr_row rsPtr_nil nilAt_nil nilAt_T nilAt_B nilAt_old nilAt_wT nilAt_wB tdEls_nil tdEls_cons obO_some tdOb_box tdOb_arr tdOb_lit lowO_some someO_some lowB_none lowB_some tdLow_zero tdLow_succ tdHigh_nil tdHigh_fresh cutO_none cutO_some highO_some tdHigh_row rsOk_nil rsOk_fresh rsFree_nil rsFree_row rsFree_fresh rsOk_row'
attribute [go_sem] consO_some mapO_nil mapO_cons take_len_map
attribute [go_sem] isSl viewTop evCL_seq evCL_reg evCL_fz evCL_skip evCL_ret evCL_exit evCL_block evOp ofVal finish outs outV outCell outL tupOf rebaseTop rebase rebaseCell evArgs evBuiltin evLen isRow evLoad evStore absorb absorbL setTop AV.cells AV.isCell splice zeroRow evParts fillAgg fillRow evOpt bounds evAppend evIns sourceOf sourceView lend lend1 lendL lendAll lendPtr lendCell kill foldO maxRow rawAll plainOuts atC preSts want
attribute [go_sem] if_true if_false eq_self and_self and_true true_and and_false false_and or_self or_true true_or or_false false_or not_true_eq_false not_false_eq_true ne_eq decide_true decide_false Bool.and_true Bool.true_and Bool.and_false Bool.false_and Bool.or_true Bool.true_or Bool.or_false Bool.false_or Bool.not_true Bool.not_false Bool.false_eq_true Bool.and_self
attribute [go_sem] List.length_cons List.length_nil List.length_map List.length_append List.length_replicate List.length_set List.getElem?_cons_zero List.getElem?_cons_succ List.getElem?_nil List.getD_cons_zero List.getD_cons_succ List.getD_nil List.set_cons_zero List.set_cons_succ List.map_cons List.map_nil List.map_append List.map_set List.map_take List.map_drop List.map_replicate List.cons_append List.nil_append List.append_nil List.drop_zero List.drop_succ_cons List.drop_nil List.take_zero List.take_succ_cons List.take_nil List.mem_cons List.not_mem_nil List.contains_cons List.contains_nil List.all_cons List.all_nil List.flatMap_cons List.flatMap_nil List.flatten_cons List.flatten_nil List.replicate_succ List.replicate_zero
attribute [go_sem] Int.cast_ofNat_Int List.zip_cons_cons List.zip_nil_left List.zip_nil_right List.zipWith_cons_cons List.zipWith_nil_left List.zipWith_nil_right List.zip Nat.zero_add Nat.add_zero Nat.sub_zero Nat.le_refl Nat.zero_le Nat.zero_mul Int.toNat_natCast Option.some.injEq Prod.mk.injEq
def nestS (T:Tab)(C:Nat→List AV→St→Option (AV×St))(l:List PO)(k m:Nat)(fr:Fr):Option St→Option (Fr×St)
 | none=>none
 | some S4=>evOps T C (l.drop (k+1+m)) fr S4
def nestR (T:Tab)(C:Nat→List AV→St→Option (AV×St))(l:List PO)(k m:Nat)(q:Opn)(N:Nat):Option (Fr×St)→Option (Fr×St)
 | none=>none
 | some r=>nestS T C l k m r.1 (evShut q N r.2)
def nestQ (T:Tab)(C:Nat→List AV→St→Option (AV×St))(l:List PO)(k m d:Nat)(fr:Fr)(S:St):Option Opn→Option (Fr×St)
 | none=>none
 | some q=>nestR T C l k m q S.length (evOps T C ((l.drop (k+1)).take m) (fr.set d (.sl S.length 0 q.els.length)) (q.st S))
def nestP (T:Tab)(C:Nat→List AV→St→Option (AV×St))(l:List PO)(k m:Nat):Option (Fr×St)→Option (Nat×Nat×Nat)→Option (Fr×St)
 | some p,some u=>nestQ T C l k m u.1 p.1 p.2 (evOpen T u.2.1 (p.1.getD u.2.2 .undef) p.2)
 | _,_=>none
theorem evNest_eq (T:Tab)(C:Nat→List AV→St→Option (AV×St))(l:List PO)(k m:Nat)(fr:Fr)(S:St):evNest T C l k m fr S=nestP T C l k m (evOps T C (l.take k) fr S) (loadOf l[k]?):=by
 unfold evNest nestP
 cases evOps T C (l.take k) fr S with
 | none=>rfl
 | some p =>
  cases loadOf l[k]? with
  | none=>rfl
  | some u =>
   simp only
   cases evOpen T u.2.1 (p.1.getD u.2.2 .undef) p.2 with
   | none=>rfl
   | some q =>
    simp only [nestQ]
    cases evOps T C ((l.drop (k+1)).take m) (p.1.set u.1 (.sl p.2.length 0 q.els.length)) (q.st p.2) with
    | none=>rfl
    | some r =>
     simp only [nestR]
     cases evShut q p.2.length r.2<;>rfl
theorem nestP_some (T:Tab)(C:Nat→List AV→St→Option (AV×St))(l:List PO)(k m:Nat)(fr:Fr)(S:St)(d t x:Nat):nestP T C l k m (some (fr,S)) (some (d,t,x))=nestQ T C l k m d fr S (evOpen T t (fr.getD x .undef) S):=rfl
theorem nestQ_some (T:Tab)(C:Nat→List AV→St→Option (AV×St))(l:List PO)(k m d:Nat)(fr:Fr)(S:St)(q:Opn):nestQ T C l k m d fr S (some q)=nestR T C l k m q S.length (evOps T C ((l.drop (k+1)).take m) (fr.set d (.sl S.length 0 q.els.length)) (q.st S)):=rfl
theorem nestR_some (T:Tab)(C:Nat→List AV→St→Option (AV×St))(l:List PO)(k m:Nat)(q:Opn)(N:Nat)(fr:Fr)(S:St):nestR T C l k m q N (some (fr,S))=nestS T C l k m fr (evShut q N S):=rfl
theorem nestS_some (T:Tab)(C:Nat→List AV→St→Option (AV×St))(l:List PO)(k m:Nat)(fr:Fr)(S:St):nestS T C l k m fr (some S)=evOps T C (l.drop (k+1+m)) fr S:=rfl
theorem loadOf_some' (d t x:Nat):loadOf (some ⟨some d,.load t (.tmp x),none⟩)=some (d,t,x):=rfl
theorem at_ty (T:Tab)(b:Bool)(t:Nat):(T.at b).ty t=T.ty t:=rfl
theorem at_base (T:Tab)(b:Bool)(t:Nat):(T.at b).baseOf t=T.baseOf t:=rfl
theorem at_elem (T:Tab)(b:Bool)(t:Nat):(T.at b).elemOf t=T.elemOf t:=rfl
theorem at_soft (T:Tab)(b:Bool):(T.at b).soft=b:=rfl
attribute [go_sem] evCL_nest evNest_eq nestP_some nestQ_some nestR_some nestS_some loadOf_some' evOpen evShut Opn.st AV.ownTop at_ty at_base at_elem at_soft evFL_soft
theorem take_app1 {α β:Type}(f:α→β)(xs:List α)(a:β):List.take (xs.length+1) (xs.map f++[a])=xs.map f++[a]:=List.take_of_length_le (by simp)
theorem take_app2 {α β γ:Type}(f:α→β)(g:γ→β)(xs:List α)(ys:List γ):List.take (xs.length+ys.length) (xs.map f++ys.map g)=xs.map f++ys.map g:=List.take_of_length_le (by simp)
attribute [go_sem] take_app1 take_app2
abbrev nI (n:Int):AV:=.int .i64 n
attribute [go_sem] nI
abbrev pM (d s:Nat):PO:=⟨some d,.move (.tmp s),none⟩
abbrev pL (d t s:Nat):PO:=⟨some d,.load t (.tmp s),none⟩
abbrev pA (d s:Nat):PO:=⟨some d,.assign (.tmp s),none⟩
abbrev pF (d t s k:Nat):PO:=⟨some d,.fieldAddr t (.tmp s) k,none⟩
abbrev pN (d:Nat)(b:Bool):PO:=⟨some d,.assign (.const (.bool b)),none⟩
abbrev pE (d s t:Nat):PO:=⟨some d,.call { callee:=.builtin .len,args:=#[.tmp s],argTypes:=#[t] },none⟩
abbrev pC (d f x t:Nat):PO:=⟨some d,.call { callee:=.value (.func f),args:=#[.tmp x],argTypes:=#[t] },none⟩
abbrev pC2 (d f x y t u:Nat):PO:=⟨some d,.call { callee:=.value (.func f),args:=#[.tmp x,.tmp y],argTypes:=#[t,u] },none⟩
abbrev pC3 (d f x y z t u v:Nat):PO:=⟨some d,.call { callee:=.value (.func f),args:=#[.tmp x,.tmp y,.tmp z],argTypes:=#[t,u,v] },none⟩
abbrev pB (d:Nat)(o:BinOp)(t x:Nat)(c:Int)(u:Nat):PO:=⟨some d,.binOp o t (.tmp x) (.const (.int .i64 c)) u,none⟩
abbrev pO (d:Nat)(o:BinOp)(t x y u:Nat):PO:=⟨some d,.binOp o t (.tmp x) (.tmp y) u,none⟩
abbrev pX (d t s:Nat):PO:=⟨some d,.box t (.tmp s),none⟩
abbrev pI (d t x y:Nat):PO:=⟨some d,.indexAddr t (.tmp x) (.tmp y),none⟩
abbrev pK (d:Nat)(c:Int):PO:=⟨some d,.assign (.const (.int .i64 c)),none⟩
abbrev sq (a b:PC):PC:=.seq a b
abbrev cd (t:Nat)(a b:PC):PC:=.cond (.tmp t) a b
abbrev capOk (c:List AV):Prop:=(∀S,mapO (lendPtr S) c=some c)∧∀n0 src R tm t i,tdL n0 src R tm t i c=some c
abbrev pP (d x y:Nat):PO:=⟨some d,.pick (.tmp x) (.tmp y) (.const (.bool false)),none⟩
abbrev pQ (d x y:Nat):PO:=⟨some d,.pick (.tmp x) (.const (.bool true)) (.tmp y),none⟩
abbrev pG (d t:Nat):PO:=⟨some d,.alloc t,none⟩
abbrev pU (d t x:Nat):PO:=⟨some d,.unOp .not t (.tmp x),none⟩
abbrev pV (d:Nat)(c:Int):PO:=⟨some d,.move (.const (.int .i64 c)),none⟩
abbrev pT (d x k:Nat):PO:=⟨some d,.extract (.tmp x) k,none⟩
abbrev pJ (d x:Nat):PO:=⟨some d,.nilCheck (.tmp x),none⟩
abbrev pS (d:Nat):PO:=⟨some d,.assign (.const (.slice none 0 0)),none⟩
theorem wadd_pos {r:Int}(h0:0≤r)(h1:r≤68719476736):¬(wadd .i64 r 1).toNat=0:=by
 have:wadd .i64 r 1=r+1:=by
  unfold wadd;simp [IntKind.wrap,IntKind.bits,IntKind.signed];omega
 omega
end Go.Pi

namespace Go.Pi
open Go
@[simp] theorem bnd_ok {α β:Type}(x:α)(k:α→Option β):bnd (some x) k=k x:=rfl
@[simp] theorem br_true {α:Type}(x y:Option α):br true x y=x:=rfl
@[simp] theorem br_false {α:Type}(x y:Option α):br false x y=y:=rfl
@[simp] theorem br_same {α:Type}(b:Bool)(x:Option α):br b x x=x:=by cases b<;>rfl
@[simp] theorem br_not {α:Type}(b:Bool)(x y:Option α):br (!b) x y=br b y x:=by cases b<;>rfl
@[simp] theorem br_and (b c:Bool):br b (some c) (some false)=some (b&&c):=by cases b<;>rfl
@[simp] theorem br_or (b c:Bool):br b (some true) (some c)=some (b||c):=by cases b<;>rfl
@[simp] theorem br_andn (b c:Bool):br b (some false) (some c)=some (!b&&c):=by cases b<;>rfl
@[simp] theorem br_orn (b c:Bool):br b (some c) (some true)=some (!b||c):=by cases b<;>rfl
theorem br_some {α:Type}(b:Bool)(x y:α):br b (some x) (some y)=some (if b=true then x else y):=by cases b<;>rfl
theorem ite_bnot {α:Type}(b:Bool)(x y:α):(if (!b)=true then x else y)=if b=true then y else x:=by cases b<;>rfl
@[simp] theorem ck_ok {α:Type}{c:Prop}[Decidable c](h:c)(k:Option α):ck c k=k:=if_pos h
@[simp] theorem sel2_ok {α0 α1 γ:Type}(x0:α0)(x1:α1)(f:α0→α1→Option γ):sel2 (x0,x1) f=f x0 x1:=rfl
@[simp] theorem sel3_ok {α0 α1 α2 γ:Type}(x0:α0)(x1:α1)(x2:α2)(f:α0→α1→α2→Option γ):sel3 (x0,x1,x2) f=f x0 x1 x2:=rfl
@[simp] theorem sel4_ok {α0 α1 α2 α3 γ:Type}(x0:α0)(x1:α1)(x2:α2)(x3:α3)(f:α0→α1→α2→α3→Option γ):sel4 (x0,x1,x2,x3) f=f x0 x1 x2 x3:=rfl
@[simp] theorem sel5_ok {α0 α1 α2 α3 α4 γ:Type}(x0:α0)(x1:α1)(x2:α2)(x3:α3)(x4:α4)(f:α0→α1→α2→α3→α4→Option γ):sel5 (x0,x1,x2,x3,x4) f=f x0 x1 x2 x3 x4:=rfl
@[simp] theorem selS_inl {α β γ:Type}(x:α)(f:α→Option γ)(g:β→Option γ):selS (.inl x) f g=f x:=rfl
@[simp] theorem selS_inr {α β γ:Type}(y:β)(f:α→Option γ)(g:β→Option γ):selS (.inr y) f g=g y:=rfl
def Ans {α:Type}(P:α→Prop)(o:Option α):Prop:=∃r,o=some r∧P r
@[simp] theorem eqI_iff (a b:Int):eqI a b=true↔a=b:=by simp [eqI]
@[simp] theorem ltI_iff (a b:Int):ltI a b=true↔a<b:=by simp [ltI]
@[simp] theorem leI_iff (a b:Int):leI a b=true↔a≤b:=by simp [leI]
@[simp] theorem eqI_not (a b:Int):eqI a b=false↔¬a=b:=by simp [eqI]
@[simp] theorem ltI_not (a b:Int):ltI a b=false↔b≤a:=by simp [ltI]
@[simp] theorem leI_not (a b:Int):leI a b=false↔b<a:=by simp [leI]
@[simp] theorem eqI_self (a:Int):eqI a a=true:=by simp
@[simp] theorem eqB_iff (a b:Bool):eqB a b=true↔a=b:=by simp [eqB]
@[simp] theorem eqB_not (a b:Bool):eqB a b=false↔¬a=b:=by simp [eqB]
@[simp] theorem eqB_self (a:Bool):eqB a a=true:=by simp
theorem w64 {x:Int}(h1:-9223372036854775808≤x)(h2:x<9223372036854775808):IntKind.i64.wrap x=x:=by
 simp [IntKind.wrap,IntKind.bits,IntKind.signed];omega
theorem wadd64 {a b:Int}(h1:-9223372036854775808≤a+b)(h2:a+b≤9223372036854775807):wadd .i64 a b=a+b:=w64 h1 (by omega)
theorem wsub64 {a b:Int}(h1:-9223372036854775808≤a-b)(h2:a-b≤9223372036854775807):wsub .i64 a b=a-b:=w64 h1 (by omega)
theorem wsucc {i n:Nat}(h:i<n)(hn:n≤4611686018427387904):wadd .i64 (i:Int) 1=((i+1:Nat):Int):=by
 rw [wadd64 (by omega) (by omega)];omega
theorem wpred {i n:Nat}(h:i<n)(h0:0<i)(hn:n≤4611686018427387904):wsub .i64 (i:Int) 1=((i-1:Nat):Int):=by
 rw [wsub64 (by omega) (by omega)];omega
theorem idx_nat {α:Type}(xs:List α)(i:Nat):idx xs (i:Int)=xs[i]?:=by simp [idx]
theorem idx_get {α:Type}{xs:List α}{i:Nat}(h:i<xs.length):idx xs (i:Int)=some xs[i]:=by rw [idx_nat,List.getElem?_eq_getElem h]
theorem set_append_cons {α:Type}(l:List α)(x y:α)(r:List α):(l++x::r).set l.length y=l++y::r:=by
 induction l with
 | nil=>rfl
 | cons a l ih=>simp [ih]
theorem loopP_inv {σ β:Type}{body:σ→Option (Ctl σ β)}(I:σ→Prop)(Q:β→Prop)(v:σ→Nat)
    (h:∀s,I s→∃c,body s=some c∧(match c with | .out b=>Q b | .nxt s'=>I s'∧v s'<v s)):∀s,I s→∃b,loopP body s=some b∧Q b:=by
 intro s;generalize hn:v s=n
 induction n using Nat.strongRecOn generalizing s with
 | ind n ih =>
  intro hI;obtain ⟨c,hc,hm⟩:=h s hI;rw [loopP_eq,hc]
  cases c with
  | out b=>exact ⟨b,rfl,hm⟩
  | nxt s'=>exact ih (v s') (by have:=hm.2;omega) s' rfl hm.1
theorem loopP_out {σ β:Type}{body:σ→Option (Ctl σ β)}{s:σ}{b:β}(h:body s=some (.out b)):loopP body s=some b:=by rw [loopP_eq,h];rfl
theorem loopP_nxt {σ β:Type}{body:σ→Option (Ctl σ β)}{s s':σ}(h:body s=some (.nxt s')):loopP body s=loopP body s':=by rw [loopP_eq,h];rfl
def scanN {β:Type}(g:Nat→Option β)(e:β):Nat→Nat→β
 | 0,_=>e
 | n+1,k=>match g k with
  | some b=>b
  | none=>scanN g e n (k+1)
theorem loop_scan {β:Type}{body:Int→Option (Ctl Int β)}(g:Nat→Option β)(e:β)(N:Nat)
    (hs:∀k,k<N→body (k:Int)=some (match g k with | some b=>.out b | none=>.nxt ((k+1:Nat):Int))) (he:body (N:Int)=some (.out e)) :
    ∀k,k≤N→loopP body (k:Int)=some (scanN g e (N-k) k):=by
 intro k hk;generalize hn:N-k=n
 induction n generalizing k with
 | zero =>
  obtain rfl:k=N:=by omega
  rw [loopP_out he];rfl
 | succ n ih =>
  have hb:=hs k (by omega)
  simp only [scanN]
  cases hg:g k with
  | some b=>rw [hg] at hb;exact loopP_out hb
  | none=>rw [hg] at hb;rw [loopP_nxt hb];exact ih (k+1) (by omega) (by omega)
theorem scanN_list {α β:Type}(f:α→Option β)(e:β)(xs:List α):∀(n k:Nat),n+k=xs.length→scanN (fun i=>match xs[i]? with | some x=>f x | none=>none) e n k=((xs.drop k).findSome? f).getD e:=by
 intro n
 induction n with
 | zero=>intro k hk;rw [List.drop_eq_nil_of_le (by omega)];rfl
 | succ n ih =>
  intro k hk
  have hl:k<xs.length:=by omega
  simp only [scanN,List.getElem?_eq_getElem hl];rw [List.drop_eq_getElem_cons hl,List.findSome?_cons]
  cases f xs[k] with
  | some b=>rfl
  | none=>exact ih (k+1) (by omega)
theorem loop_find {α β:Type}{body:Int→Option (Ctl Int β)}(xs:List α)(f:α→Option β)(e:β)
    (hs:∀(k:Nat) (h:k<xs.length),body (k:Int)=some (match f xs[k] with | some b=>.out b | none=>.nxt ((k+1:Nat):Int))) (he:body (xs.length:Int)=some (.out e)) :
    loopP body 0=some ((xs.findSome? f).getD e):=by
 have:=loop_scan (body:=body) (fun i=>match xs[i]? with | some x=>f x | none=>none) e xs.length (fun k hk=>by rw [hs k hk];simp only [List.getElem?_eq_getElem hk]) he 0 (Nat.zero_le _)
 rw [scanN_list f e xs (xs.length-0) 0 (by omega)] at this
 simpa using this
theorem loop_copy {α β:Type}{body:Int×List α→Option (Ctl (Int×List α) (List α))}(xs:List β)(f:β→α)
    (hs:∀(k:Nat) (h:k<xs.length) (a:List α),a.length=xs.length→body ((k:Int),a)=some (.nxt (((k+1:Nat):Int),a.set k (f xs[k])))) (he:∀a:List α,a.length=xs.length→body ((xs.length:Int),a)=some (.out a)) :
    ∀a:List α,a.length=xs.length→loopP body (0,a)=some (xs.map f):=by
 have key:∀(n k:Nat) (a:List α),n+k=xs.length→a.length=xs.length→loopP body ((k:Int),a)=some (a.take k++(xs.drop k).map f):=by
  intro n
  induction n with
  | zero =>
   intro k a hk ha
   obtain rfl:k=xs.length:=by omega
   rw [loopP_out (he a ha),List.drop_eq_nil_of_le (Nat.le_refl _),List.take_of_length_le (by omega)];simp
  | succ n ih =>
   intro k a hk ha
   have hl:k<xs.length:=by omega
   rw [loopP_nxt (hs k hl a ha),ih (k+1) _ (by omega) (by simpa using ha),List.drop_eq_getElem_cons hl]
   rw [List.take_add_one,List.take_set_of_le (Nat.le_refl _)]
   simp only [List.getElem?_set_self (show k<a.length by omega),Option.toList_some,List.append_assoc,List.cons_append,List.nil_append,List.map_cons]
 intro a ha
 have:=key xs.length 0 a (by omega) ha
 simpa using this
def SzOk {α:Type}(sm:α→Prop)(x:α)(l:Int)(o:Option Int):Prop:=∃v,o=some v∧-1≤v∧v≤l∧(0≤v→sm x)
theorem sz_flat {α:Type}(xs:List α)(l:Int)(hx:xs.length≤9223372036854775807)(h0:0≤l)(h1:l≤1048576) :
    SzOk (fun xs:List α=>xs.length≤1048576) xs l (br (ltI (wsub .i64 l (xs.length:Int)) 0) (some (-1)) (some (wsub .i64 l (xs.length:Int)))):=by
 rw [wsub64 (by omega) (by omega)]
 by_cases h:l-(xs.length:Int)<0
 · rw [(ltI_iff _ _).2 h];exact ⟨-1,rfl,by omega,by omega,by omega⟩
 · rw [(ltI_not _ _).2 (by omega)];exact ⟨_,rfl,by omega,by omega,fun _=>by omega⟩
theorem sz_slice {α:Type}{sm W:α→Prop}{m:α→Int→Option Int}(hm:∀y l,W y→0≤l→l≤1048576→SzOk sm y l (m y l))(xs:List α)(l:Int)(hx:xs.length≤9223372036854775807∧∀y∈xs,W y)(h0:0≤l)(h1:l≤1048576)
    {body:Int×Int→Option (Ctl (Int×Int) (Int ⊕ Unit))}
    (hb:∀p,body p=sel2 p fun s t=>br (ltI t (xs.length:Int)) (bnd (idx xs t) fun x=>bnd (m x s) fun r=>br (ltI r 0) (some (.out (.inr ()))) (some (.nxt (r,wadd .i64 t 1)))) (some (.out (.inl s)))) :
    SzOk (fun xs:List α=>xs.length≤1048576∧∀y∈xs,sm y) xs l (br (ltI (wsub .i64 l (xs.length:Int)) 0) (some (-1)) (bnd (loopP body (wsub .i64 l (xs.length:Int),0)) fun o=>selS o (fun v=>some v) (fun _=>some (-1)))):=by
 rw [wsub64 (by omega) (by omega)]
 by_cases h:l-(xs.length:Int)<0
 · rw [(ltI_iff _ _).2 h];exact ⟨-1,rfl,by omega,by omega,by omega⟩
 rw [(ltI_not _ _).2 (by omega),br_false]
 have key:=loopP_inv (body:=body) (fun p=>∃k:Nat,p.2=(k:Int)∧k≤xs.length∧0≤p.1∧p.1≤l∧∀i (hi:i<xs.length),i<k→sm xs[i])
  (fun o=>match o with | .inl v=>0≤v∧v≤l∧∀y∈xs,sm y | .inr _=>True) (fun p=>xs.length-p.2.toNat) ?_ (l-(xs.length:Int),0) ⟨0,rfl,Nat.zero_le _,by show 0≤l-(xs.length:Int);omega,by show l-(xs.length:Int)≤l;omega,fun i _ hi=>absurd hi (Nat.not_lt_zero i)⟩
 · obtain ⟨b,hb1,hb2⟩:=key;rw [hb1,bnd_ok]
   cases b with
   | inl v=>exact ⟨v,rfl,by have:=hb2.1;omega,by have:=hb2.2.1;omega,fun _=>⟨by omega,hb2.2.2⟩⟩
   | inr _=>exact ⟨-1,rfl,by omega,by omega,by omega⟩
 · rintro ⟨s,t⟩ ⟨k,rfl,hk,hs0,hs1,hsm⟩
   rw [hb,sel2_ok]
   by_cases hl:k<xs.length
   · rw [(ltI_iff _ _).2 (by omega),br_true,idx_get hl,bnd_ok]
     obtain ⟨v,e,v0,v1,v2⟩:=hm xs[k] s (hx.2 _ (List.getElem_mem hl)) hs0 (by simp only at hs1;omega)
     rw [e,bnd_ok]
     by_cases hv:v<0
     · rw [(ltI_iff _ _).2 hv];exact ⟨_,rfl,trivial⟩
     · rw [(ltI_not _ _).2 (by omega),br_false,wsucc hl (by omega)]
       refine ⟨_,rfl,⟨k+1,rfl,by omega,by show 0≤v;omega,by show v≤l;simp only at hs1;omega,fun i hi hik=>?_⟩,by simp only [Int.toNat_natCast];omega⟩
       by_cases hik2:i=k
       · subst hik2;exact v2 (by omega)
       · exact hsm i hi (by omega)
   · rw [(ltI_not _ _).2 (by omega),br_false]
     refine ⟨_,rfl,hs0,hs1,fun y hy=>?_⟩
     obtain ⟨i,hi,rfl⟩:=List.mem_iff_getElem.1 hy
     exact hsm i hi (by omega)
theorem to_flat {α:Type}(z:α)(xs:List α)(hx:xs.length≤1048576){body:Int×List α→Option (Ctl (Int×List α) (List α))}
    (hb:∀p,body p=sel2 p fun s t=>br (ltI s (xs.length:Int)) (bnd (idx xs s) fun x=>bnd (idx t s) fun _=>some (.nxt (wadd .i64 s 1,t.set s.toNat x))) (some (.out t))) :
    (ck (0≤(xs.length:Int)∧(xs.length:Int)≤(xs.length:Int)∧(xs.length:Int)≤68719476736) <| bnd (loopP body (0,List.replicate xs.length z)) fun v=>some v)=some xs:=by
 rw [ck_ok ⟨by omega,by omega,by omega⟩,loop_copy xs id (fun k h a ha=>?_) (fun a ha=>?_) _ (by simp)]
 · simp
 · rw [hb,sel2_ok,(ltI_iff _ _).2 (by omega),br_true,idx_get h,bnd_ok,idx_get (by omega),bnd_ok,wsucc h (by omega)];rfl
 · rw [hb,sel2_ok,(ltI_not _ _).2 (by omega),br_false]
theorem to_slice {α:Type}{sm:α→Prop}{m:α→Option α}(hm:∀y,sm y→m y=some y)(z:α)(xs:List α)(hx:xs.length≤1048576∧∀y∈xs,sm y){body:Int×List α→Option (Ctl (Int×List α) (List α))}
    (hb:∀p,body p=sel2 p fun s t=>br (ltI s (xs.length:Int)) (bnd (idx xs s) fun x=>bnd (m x) fun r=>bnd (idx t s) fun _=>some (.nxt (wadd .i64 s 1,t.set s.toNat r))) (some (.out t))) :
    (ck (0≤(xs.length:Int)∧(xs.length:Int)≤(xs.length:Int)∧(xs.length:Int)≤68719476736) <| bnd (loopP body (0,List.replicate xs.length z)) fun v=>some v)=some xs:=by
 rw [ck_ok ⟨by omega,by omega,by omega⟩,loop_copy xs id (fun k h a ha=>?_) (fun a ha=>?_) _ (by simp)]
 · simp
 · rw [hb,sel2_ok,(ltI_iff _ _).2 (by omega),br_true,idx_get h,bnd_ok,hm _ (hx.2 _ (List.getElem_mem h)),bnd_ok,idx_get (by omega),bnd_ok,wsucc h (by omega)];rfl
 · rw [hb,sel2_ok,(ltI_not _ _).2 (by omega),br_false]
theorem eq_flat {α:Type}(e:α→α→Bool)(he:∀y,e y y=true)(xs:List α)(hx:xs.length≤4611686018427387904){body:Int→Option (Ctl Int (Unit ⊕ Unit))}
    (hb:∀s,body s=br (ltI s (xs.length:Int)) (bnd (idx xs s) fun x=>bnd (idx xs s) fun y=>br (e x y) (some (.nxt (wadd .i64 s 1))) (some (.out (.inr ())))) (some (.out (.inl ())))) :
    br (eqI (xs.length:Int) (xs.length:Int)) (bnd (loopP body 0) fun o=>selS o (fun _=>some true) (fun _=>some false)) (some false)=some true:=by
 have e1:loopP body 0=some (.inl ()):=by
  rw [loop_find (body:=body) xs (fun _=>none) (.inl ()) (fun k h=>by rw [hb,(ltI_iff _ _).2 (by omega),br_true,idx_get h,bnd_ok,bnd_ok,he,br_true,wsucc h hx]) (by rw [hb,(ltI_not _ _).2 (by omega),br_false])]
  rw [List.findSome?_eq_none_iff.2 (fun _ _=>rfl)];rfl
 rw [eqI_self,br_true,e1];rfl
theorem eq_slice {α:Type}{W:α→Prop}(m:α→α→Option Bool)(hm:∀y,W y→m y y=some true)(xs:List α)(hx:xs.length≤4611686018427387904∧∀y∈xs,W y){body:Int→Option (Ctl Int (Unit ⊕ Unit))}
    (hb:∀s,body s=br (ltI s (xs.length:Int)) (bnd (idx xs s) fun x=>bnd (idx xs s) fun y=>bnd (m x y) fun r=>br r (some (.nxt (wadd .i64 s 1))) (some (.out (.inr ())))) (some (.out (.inl ())))) :
    br (eqI (xs.length:Int) (xs.length:Int)) (bnd (loopP body 0) fun o=>selS o (fun _=>some true) (fun _=>some false)) (some false)=some true:=by
 have e1:loopP body 0=some (.inl ()):=by
  rw [loop_find (body:=body) xs (fun _=>none) (.inl ()) (fun k h=>by rw [hb,(ltI_iff _ _).2 (by omega),br_true,idx_get h,bnd_ok,bnd_ok,hm _ (hx.2 _ (List.getElem_mem h)),bnd_ok,br_true,wsucc h hx.1]) (by rw [hb,(ltI_not _ _).2 (by omega),br_false])]
  rw [List.findSome?_eq_none_iff.2 (fun _ _=>rfl)];rfl
 rw [eqI_self,br_true,e1];rfl
def allN:Nat→(Nat→Bool)→Bool
 | 0,_=>true
 | n+1,p=>p 0&&allN n (fun k=>p (k+1))
theorem allN_iff {n:Nat}{p:Nat→Bool}:allN n p=true↔∀k,k<n→p k=true:=by
 induction n generalizing p with
 | zero=>simp [allN]
 | succ n ih =>
  simp only [allN,Bool.and_eq_true,ih]
  constructor
  · rintro ⟨h0,h⟩ k hk
    cases k with
    | zero=>exact h0
    | succ k=>exact h k (by omega)
  · intro h
    exact ⟨h 0 (by omega),fun k hk=>h (k+1) (by omega)⟩
theorem scanN_allN (p:Nat→Bool){β:Type}(a b:β):∀(n k:Nat),scanN (fun i=>if p i=true then none else some b) a n k=if allN n (fun i=>p (k+i))=true then a else b:=by
 intro n
 induction n with
 | zero=>intro k;rfl
 | succ n ih =>
  intro k;simp only [scanN,allN,Nat.add_zero]
  have e:(fun i=>p (k+1+i))=fun i=>p (k+(i+1)):=by funext i;congr 1;omega
  by_cases h:p k=true
  · simp only [h,if_true,Bool.true_and];rw [ih (k+1),e]
  · simp only [h,if_false,Bool.false_eq_true,Bool.false_and]
theorem loop_all {β:Type}{body:Int→Option (Ctl Int β)}(N:Nat)(p:Nat→Bool)(a b:β)
    (hs:∀k,k<N→body (k:Int)=some (if p k=true then .nxt ((k+1:Nat):Int) else .out b)) (he:body (N:Int)=some (.out a)):loopP body 0=some (if allN N p=true then a else b):=by
 have:=loop_scan (body:=body) (fun i=>if p i=true then none else some b) a N (fun k hk=>by rw [hs k hk];cases p k<;>rfl) he 0 (Nat.zero_le _)
 rw [scanN_allN] at this;simpa using this
def atB {α:Type}(xs:List α)(p:α→Bool)(k:Nat):Bool :=
 match xs[k]? with
 | some x=>p x
 | none=>false
theorem atB_get {α:Type}{xs:List α}{p:α→Bool}{k:Nat}(h:k<xs.length):atB xs p k=p xs[k]:=by simp [atB,List.getElem?_eq_getElem h]
theorem atB_succ {α:Type}(x:α)(xs:List α)(p:α→Bool):(fun k=>atB (x::xs) p (k+1))=atB xs p:=by funext k;simp [atB]
theorem allN_list {α:Type}(xs:List α)(p:α→Bool):allN xs.length (atB xs p)=xs.all p:=by
 induction xs with
 | nil=>rfl
 | cons x xs ih=>rw [List.length_cons,allN,atB_succ,ih];rfl
def findI {α:Type}(p:α→Bool):List α→Option Nat
 | []=>none
 | x::r=>if p x=true then some 0 else match findI p r with | none=>none | some i=>some (i+1)
def ramp (c:Int):Nat→List Int
 | 0=>[]
 | n+1=>c::ramp (c+1) n
@[simp] theorem ramp_length (c:Int)(n:Nat):(ramp c n).length=n:=by
 induction n generalizing c with
 | zero=>rfl
 | succ n ih=>simp [ramp,ih]
theorem ramp_get {c:Int}{n k:Nat}(h:k<(ramp c n).length):(ramp c n)[k]=c+k:=by
 induction n generalizing c k with
 | zero=>simp [ramp] at h
 | succ n ih =>
  cases k with
  | zero=>simp [ramp]
  | succ k=>simp only [ramp,List.getElem_cons_succ];rw [ih];omega
theorem mark_flat {body:Int×Int×List Int→Option (Ctl (Int×Int×List Int) (Int×List Int))}
    (hb:∀p,body p=sel3 p fun v t xs=>br (ltI t (xs.length:Int)) (bnd (idx xs t) fun _=>some (.nxt (wadd .i64 v 1,wadd .i64 t 1,xs.set t.toNat v))) (some (.out (v,xs))))
    (xs:List Int) (c:Int) (hx:xs.length≤1048576) (h0:0≤c) (h1:c≤4611686018427387904):loopP body (c,0,xs)=some (c+xs.length,ramp c xs.length):=by
 have key:∀(n k:Nat) (ys:List Int),n+k=xs.length→ys.length=k→loopP body (c+k,(k:Int),ys++xs.drop k)=some (c+xs.length,ys++ramp (c+k) n):=by
  intro n
  induction n with
  | zero =>
   intro k ys hk hy
   rw [List.drop_eq_nil_of_le (by omega)]
   refine loopP_out ?_
   rw [hb,sel3_ok,(ltI_not _ _).2 (by simp;omega),br_false]
   have e:k=xs.length:=by omega
   subst e;rfl
  | succ n ih =>
   intro k ys hk hy
   have hl:k<xs.length:=by omega
   have hl2:k<(ys++xs.drop k).length:=by simp;omega
   have e:(ys++xs.drop k).set k (c+k)=(ys++[c+(k:Int)])++xs.drop (k+1):=by
    have e0:=set_append_cons ys xs[k] (c+(k:Int)) (xs.drop (k+1));rw [hy] at e0;rw [List.drop_eq_getElem_cons hl,e0];simp
   have e2:c+(k:Int)+1=c+((k+1:Nat):Int):=by omega
   rw [loopP_nxt (s':=(c+((k+1:Nat):Int),((k+1:Nat):Int),(ys++[c+(k:Int)])++xs.drop (k+1))) ?_,ih (k+1) _ (by omega) (by simp [hy])]
   · simp only [ramp,List.append_assoc,List.cons_append,List.nil_append,e2]
   · rw [hb,sel3_ok,(ltI_iff _ _).2 (by omega),br_true,idx_get hl2,bnd_ok,wadd64 (by omega) (by omega),wsucc hl (by omega),Int.toNat_natCast,e,e2]
 have:=key xs.length 0 [] (by omega) rfl
 simpa using this
theorem held_flat {body:Int×Int→Option (Ctl (Int×Int) (Int ⊕ Unit))}(n:Nat)(c:Int)
    (hb:∀p,body p=sel2 p fun v t=>br (ltI t ((ramp c n).length:Int)) (bnd (idx (ramp c n) t) fun x=>br (eqI x v) (some (.nxt (wadd .i64 v 1,wadd .i64 t 1))) (some (.out (.inr ())))) (some (.out (.inl v))))
    (hx:n≤1048576) (h0:0≤c) (h1:c≤4611686018427387904):loopP body (c,0)=some (.inl (c+n)):=by
 have key:∀(m k:Nat),m+k=n→loopP body (c+k,(k:Int))=some (.inl (c+n)):=by
  intro m
  induction m with
  | zero =>
   intro k hk;refine loopP_out ?_
   have e:k=n:=by omega
   subst e
   rw [hb,sel2_ok,(ltI_not _ _).2 (by simp),br_false]
  | succ m ih =>
   intro k hk
   have hl:k<(ramp c n).length:=by simp;omega
   have e2:c+(k:Int)+1=c+((k+1:Nat):Int):=by omega
   rw [loopP_nxt (s':=(c+((k+1:Nat):Int),((k+1:Nat):Int))) ?_,ih (k+1) (by omega)]
   rw [hb,sel2_ok,(ltI_iff _ _).2 (by omega),br_true,idx_get hl,bnd_ok,ramp_get,eqI_self,br_true,wadd64 (by omega) (by omega),wsucc hl (by simp;omega),e2]
 have:=key n 0 (by omega)
 simpa using this
def hI (l:List Int)(p:Int×Int):Option (Ctl (Int×Int) (Int ⊕ Unit)) :=
 sel2 p fun v t=>br (ltI t (l.length:Int)) (bnd (idx l t) fun x=>br (eqI x v) (some (.nxt (wadd .i64 v 1,wadd .i64 t 1))) (some (.out (.inr ())))) (some (.out (.inl v)))
def hN {α:Type}(hd:List α→Int→Option Int)(l:List (List α))(p:Int×Int):Option (Ctl (Int×Int) (Int ⊕ Unit)) :=
 sel2 p fun s t=>br (ltI t (l.length:Int)) (bnd (idx l t) fun x=>bnd (hd x s) fun r=>br (ltI r 0) (some (.out (.inr ()))) (some (.nxt (r,wadd .i64 t 1)))) (some (.out (.inl s)))
noncomputable def heldI (l:List Int)(a:Int):Option Int:=bnd (loopP (hI l) (a,0)) fun o=>selS o (fun v=>some v) (fun _=>some (-1))
noncomputable def heldN {α:Type}(hd:List α→Int→Option Int)(l:List (List α))(a:Int):Option Int:=bnd (loopP (hN hd l) (a,0)) fun o=>selS o (fun v=>some v) (fun _=>some (-1))
theorem mark_rel {α:Type}{good:α→Prop}{W B:Int}(hW:0≤W)(R:α→Int→Int→α→Prop)
    (hR:∀x k,good x→0≤k→k+W≤B→∃k' y,R x k k' y∧k≤k'∧k'≤k+W)
    {body:Int×Int×List α→Option (Ctl (Int×Int×List α) (Int×List α))}
    (hb:∀(i:Nat) (l:List α) (k k':Int) (y:α) (h:i<l.length),l.length≤1048576→R l[i] k k' y→0≤k→k+W≤B→body (k,(i:Int),l)=some (.nxt (k',((i+1:Nat):Int),l.set i y)))
    (he:∀(l:List α) (k:Int),body (k,(l.length:Int),l)=some (.out (k,l)))
    {hbody:List α→Int×Int→Option (Ctl (Int×Int) (Int ⊕ Unit))}
    (hh:∀(l:List α) (i:Nat) (k k':Int) (x:α) (h:i<l.length),l.length≤1048576→R x k k' l[i]→0≤k→k+W≤B→hbody l (k,(i:Int))=some (.nxt (k',((i+1:Nat):Int))))
    (hhe:∀(l:List α) (k:Int),hbody l (k,(l.length:Int))=some (.out (.inl k)))
    (xs:List α) (k:Int) (hx:xs.length≤1048576) (hg:∀x∈xs,good x) (h0:0≤k) (h1:k+xs.length*W≤B) :
    ∃k' ys,loopP body (k,0,xs)=some (k',ys)∧ys.length=xs.length∧k≤k'∧k'≤k+xs.length*W∧loopP (hbody ys) (k,0)=some (.inl k'):=by
 have key : ∀ (xs pre : List α) (k : Int), pre.length + xs.length ≤ 1048576 → (∀ x ∈ xs, good x) → 0 ≤ k → k + xs.length * W ≤ B →
     ∃k' ys,loopP body (k,(pre.length:Int),pre++xs)=some (k',pre++ys)∧ys.length=xs.length∧k≤k'∧k'≤k+xs.length*W∧loopP (hbody (pre++ys)) (k,(pre.length:Int))=some (.inl k'):=by
  intro xs
  induction xs with
  | nil =>
   intro pre k hl _ h0 h1;have e1:=he (pre++[]) k;have e2:=hhe (pre++[]) k;rw [List.append_nil] at e1 e2
   exact ⟨k,[],by rw [List.append_nil];exact loopP_out e1,rfl,Int.le_refl _,by simp,by rw [List.append_nil];exact loopP_out e2⟩
  | cons x xs ih =>
   intro pre k hl hs h0 h1
   have hm:((x::xs).length:Int)*W=xs.length*W+W:=by rw [List.length_cons,Int.natCast_add,Int.add_mul];simp
   have hnn:0≤(xs.length:Int)*W:=Int.mul_nonneg (by omega) hW
   have hll:pre.length+(xs.length+1)≤1048576:=by simpa using hl
   obtain ⟨k1,y,r,l1,u1⟩:=hR x k (hs x (by simp)) h0 (by omega)
   obtain ⟨k',ys,e3,ey',l2,u2,e4⟩:=ih (pre++[y]) k1 (by simp;omega) (fun z hz=>hs z (by simp [hz])) (by omega) (by omega)
   have hlen:((pre++[y]).length:Int)=((pre.length+1:Nat):Int):=by simp
   refine ⟨k',y::ys,?_,by simp [ey'],by omega,by omega,?_⟩
   · have hi:pre.length<(pre++x::xs).length:=by simp
     have hg:(pre++x::xs)[pre.length]=x:=by simp
     rw [loopP_nxt (hb pre.length (pre++x::xs) k k1 y hi (by simp;omega) (by rw [hg];exact r) h0 (by omega)),set_append_cons,←hlen]
     have e5:pre++y::xs=(pre++[y])++xs:=by simp
     have e6:pre++y::ys=(pre++[y])++ys:=by simp
     rw [e5,e6];exact e3
   · have hi:pre.length<(pre++y::ys).length:=by simp
     have hg:(pre++y::ys)[pre.length]=y:=by simp
     rw [loopP_nxt (hh (pre++y::ys) pre.length k k1 x hi (by simp [ey'];omega) (by rw [hg];exact r) h0 (by omega)),←hlen]
     have e6:pre++y::ys=(pre++[y])++ys:=by simp
     rw [e6];exact e4
 obtain ⟨k',ys,e1,e2,e3,e4,e5⟩:=key xs [] k (by simpa using hx) hg h0 h1
 exact ⟨k',ys,by simpa using e1,e2,e3,e4,by simpa using e5⟩
end Go.Pi

namespace Go.Pi
open Go Go.RowKit
theorem row_calls {P:Program}{T:Tab}(ht:TabOk P T){f:Nat}{args:List AV}{w:World}{us:List Value}(h:evFL T f args []=some (.bool true,[]))(hl:args.length=us.length)
    (hv:∀i,i<args.length→VR w Cx.start (args.getD i .undef) (us.getD i Go.undef)):Calls P f us.toArray w (fun e w'=>e=.returned (.bool true)∧Below w.heap.size w w'):=by
 obtain ⟨fi,_,_,hc⟩:=fokL ht f args [] _ _ h
 refine (hc w _ us (sr_start w) hl (fun i hi=>(hv i hi).startS)).mono fun e w' ⟨v,X',he,hs,_,hr⟩=>?_
 subst he;cases hr
 exact ⟨rfl,hs.os,hs.tape.1,hs.output,hs.size,fun b hb=>(hs.keep b hb (not_root_of_none rfl)).1⟩
def immTop:AV→Bool
 | .int _ _ | .bool _ | .str _=>true
 | .ts .imm _ _=>true
 | _=>false
theorem vr_imm {w:World}{c:AV}{v:Value}(h:Rd w (Cx.start.ok .imm) c v)(hc:immTop c=true):VR w Cx.start c v:=by
 cases c with
 | int k n=>cases h;exact .int k n
 | bool b=>cases h;exact .bool b
 | str s=>cases h;exact .str s
 | ts q sz els =>
  cases q with
  | imm=>exact .ts .imm (by simp) sz els v h
  | own=>simp [immTop] at hc
  | bor=>simp [immTop] at hc
 | _=>simp [immTop] at hc
variable {H:Type} {enc:TypeId×Value→H} {P:Program} {w:World} {base:Nat} {spare:Nat→Bool} {held:Bool}
theorem arg_cell1 {t:TypeId}{α:Type}{good:α→Prop}{f:α→List AV}(h:Opens enc P w base spare held t good f){v:Value}{d:DataW H}{ps:List MemPlace}(hd:DataW.Trod enc P w base spare held t v d ps)(hv:v.cells.toList=[v])(hi:∀a,∃c,f a=[c]∧immTop c=true) :
    ∃a c,good a∧f a=[c]∧VR w Cx.start c v:=by
 obtain ⟨n,hn⟩:=hd;obtain ⟨a,ga,ha⟩:=h _ _ _ hn;rw [hv] at ha;obtain ⟨c,hc,hi⟩:=hi a;rw [hc] at ha
 exact ⟨a,c,ga,hc,vr_imm ((by simpa using ha.2 0 (by simp):Rd w (fun _=>True) c v).start) hi⟩
end Go.Pi
