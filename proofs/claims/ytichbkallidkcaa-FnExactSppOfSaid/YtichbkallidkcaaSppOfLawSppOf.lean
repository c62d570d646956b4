/- no condition -/
import Derived.Test.YtichbkallidkcaaSppOfStdSppOf
set_option linter.all false
namespace Go.Pi.Ytichbkallidkcaa.SppOf
open Go Go.Pi
set_option linter.all false
def kd (a b:Int):List Rel→Int
 | []=>0
 | r::t=>if r.a=a∧r.b=b then r.kind else if r.a=b∧r.b=a then wsub .i64 4 r.kind else kd a b t
def kdF (a b:Int)(r:Rel):Option Int:=if r.a=a∧r.b=b then some r.kind else if r.a=b∧r.b=a then some (wsub .i64 4 r.kind) else none
theorem kd_find (a b:Int)(l:List Rel):kd a b l=(l.findSome? (kdF a b)).getD 0:=by
 induction l with
 | nil=>rfl
 | cons r t ih =>
  simp only [kd,List.findSome?_cons,kdF];split
  · rfl
  · split
    · rfl
    · exact ih
theorem kdBody (a b:Int)(x:Rel):m46_4 a b x=some (decide (x.a=a∧x.b=b))∧m46_5 a b x=some (decide (x.a=b∧x.b=a)):=by
 simp only [m46_4,m46_5,br_ite,eqI_iff]
 constructor
 · by_cases h:x.a=a
   · rw [if_pos h];simp [h,eqI]
   · rw [if_neg h];simp [h]
 · by_cases h:x.a=b
   · rw [if_pos h];simp [h,eqI]
   · rw [if_neg h];simp [h]
theorem loopK (a b:Int)(l:List Rel)(hl:l.length≤1000){body:Int→Option (Ctl Int (Unit ⊕ Int))}
    (hb:∀s,body s=m46_1b a b l (l.length:Int) s):loopP body 0=some (match l.findSome? (kdF a b) with | none=>.inl () | some k=>.inr k):=by
 have:=loop_find (body:=body) l (fun r=>(kdF a b r).map .inr) (.inl ()) (fun k h=>by
  obtain ⟨e1,e2⟩:=kdBody a b l[k]
  simp only [hb,m46_1b,(ltI_iff (k:Int) (l.length:Int)).2 (by omega),br_true,idx_get h,bnd_ok,e1,e2,kdF,wsucc h (by omega)]
  by_cases c1:l[k].a=a∧l[k].b=b
  · rw [if_pos c1,decide_eq_true c1];rfl
  · rw [if_neg c1,decide_eq_false c1,br_false]
    by_cases c2:l[k].a=b∧l[k].b=a
    · rw [if_pos c2,decide_eq_true c2];rfl
    · rw [if_neg c2,decide_eq_false c2];rfl) (by simp only [hb,m46_1b,(ltI_not (l.length:Int) (l.length:Int)).2 (by omega),br_false])
 rw [this]
 congr 1
 clear this hb hl
 induction l with
 | nil=>rfl
 | cons r t ih =>
  simp only [List.findSome?_cons]
  cases kdF a b r with
  | none=>exact ih
  | some k=>rfl
theorem p46 (l:List Rel)(a b:Int)(hl:l.length≤1000):m46 l a b=some (kd a b l):=by
 unfold m46
 rw [loopK (body:=m46_1b a b l (l.length:Int)) a b l hl (fun s=>rfl),bnd_ok,kd_find]
 cases l.findSome? (kdF a b)<;>rfl
theorem p45 (l:List Rel)(a b:Int)(hl:l.length≤1000):m45 l a b=some (kd a b l):=by
 unfold m45
 rw [loopK (body:=m45_1b a b l (l.length:Int)) a b l hl (fun s=>rfl),bnd_ok,kd_find]
 cases l.findSome? (kdF a b)<;>rfl
theorem p47 (l:List Int)(x:Int)(hl:l.length≤1000):m47 l x=some (l.any fun y=>eqI y x):=by
 unfold m47
 have:=loop_find (body:=m47_1b x l (l.length:Int)) l (fun y=>if eqI y x=true then some (.inr ()) else none) (.inl ()) (fun k h=>by
  simp only [m47_1b,(ltI_iff (k:Int) (l.length:Int)).2 (by omega),br_true,idx_get h,bnd_ok,wsucc h (by omega)]
  cases eqI l[k] x<;>rfl) (by simp only [m47_1b,(ltI_not (l.length:Int) (l.length:Int)).2 (by omega),br_false])
 rw [this,bnd_ok];clear this hl
 induction l with
 | nil=>rfl
 | cons y t ih =>
  simp only [List.findSome?_cons,List.any_cons]
  cases eqI y x with
  | true=>rfl
  | false=>simpa using ih
theorem p55 (l:List Int)(x:Int)(hl:l.length≤1000):m55 l x=some (l.any fun y=>eqI y x):=by
 unfold m55
 have h2:m72 l x=some (match findI (fun y=>eqI y x) l with | none=>-1 | some i=>(i:Int)):=by
  unfold m72
  have h3:=loop_index (body:=m72_1b l x (l.length:Int)) l (f:=fun y=>some (eqI x y)) (fun y=>eqI y x) (fun y _=>by rw [Option.some.injEq,Bool.eq_iff_iff,eqI_iff,eqI_iff];exact ⟨fun h=>h.symm,fun h=>h.symm⟩) (by omega) (fun s=>by simp only [m72_1b,bnd_ok])
  rw [h3,bnd_ok]
  cases findI (fun y=>eqI y x) l<;>rfl
 rw [h2,bnd_ok]
 exact congrArg some (containsFunc (p:=fun y=>eqI y x) (xs:=l))
def okR (n:Int)(prev:List Rel)(r:Rel):Bool:=decide (0≤r.a∧r.a<r.b∧r.b≤n∧1≤r.kind∧r.kind≤3)&&!(prev.any fun o=>decide (o.a=r.a∧o.b=r.b))
def goodB (n:Int)(l:List Rel):Bool:=decide (1≤n∧n≤5∧l.length≤15)&&allN l.length (fun k=>atB l (okR n (l.take k)) k)
theorem p41 (a x y:Int):m41 a x y=some (decide (x≤a∧a≤y)):=by
 simp only [m41,m41_1,bnd_ok,br_bool];rw [Option.some.injEq,Bool.eq_iff_iff,decide_eq_true_eq];simp only [Bool.and_eq_true,Bool.or_eq_true,Bool.not_eq_true',leI_iff,ltI_iff,leI_not,and_false,or_false,Bool.false_eq_true]
theorem p39 (a x y:Int):m39 a x y=some (decide (x≤a∧a≤y)):=p41 a x y
theorem p43 (o r:Rel):m43 o r=some (decide (o.a=r.a∧o.b=r.b)):=by
 simp only [m43,m43_1,bnd_ok,br_bool];rw [Option.some.injEq,Bool.eq_iff_iff,decide_eq_true_eq];simp only [Bool.and_eq_true,Bool.or_eq_true,Bool.not_eq_true',eqI_iff,eqI_not,and_false,or_false,Bool.false_eq_true]
 exact ⟨fun h=>⟨h.1.symm,h.2.symm⟩,fun h=>⟨h.1.symm,h.2.symm⟩⟩
theorem p42 (l:List Rel)(r:Rel)(hl:l.length≤1000):m42 l (fun y0=>m43 y0 r)=some (l.any fun o=>decide (o.a=r.a∧o.b=r.b)):=by
 simp only [m42,m70,indexFunc (body:=m70_1b l (l.length:Int) (fun y0=>m43 y0 r)) (f:=fun y0=>m43 y0 r) l (fun o=>decide (o.a=r.a∧o.b=r.b)) (fun x _=>p43 x r) (by omega) (fun s=>rfl),bnd_ok,containsFunc]
theorem p14_4 (n:Int)(l:List Rel)(k:Nat)(x:Rel)(hk:k≤l.length)(hl:l.length≤1000)(hx2:x.b≤9223372036854775807):m14_4 n l (k:Int) x=some (!okR n (l.take k) x):=by
 have hc:0≤(k:Int)∧(k:Int)≤(l.length:Int):=by omega
 simp only [m14_4,p41,bnd_ok,ck_ok hc,Int.toNat_natCast,p42 (l.take k) x (by rw [List.length_take];omega),okR]
 by_cases c1:1≤x.b∧x.b≤n
 · have ew:wsub .i64 x.b 1=x.b-1:=wsub64 (by omega) (by omega)
   rw [decide_eq_true c1,br_true,ew]
   by_cases c2:0≤x.a∧x.a≤x.b-1
   · rw [decide_eq_true c2,br_true]
     by_cases c3:1≤x.kind∧x.kind≤3
     · rw [decide_eq_true c3,br_true,decide_eq_true (by omega),Bool.true_and,Bool.not_not]
     · rw [decide_eq_false c3,br_false,decide_eq_false (by omega)];rfl
   · rw [decide_eq_false c2,br_false,decide_eq_false (by omega)];rfl
 · rw [decide_eq_false c1,br_false,decide_eq_false (by omega)];rfl
theorem p14 (n:Int)(l:List Rel)(hl:l.length≤1000)(hw:∀r∈l,r.b≤9223372036854775807):m14 n l=some (goodB n l):=by
 have h:=loop_all (body:=m14_2b n l (l.length:Int)) l.length (fun k=>atB l (okR n (l.take k)) k) (.inl ()) (.inr ()) (fun k h=>by
  simp only [m14_2b,(ltI_iff (k:Int) (l.length:Int)).2 (by omega),br_true,idx_get h,bnd_ok,p14_4 n l k l[k] (by omega) hl (hw _ (List.getElem_mem h)),wsucc h (by omega),atB_get h]
  cases okR n (l.take k) l[k]<;>rfl) (by simp only [m14_2b,(ltI_not (l.length:Int) (l.length:Int)).2 (by omega),br_false])
 simp only [m14,m14_1,p41,bnd_ok,goodB,h]
 by_cases c1:1≤n∧n≤5
 · rw [decide_eq_true c1,br_true,bnd_ok]
   by_cases c2:l.length≤15
   · rw [(ltI_not _ _).2 (by omega),br_false,decide_eq_true ⟨c1.1,c1.2,c2⟩,Bool.true_and]
     cases allN l.length (fun k=>atB l (okR n (l.take k)) k)<;>rfl
   · rw [(ltI_iff _ _).2 (by omega),br_true,decide_eq_false (by omega)];rfl
 · rw [decide_eq_false c1,br_false,bnd_ok,br_true,decide_eq_false (by omega)];rfl
theorem p12_7 (n:Int)(x:Rel):m12_7 n x=some (!decide (0≤x.a∧x.a<x.b∧x.b≤n∧1≤x.kind∧x.kind≤3)):=by
 simp only [m12_7,p39,bnd_ok,br_bool];rw [Option.some.injEq,Bool.eq_iff_iff];simp only [Bool.and_eq_true,Bool.or_eq_true,Bool.not_eq_true',decide_eq_false_iff_not,leI_iff,ltI_iff,leI_not,ltI_not,true_and,and_true,true_or,or_true];omega
theorem find_any {α:Type}(p:α→Bool)(xs:List α):(xs.findSome? (fun o=>if p o=true then some (Sum.inr ():Unit ⊕ Unit) else none)).getD (.inl ())=if xs.any p=true then .inr () else .inl ():=by
 induction xs with
 | nil=>rfl
 | cons y t ih=>cases h:p y<;>simp [List.findSome?_cons,h,ih]
theorem p12_8 (p:List Rel)(x:Rel)(hl:p.length≤1000):loopP (m12_8b p (p.length:Int) x) 0=some (if (p.any fun o=>decide (o.a=x.a∧o.b=x.b))=true then .inr () else .inl ()):=by
 have:=loop_find (body:=m12_8b p (p.length:Int) x) p (fun o=>if decide (o.a=x.a∧o.b=x.b)=true then some (.inr ()) else none) (.inl ()) (fun k h=>by
  have e:m12_10 x p[k]=some (decide (p[k].a=x.a∧p[k].b=x.b)):=by
   simp only [m12_10,br_bool];rw [Option.some.injEq,Bool.eq_iff_iff,decide_eq_true_eq];simp only [Bool.and_eq_true,Bool.or_eq_true,Bool.not_eq_true',eqI_iff,eqI_not,and_false,or_false,Bool.false_eq_true]
  simp only [m12_8b,(ltI_iff (k:Int) (p.length:Int)).2 (by omega),br_true,idx_get h,bnd_ok,e,wsucc h (by omega)]
  cases decide (p[k].a=x.a∧p[k].b=x.b)<;>rfl) (by simp only [m12_8b,(ltI_not (p.length:Int) (p.length:Int)).2 (by omega),br_false])
 rw [this]
 exact congrArg some (find_any (fun o=>decide (o.a=x.a∧o.b=x.b)) p)
theorem p12 (n:Int)(l:List Rel)(hl:l.length≤1000):m12 n l=some (goodB n l):=by
 have h:=loop_all (body:=m12_2b n l (l.length:Int)) l.length (fun k=>atB l (okR n (l.take k)) k) (.inl ()) (.inr ()) (fun k h=>by
  have hc:0≤(k:Int)∧(k:Int)≤(l.length:Int):=by omega
  simp only [m12_2b,(ltI_iff (k:Int) (l.length:Int)).2 (by omega),br_true,idx_get h,bnd_ok,p12_7,ck_ok hc,Int.toNat_natCast,p12_8 (l.take k) l[k] (by rw [List.length_take];omega),wsucc h (by omega),atB_get h,okR]
  cases decide (0≤l[k].a∧l[k].a<l[k].b∧l[k].b≤n∧1≤l[k].kind∧l[k].kind≤3) with
  | false=>rfl
  | true=>cases ((l.take k).any fun o=>decide (o.a=l[k].a∧o.b=l[k].b))<;>rfl) (by simp only [m12_2b,(ltI_not (l.length:Int) (l.length:Int)).2 (by omega),br_false])
 simp only [m12,m12_1,p39,bnd_ok,goodB,h]
 by_cases c1:1≤n∧n≤5
 · rw [decide_eq_true c1,br_true,bnd_ok]
   by_cases c2:l.length≤15
   · rw [(ltI_not _ _).2 (by omega),br_false,decide_eq_true ⟨c1.1,c1.2,c2⟩,Bool.true_and]
     cases allN l.length (fun k=>atB l (okR n (l.take k)) k)<;>rfl
   · rw [(ltI_iff _ _).2 (by omega),br_true,decide_eq_false (by omega)];rfl
 · rw [decide_eq_false c1,br_false,bnd_ok,br_true,decide_eq_false (by omega)];rfl
def Rels (l:List Rel):Prop:=∀r∈l,r.a<r.b∧1≤r.kind∧r.kind≤3
def badP (n:Int)(l:List Rel)(p:List Int)(k:Nat)(x:Int):Bool :=
 !decide (0≤x∧x≤n)||((p.take k).any fun y=>eqI y x)||(decide (0<k)&&(match p[k-1]? with | some y=>eqI (kd y x l) 0 | none=>false))
def rowB (n:Int)(l:List Rel)(p:List Int):Bool:=allN p.length (fun k=>atB p (fun x=>!badP n l p k x) k)
def ks (l:List Rel):List Int→List Int
 | a::b::r=>kd a b l::ks l (b::r)
 | _=>[]
theorem ks_drop (l:List Rel):∀(p:List Int) (s:Nat) (h:s+1<p.length),(ks l p).drop s=kd p[s] p[s+1] l::(ks l p).drop (s+1):=by
 intro p
 induction p with
 | nil=>intro s h;simp at h
 | cons a p ih =>
  intro s h
  cases p with
  | nil=>simp at h
  | cons b r =>
   cases s with
   | zero=>rfl
   | succ s =>
    have:=ih s (by simpa using h)
    simpa [ks] using this
theorem ks_end (l:List Rel):∀(p:List Int) (s:Nat),p.length≤s+1→(ks l p).drop s=[]:=by
 intro p
 induction p with
 | nil=>intro s h;simp [ks]
 | cons a p ih =>
  intro s h
  cases p with
  | nil=>simp [ks]
  | cons b r =>
   cases s with
   | zero=>simp at h
   | succ s=>simpa [ks] using ih s (by simpa using h)
def free:Bool→List Int→Bool
 | _,[]=>true
 | d,k::r=>if d&&!eqI k 1 then false else free (d||!eqI k 3) r
def pairs:List Int→Bool
 | k::k'::r=>(eqI k 3||eqI k' 1)&&pairs (k'::r)
 | _=>true
theorem loop54 (l:List Rel)(p:List Int)(hl:l.length≤1000)(hp:p.length≤1000):∀(n s:Nat) (d:Bool),n+s=p.length→1≤s→loopP (m54_1b l p) (d,(s:Int))=some (if free d ((ks l p).drop (s-1))=true then .inl () else .inr ()):=by
 intro n
 induction n with
 | zero =>
  intro s d hs h1
  rw [ks_end l p (s-1) (by omega)]
  refine loopP_out ?_
  simp only [m54_1b,sel2,(ltI_not (s:Int) (p.length:Int)).2 (by omega),br_false];rfl
 | succ n ih =>
  intro s d hs h1
  have h:s<p.length:=by omega
  obtain ⟨t,rfl⟩:∃t,s=t+1:=⟨s-1,by omega⟩
  have e0:wsub .i64 ((t+1:Nat):Int) 1=(t:Int):=by rw [wsub64 (by omega) (by omega)];omega
  have e1:idx p (t:Int)=some p[t]:=idx_get (by omega)
  rw [show t+1-1=t by omega,ks_drop l p t h,free]
  generalize hk:kd p[t] p[t+1] l=k
  cases hc:(d&&!eqI k 1) with
  | true =>
   simp only [Bool.and_eq_true,Bool.not_eq_true'] at hc;rw [if_pos rfl];refine loopP_out ?_
   simp only [m54_1b,sel2,(ltI_iff ((t+1:Nat):Int) (p.length:Int)).2 (by omega),br_true,e0,e1,idx_get h,bnd_ok,p45 l _ _ hl,hk,m54_4,hc.1,hc.2,Bool.not_false];rfl
  | false =>
   simp only [if_false,Bool.false_eq_true];rw [loopP_nxt (s':=(d||!eqI k 3,((t+1+1:Nat):Int)))]
   · exact ih (t+1+1) _ (by omega) (by omega)
   · have e4 : m54_4 d k = some (d, false) := by
       unfold m54_4
       cases d with
       | false=>rfl
       | true=>simp only [Bool.true_and] at hc;rw [br_true,hc]
     have e5:m54_5 d k=some (d||!eqI k 3):=by cases d<;>rfl
     simp only [m54_1b,sel2,(ltI_iff ((t+1:Nat):Int) (p.length:Int)).2 (by omega),br_true,e0,e1,idx_get h,bnd_ok,p45 l _ _ hl,hk,e4,e5,br_false,wsucc h (by omega)]
theorem p54 (l:List Rel)(p:List Int)(hl:l.length≤1000)(hp:p.length≤1000):m54 l p=some (free false (ks l p)):=by
 unfold m54
 by_cases h:1≤p.length
 · have:=loop54 l p hl hp (p.length-1) 1 false (by omega) (by omega)
   have e:loopP (m54_1b l p) (false,1)=_:=this
   rw [e,bnd_ok,show 1-1=0 from rfl,List.drop_zero]
   cases free false (ks l p)<;>rfl
 · have:p=[]:=List.eq_nil_of_length_eq_zero (by omega)
   subst this
   rw [loopP_out (b:=.inl ()) (by simp only [m54_1b,sel2,(ltI_not 1 (([]:List Int).length:Int)).2 (by simp),br_false])]
   rfl
theorem pbig (N:Int)(l:List Rel)(h:¬l.length≤15):m12 N l=some false∧m14 N l=some false:=by
 simp only [m12,m12_1,m14,m14_1,p39,p41,bnd_ok]
 rw [(ltI_iff 15 (l.length:Int)).2 (by omega)]
 cases decide (1≤N∧N≤5)<;>exact ⟨rfl,rfl⟩
open Go Go.Pi
set_option linter.all false
theorem pS41 (a x y:Int):m41 a x y=some (decide (x≤a∧a≤y)):=by
 simp only [m41,m41_1,bnd_ok,br_bool];rw [Option.some.injEq,Bool.eq_iff_iff,decide_eq_true_eq];simp only [Bool.and_eq_true,Bool.or_eq_true,Bool.not_eq_true',leI_iff,ltI_iff,leI_not,and_false,or_false,Bool.false_eq_true]
theorem pS39 (a x y:Int):m39 a x y=some (decide (x≤a∧a≤y)):=pS41 a x y
theorem any_eqI (l:List Int)(x:Int):(l.any fun y=>eqI y x)=decide (x∈l):=by
 rw [Bool.eq_iff_iff,List.any_eq_true,decide_eq_true_eq]
 constructor
 · rintro ⟨y,hy,h⟩;rw [(eqI_iff _ _).1 h] at hy;exact hy
 · intro h;exact ⟨x,h,eqI_self x⟩
theorem pS47 (l:List Int)(x:Int)(hl:l.length≤2000000):m47 l x=some (decide (x∈l)):=by
 unfold m47
 have:=loop_find (body:=m47_1b x l (l.length:Int)) l (fun y=>if eqI y x=true then some (.inr ()) else none) (.inl ()) (fun k h=>by
  simp only [m47_1b,(ltI_iff (k:Int) (l.length:Int)).2 (by omega),br_true,idx_get h,bnd_ok,wsucc h (by omega)]
  cases eqI l[k] x<;>rfl) (by simp only [m47_1b,(ltI_not (l.length:Int) (l.length:Int)).2 (by omega),br_false])
 rw [this,bnd_ok,←any_eqI];clear this hl
 induction l with
 | nil=>rfl
 | cons y t ih =>
  simp only [List.findSome?_cons,List.any_cons]
  cases eqI y x with
  | true=>rfl
  | false=>simpa using ih
theorem pS55 (l:List Int)(x:Int)(hl:l.length≤2000000):m55 l x=some (decide (x∈l)):=by
 unfold m55
 have h2:m72 l x=some (match findI (fun y=>eqI y x) l with | none=>-1 | some i=>(i:Int)):=by
  unfold m72
  have h3:=loop_index (body:=m72_1b l x (l.length:Int)) l (f:=fun y=>some (eqI x y)) (fun y=>eqI y x) (fun y _=>by rw [Option.some.injEq,Bool.eq_iff_iff,eqI_iff,eqI_iff];exact ⟨fun h=>h.symm,fun h=>h.symm⟩) (by omega) (fun s=>by simp only [m72_1b,bnd_ok])
  rw [h3,bnd_ok]
  cases findI (fun y=>eqI y x) l<;>rfl
 rw [h2,bnd_ok,←any_eqI]
 exact congrArg some (containsFunc (p:=fun y=>eqI y x) (xs:=l))
theorem eqTwo (a b:List Int)(h:a.length=b.length):allN a.length (fun k=>match a[k]?,b[k]? with | some x,some y=>eqI x y | _,_=>false)=decide (a=b):=by
 rw [Bool.eq_iff_iff,allN_iff,decide_eq_true_eq]
 constructor
 · intro hk
   refine List.ext_getElem h fun i h1 h2=>?_
   have:=hk i h1;rw [List.getElem?_eq_getElem h1,List.getElem?_eq_getElem h2] at this;exact (eqI_iff _ _).1 this
 · rintro rfl k hk
   rw [List.getElem?_eq_getElem hk];exact eqI_self _
theorem eqLoop (a b:List Int)(hl:a.length≤2000000){body:Int→Option (Ctl Int (Unit ⊕ Unit))}
    (hb:∀s,body s=br (ltI s (a.length:Int)) (bnd (idx a s) fun x=>bnd (idx b s) fun y=>br (eqI x y) (some (.nxt (wadd .i64 s 1))) (some (.out (.inr ())))) (some (.out (.inl ())))) :
    br (eqI (a.length:Int) (b.length:Int)) (bnd (loopP body 0) fun o=>selS o (fun _=>some true) (fun _=>some false)) (some false)=some (decide (a=b)):=by
 by_cases h:a.length=b.length
 · rw [(eqI_iff _ _).2 (by omega), br_true, loop_all a.length (fun k => match a[k]?, b[k]? with | some x, some y => eqI x y | _, _ => false) (.inl ()) (.inr ()) (fun k hk => by
     have hk2:k<b.length:=by omega
     rw [hb,(ltI_iff (k:Int) (a.length:Int)).2 (by omega),br_true,idx_get hk,bnd_ok,idx_get hk2,bnd_ok,List.getElem?_eq_getElem hk,List.getElem?_eq_getElem hk2,wsucc hk (by omega)]
     show _=some (if eqI a[k] b[k]=true then _ else _)
     cases eqI a[k] b[k]<;>rfl) (by rw [hb,(ltI_not (a.length:Int) (a.length:Int)).2 (by omega),br_false]),bnd_ok,eqTwo a b h]
   by_cases hab:a=b
   · rw [decide_eq_true hab];rfl
   · rw [decide_eq_false hab];rfl
 · rw [(eqI_not _ _).2 (by omega),br_false,decide_eq_false (fun e=>h (by rw [e]))]
theorem pS91 (a b:List Int)(hl:a.length≤2000000):m91 a b=some (decide (a=b)):=eqLoop a b hl (body:=m91_1b a b (a.length:Int)) (fun s=>rfl)
theorem pS85 (a b:List Int)(hl:a.length≤2000000):m85 a b=some (decide (a=b)):=eqLoop a b hl (body:=m85_1b a b (a.length:Int)) (fun s=>rfl)
def Sm (s:Spp):Prop:=s.ranked.length≤2000000∧∀w∈s.ranked,w.length≤2000000∧∀p∈w,p.length≤2000000
def atW (w:List (List Int))(p:List Int):Int:=match findI (fun q=>decide (q=p)) w with | none=>-1 | some i=>(i:Int)
theorem pS75 (s:Spp)(hs:Sm s)(k:Nat)(hk:k<s.ranked.length)(a:Int)(ha:a=(k:Int)+1)(p:List Int):m75 s a p=some (atW s.ranked[k] p):=by
 have ha1:wsub .i64 a 1=(k:Int):=by have:=hs.1;rw [wsub64 (by omega) (by omega)];omega
 obtain ⟨h1,h2⟩:=hs.2 _ (List.getElem_mem hk)
 have h3:=loop_index (body:=m75_1b p s.ranked[k] (s.ranked[k].length:Int)) s.ranked[k] (f:=fun q=>m91 q p) (fun q=>decide (q=p)) (fun q hq=>pS91 q p (h2 q hq)) (by omega) (fun t=>rfl)
 unfold m75 atW;rw [ha1,idx_get hk,bnd_ok,h3,bnd_ok]
 cases findI (fun q=>decide (q=p)) s.ranked[k]<;>rfl
theorem atW_mem (w:List (List Int))(p:List Int):0≤atW w p↔p∈w:=by
 unfold atW
 cases h:findI (fun q=>decide (q=p)) w with
 | none =>
  have:=findI_none.1 h
  constructor
  · intro h0;simp only [] at h0;omega
  · intro hp;rw [List.any_eq_true.2 ⟨p,hp,by simp⟩] at this;cases this
 | some i =>
  obtain ⟨h1,h2,h3⟩:=findI_lt h
  constructor
  · intro _;rw [←of_decide_eq_true h2];exact List.getElem_mem h1
  · intro _;simp only [];omega
theorem atW_self (w:List (List Int))(i:Nat)(hi:i<w.length):atW w w[i]=(i:Int)↔¬w[i]∈w.take i:=by
 unfold atW
 cases hf:findI (fun q=>decide (q=w[i])) w with
 | none =>
  have:=findI_none.1 hf
  rw [List.any_eq_true.2 ⟨w[i],List.getElem_mem hi,by simp⟩] at this;cases this
 | some j =>
  obtain ⟨h1,h2,h3⟩:=findI_lt hf;simp only [];have h2':=of_decide_eq_true h2
  constructor
  · intro he hm
    have hji:j=i:=by omega
    subst hji;obtain ⟨t,ht,hte⟩:=List.getElem_of_mem hm;rw [List.length_take] at ht
    have:=h3 t (by omega)
    rw [List.getElem_take] at hte;rw [hte] at this;simp at this
  · intro hn
    have hle:¬j<i:=fun hlt=>hn (by rw [←h2'];exact List.mem_take_iff_getElem.2 ⟨j,by omega,rfl⟩)
    have hge:¬i<j:=fun hlt=>by have:=h3 i hlt;simp at this
    omega
def badX (n:Nat)(p:List Int)(k:Nat)(x:Int):Bool:=!decide (0≤x∧x≤(n:Int))||decide (x∈p.take k)||(decide (x=0)&&decide (k+1<p.length))
theorem pS74_4 (n:Nat)(hn:n≤2000000)(p:List Int)(k:Nat)(hk:k<p.length)(hp:p.length≤2000000)(x:Int):m74_4 p (n:Int) (k:Int) x=some (badX n p k x):=by
 have hc:0≤(k:Int)∧(k:Int)≤(p.length:Int):=by omega
 have ew:wsub .i64 (p.length:Int) 1=(p.length:Int)-1:=wsub64 (by omega) (by omega)
 simp only [m74_4,bnd_ok,ck_ok hc,Int.toNat_natCast,pS47 (p.take k) x (by rw [List.length_take];omega),ew,badX]
 by_cases c1:x<0
 · rw [(ltI_iff _ _).2 c1,br_true,decide_eq_false (show ¬(0≤x∧x≤(n:Int)) by omega)];rfl
 rw [(ltI_not _ _).2 (by omega),br_false]
 by_cases c2:(n:Int)<x
 · rw [(ltI_iff _ _).2 c2,br_true,decide_eq_false (show ¬(0≤x∧x≤(n:Int)) by omega)];rfl
 rw [(ltI_not _ _).2 (by omega),br_false,decide_eq_true (show 0≤x∧x≤(n:Int) by omega)]
 cases decide (x∈p.take k) with
 | true=>rfl
 | false =>
  rw [br_false]
  by_cases c3:x=0
  · rw [(eqI_iff _ _).2 c3,br_true,decide_eq_true c3]
    have:ltI (k:Int) ((p.length:Int)-1)=decide (k+1<p.length):=by rw [Bool.eq_iff_iff,ltI_iff,decide_eq_true_eq];omega
    rw [this];rfl
  · rw [(eqI_not _ _).2 c3,br_false,decide_eq_false c3];rfl
theorem pS82_4 (s:Spp)(hn:s.ranked.length≤2000000)(p:List Int)(k:Nat)(hk:k<p.length)(hp:p.length≤2000000)(x:Int)(hlast:k+1=p.length→x=0):m82_4 ((p.length:Int)-1) (k:Int) x p s=some (badX s.ranked.length p k x):=by
 have hc:0≤(k:Int)∧(k:Int)≤(p.length:Int):=by omega
 simp only [m82_4,bnd_ok,ck_ok hc,Int.toNat_natCast,pS55 (p.take k) x (by rw [List.length_take];omega),pS41,badX]
 by_cases c0:k+1<p.length
 · rw [(ltI_iff (k:Int) ((p.length:Int)-1)).2 (by omega),br_true,decide_eq_true c0,Bool.and_true]
   by_cases c1:1≤x∧x≤(s.ranked.length:Int)
   · rw [decide_eq_true c1,br_true,decide_eq_true (show 0≤x∧x≤(s.ranked.length:Int) by omega),decide_eq_false (show ¬x=0 by omega),Bool.or_false];rfl
   · rw [decide_eq_false c1,br_false]
     by_cases c2:x=0
     · rw [decide_eq_true c2,Bool.or_true]
     · rw [decide_eq_false (show ¬(0≤x∧x≤(s.ranked.length:Int)) by omega)];rfl
 · have hx:=hlast (by omega)
   rw [(ltI_not (k:Int) ((p.length:Int)-1)).2 (by omega),br_false,decide_eq_true (show 0≤x∧x≤(s.ranked.length:Int) by omega),decide_eq_false c0,Bool.and_false,Bool.or_false];rfl
def rowX (n:Nat)(p:List Int):Bool:=allN p.length (fun k=>atB p (fun x=>!badX n p k x) k)
def wayX (s:Spp)(a:Int)(p:List Int):Bool :=
 decide (2≤p.length∧p[0]?=some a∧p[p.length-1]?=some 0)&&(rowX s.ranked.length p&&(decide (p.length=2)||(match p[1]? with | some x=>(match s.ranked[(x-1).toNat]? with | some w=>decide (p.drop 1∈w) | none=>false) | none=>false)))
theorem head1 (s:Spp)(a:Int)(p:List Int)(hp:p.length≤2000000):m74_1 a p=some (!decide (2≤p.length∧p[0]?=some a∧p[p.length-1]?=some 0)):=by
 unfold m74_1
 by_cases c:2≤p.length
 · have ew:wsub .i64 (p.length:Int) 1=((p.length-1:Nat):Int):=by rw [wsub64 (by omega) (by omega)];omega
   have i0:idx p 0=some (p[0]'(by omega)):=idx_get (i:=0) (by omega)
   rw [(ltI_not _ _).2 (by omega),br_false,i0,bnd_ok,ew,idx_get (show p.length-1<p.length by omega),bnd_ok,List.getElem?_eq_getElem (show 0<p.length by omega),List.getElem?_eq_getElem (show p.length-1<p.length by omega)]
   simp only [Option.some.injEq]
   by_cases c1:p[0]'(by omega)=a
   · rw [(eqI_iff _ _).2 c1,br_true]
     by_cases c2:p[p.length-1]'(by omega)=0
     · rw [(eqI_iff _ _).2 c2,decide_eq_true ⟨c,c1,c2⟩]
     · rw [(eqI_not _ _).2 c2,decide_eq_false (fun h=>c2 h.2.2)]
   · rw [(eqI_not _ _).2 c1,br_false,decide_eq_false (fun h=>c1 h.2.1)];rfl
 · rw [(ltI_iff _ _).2 (by omega),br_true,decide_eq_false (fun h=>c h.1)];rfl
theorem head2 (a:Int)(p:List Int)(hp:p.length≤2000000):m82_1 a ((p.length:Int)-1) p=some (!decide (2≤p.length∧p[0]?=some a∧p[p.length-1]?=some 0)):=by
 unfold m82_1
 by_cases c:2≤p.length
 · have ew:(p.length:Int)-1=((p.length-1:Nat):Int):=by omega
   have i0:idx p 0=some (p[0]'(by omega)):=idx_get (i:=0) (by omega)
   rw [ew,(ltI_not _ _).2 (by omega),br_false,i0,bnd_ok,idx_get (show p.length-1<p.length by omega),bnd_ok,List.getElem?_eq_getElem (show 0<p.length by omega),List.getElem?_eq_getElem (show p.length-1<p.length by omega)]
   simp only [Option.some.injEq]
   by_cases c1:p[0]'(by omega)=a
   · rw [(eqI_iff _ _).2 c1,br_true]
     by_cases c2:p[p.length-1]'(by omega)=0
     · rw [(eqI_iff _ _).2 c2,decide_eq_true ⟨c,c1,c2⟩]
     · rw [(eqI_not _ _).2 c2,decide_eq_false (fun h=>c2 h.2.2)]
   · rw [(eqI_not _ _).2 c1,br_false,decide_eq_false (fun h=>c1 h.2.1)];rfl
 · rw [(ltI_iff _ _).2 (by omega),br_true,decide_eq_false (fun h=>c h.1)];rfl
theorem row_at {n:Nat}{p:List Int}(h:rowX n p=true)(k:Nat)(hk:k<p.length):(0≤p[k]∧p[k]≤(n:Int))∧¬p[k]∈p.take k∧(k+1<p.length→p[k]≠0):=by
 simp only [rowX,allN_iff] at h;have:=h k hk;rw [atB_get hk] at this;simp only [badX,Bool.not_eq_true',Bool.or_eq_false_iff,Bool.not_eq_false',decide_eq_true_eq,decide_eq_false_iff_not,Bool.and_eq_false_iff] at this
 refine ⟨this.1.1,this.1.2,fun h1 h2=>?_⟩
 rcases this.2 with h3|h3
 · exact h3 h2
 · exact h3 h1
theorem pS74 (s:Spp)(hs:Sm s)(a:Int)(p:List Int)(hp:p.length≤2000000):m74 s a p=some (wayX s a p):=by
 have hl:=loop_all (body:=m74_2b p (s.ranked.length:Int) (p.length:Int)) p.length (fun k=>atB p (fun x=>!badX s.ranked.length p k x) k) (.inl ()) (.inr ()) (fun k h=>by
  simp only [m74_2b,(ltI_iff (k:Int) (p.length:Int)).2 (by omega),br_true,idx_get h,bnd_ok,pS74_4 s.ranked.length hs.1 p k h hp,wsucc h (by omega),atB_get h]
  cases badX s.ranked.length p k p[k]<;>rfl) (by simp only [m74_2b,(ltI_not (p.length:Int) (p.length:Int)).2 (by omega),br_false])
 unfold m74;rw [head1 s a p hp,bnd_ok];unfold wayX
 cases hh:decide (2≤p.length∧p[0]?=some a∧p[p.length-1]?=some 0) with
 | false=>rfl
 | true =>
  have hh':=of_decide_eq_true hh;rw [Bool.not_true,br_false,hl,bnd_ok,Bool.true_and]
  change _=some (rowX s.ranked.length p&&_)
  cases hr:rowX s.ranked.length p with
  | false=>unfold rowX at hr;rw [hr];rfl
  | true =>
   have hr':=hr;unfold rowX at hr';rw [hr',if_pos rfl,selS_inl];unfold m74_5
   by_cases c:p.length=2
   · rw [(eqI_iff _ _).2 (by omega),br_true,decide_eq_true c];rfl
   · have h1:1<p.length:=by omega
     have hx:=row_at hr 1 h1
     have hx0:=hx.2.2 (by omega)
     obtain ⟨t,ht⟩:∃t:Nat,p[1]=(t:Int)+1:=⟨(p[1]-1).toNat,by omega⟩
     have htl:t<s.ranked.length:=by omega
     have i1:idx p 1=some p[1]:=idx_get (i:=1) h1
     rw [(eqI_not _ _).2 (by omega),br_false,i1,bnd_ok,ck_ok ⟨by omega,by omega⟩,pS75 s hs t htl p[1] ht,bnd_ok,bnd_ok,decide_eq_false c,Bool.false_or,List.getElem?_eq_getElem h1,Bool.true_and]
     simp only []
     rw [show (p[1]-1).toNat=t by omega,List.getElem?_eq_getElem htl,Option.some.injEq,Bool.eq_iff_iff,leI_iff,decide_eq_true_eq]
     exact atW_mem _ _
theorem pS83 (w:List (List Int))(hw:w.length≤2000000)(f:List Int→Option Bool)(g:List Int→Bool)(hf:∀q∈w,f q=some (g q)):m83 w f=some (w.any g):=by
 simp only [m83,m100,indexFunc (body:=m100_1b w (w.length:Int) f) (f:=f) w g hf (by omega) (fun s=>rfl),bnd_ok,containsFunc]
theorem any_dec (w:List (List Int))(q:List Int):(w.any fun y=>decide (y=q))=decide (q∈w):=by
 rw [Bool.eq_iff_iff,List.any_eq_true,decide_eq_true_eq]
 constructor
 · rintro ⟨y,hy,h⟩;rw [of_decide_eq_true h] at hy;exact hy
 · intro h;exact ⟨q,h,by simp⟩
theorem pS82 (s:Spp)(hs:Sm s)(a:Int)(p:List Int)(hp:p.length≤2000000):m82 s a p=some (wayX s a p):=by
 have ew:wsub .i64 (p.length:Int) 1=(p.length:Int)-1:=wsub64 (by omega) (by omega)
 unfold m82;rw [ew,head2 a p hp,bnd_ok];unfold wayX
 cases hh:decide (2≤p.length∧p[0]?=some a∧p[p.length-1]?=some 0) with
 | false=>rfl
 | true =>
  have hh':=of_decide_eq_true hh
  have hl:=loop_all (body:=m82_2b ((p.length:Int)-1) p (p.length:Int) s) p.length (fun k=>atB p (fun x=>!badX s.ranked.length p k x) k) (.inl ()) (.inr ()) (fun k h=>by
   have hz:k+1=p.length→p[k]=0:=by
    intro he;have h3:=hh'.2.2
    rw [show p.length-1=k by omega,List.getElem?_eq_getElem h] at h3
    exact Option.some.inj h3
   simp only [m82_2b,(ltI_iff (k:Int) (p.length:Int)).2 (by omega),br_true,idx_get h,bnd_ok,pS82_4 s hs.1 p k h hp p[k] hz,wsucc h (by omega),atB_get h]
   cases badX s.ranked.length p k p[k]<;>rfl) (by simp only [m82_2b,(ltI_not (p.length:Int) (p.length:Int)).2 (by omega),br_false])
  rw [Bool.not_true,br_false,hl,bnd_ok,Bool.true_and]
  change _=some (rowX s.ranked.length p&&_)
  cases hr:rowX s.ranked.length p with
  | false=>unfold rowX at hr;rw [hr];rfl
  | true =>
   have hr':=hr;unfold rowX at hr';rw [hr',if_pos rfl,selS_inl];unfold m82_5
   by_cases c:p.length=2
   · rw [(eqI_iff _ _).2 (by omega),br_true,decide_eq_true c];rfl
   · have h1:1<p.length:=by omega
     have hx:=row_at hr 1 h1
     have hx0:=hx.2.2 (by omega)
     obtain ⟨t,ht⟩:∃t:Nat,p[1]=(t:Int)+1:=⟨(p[1]-1).toNat,by omega⟩
     have htl:t<s.ranked.length:=by omega
     have i1:idx p 1=some p[1]:=idx_get (i:=1) h1
     have e1:wsub .i64 p[1] 1=(t:Int):=by have:=hs.1;rw [wsub64 (by omega) (by omega)];omega
     obtain ⟨q1,q2⟩:=hs.2 _ (List.getElem_mem htl)
     rw [(eqI_not _ _).2 (by omega),br_false,i1,bnd_ok,e1,idx_get htl,bnd_ok,pS83 s.ranked[t] q1 (fun y0=>m99 y0 p) (fun y=>decide (y=p.drop 1)) (fun q hq=>by unfold m99;rw [ck_ok ⟨by omega,by omega⟩,pS85 q _ (q2 q hq),bnd_ok]),bnd_ok,bnd_ok,any_dec,decide_eq_false c,Bool.false_or,List.getElem?_eq_getElem h1,Bool.true_and]
     simp only []
     rw [show (p[1]-1).toNat=t by omega,List.getElem?_eq_getElem htl]
theorem filter_lessS {α:Type}(p q:α→Bool)(hpq:∀x,q x=true→p x=true){k:α}(hp:p k=true)(hq:q k=false):∀U:List α,k∈U→(U.filter q).length+1≤(U.filter p).length:=by
 have le:∀U:List α,(U.filter q).length≤(U.filter p).length:=by
  intro U
  induction U with
  | nil=>simp
  | cons x r ih =>
   rw [List.filter_cons,List.filter_cons]
   by_cases h:q x=true
   · rw [if_pos h,if_pos (hpq x h)];simpa using ih
   · rw [if_neg h];split
     · simp only [List.length_cons];omega
     · exact ih
 intro U
 induction U with
 | nil=>intro h;cases h
 | cons x r ih =>
  intro h;rw [List.filter_cons,List.filter_cons]
  rcases List.mem_cons.1 h with rfl|h
  · rw [if_neg (by simp [hq]),if_pos hp];have:=le r;simp;omega
  · have:=ih h
    by_cases hx:q x=true
    · rw [if_pos hx,if_pos (hpq x hx)];simp;omega
    · rw [if_neg hx];split
      · simp only [List.length_cons];omega
      · exact this
section
variable {α:Type} [DecidableEq α]
def muS (U seen:List α):Nat:=(U.filter (fun k=>decide (¬k∈seen))).length
theorem muS_add {U:List α}{k:α}{seen:List α}(hU:k∈U)(h:¬k∈seen):muS U (seen++[k])+1≤muS U seen:=by
 unfold muS
 refine filter_lessS (fun k=>decide (¬k∈seen)) (fun x=>decide (¬x∈seen++[k])) (fun x hx=>?_) (k:=k) (decide_eq_true h) (by simp) _ hU
 simp only [decide_eq_true_eq,List.mem_append,not_or] at hx ⊢;exact hx.1
theorem muS_le (U seen:List α):muS U seen≤U.length:=List.length_filter_le _ _
end
theorem row_len {n:Nat}{p:List Int}(h:rowX n p=true):p.length≤n+1:=by
 have key:∀j,j≤p.length→j+muS ((List.range (n+1)).map Int.ofNat) (p.take j)≤n+1:=by
  intro j
  induction j with
  | zero=>intro _;have:=muS_le ((List.range (n+1)).map Int.ofNat) (p.take 0);simp at this ⊢;omega
  | succ j ih =>
   intro hj
   have hlt:j<p.length:=by omega
   obtain ⟨h1,h2,_⟩:=row_at h j hlt
   have:=muS_add (U:=(List.range (n+1)).map Int.ofNat) (k:=p[j]) (seen:=p.take j) (List.mem_map.2 ⟨p[j].toNat,List.mem_range.2 (by omega),by show ((p[j].toNat:Nat):Int)=p[j];omega⟩) h2
   rw [←take_succ_get p j hlt] at this
   have:=ih (by omega)
   omega
 have:=key p.length (Nat.le_refl _);omega
def okP (s:Spp)(i:Nat)(w:List (List Int))(k:Nat)(p:List Int):Bool:=wayX s ((i:Int)+1) p&&decide (¬p∈w.take k)
def okN (s:Spp)(i:Nat)(w:List (List Int)):Bool:=decide (w.length≤6)&&allN w.length (fun k=>atB w (okP s i w k) k)
def gdS (s:Spp):Bool:=decide (1≤s.ranked.length∧s.ranked.length≤5)&&allN s.ranked.length (fun i=>atB s.ranked (okN s i) i)
theorem pS62 (s:Spp)(hs:Sm s):m62 s=some (gdS s):=by
 unfold m62 gdS;rw [pS39,bnd_ok]
 have ed:decide ((1:Int)≤(s.ranked.length:Int)∧(s.ranked.length:Int)≤5)=decide (1≤s.ranked.length∧s.ranked.length≤5):=by rw [decide_eq_decide];omega
 rw [ed]
 cases hn:decide (1≤s.ranked.length∧s.ranked.length≤5) with
 | false=>rfl
 | true =>
  have hn':=of_decide_eq_true hn
  rw [br_true,loop_all (body:=m62_1b s (s.ranked.length:Int)) s.ranked.length (fun i=>atB s.ranked (okN s i) i) (.inl ()) (.inr ()) (fun i hi=>by
   obtain ⟨w1,w2⟩:=hs.2 _ (List.getElem_mem hi)
   have e1:wadd .i64 (i:Int) 1=(i:Int)+1:=wadd64 (by omega) (by omega)
   have hin:=loop_all (body:=m62_5b (i:Int) s s.ranked[i] (s.ranked[i].length:Int)) s.ranked[i].length (fun k=>atB s.ranked[i] (okP s i s.ranked[i] k) k) (.inl ()) (.inr ()) (fun k hk=>by
    have hp:=w2 _ (List.getElem_mem hk)
    have e7:m62_7 (i:Int) (k:Int) s.ranked[i][k] s=some (!okP s i s.ranked[i] k s.ranked[i][k]):=by
     unfold m62_7 okP;rw [e1,pS74 s hs _ _ hp,bnd_ok]
     cases wayX s ((i:Int)+1) s.ranked[i][k] with
     | false=>rfl
     | true =>
      rw [br_true,pS75 s hs i hi _ rfl,bnd_ok,Bool.true_and]
      congr 2
      rw [Bool.eq_iff_iff,eqI_iff,decide_eq_true_eq];exact atW_self _ _ hk
    simp only [m62_5b,(ltI_iff (k:Int) (s.ranked[i].length:Int)).2 (by omega),br_true,idx_get hk,bnd_ok,e7,wsucc hk (by omega),atB_get hk]
    cases okP s i s.ranked[i] k s.ranked[i][k]<;>rfl) (by simp only [m62_5b,(ltI_not (s.ranked[i].length:Int) (s.ranked[i].length:Int)).2 (by omega),br_false])
   simp only [m62_1b,(ltI_iff (i:Int) (s.ranked.length:Int)).2 (by omega),br_true,idx_get hi,bnd_ok,hin,wsucc hi (by omega),atB_get hi,okN]
   by_cases c:s.ranked[i].length≤6
   · rw [(ltI_not _ _).2 (by omega),br_false,decide_eq_true c,Bool.true_and]
     cases allN s.ranked[i].length (fun k=>atB s.ranked[i] (okP s i s.ranked[i] k) k)<;>rfl
   · rw [(ltI_iff _ _).2 (by omega),br_true,decide_eq_false c];rfl) (by simp only [m62_1b,(ltI_not (s.ranked.length:Int) (s.ranked.length:Int)).2 (by omega),br_false]),bnd_ok,Bool.true_and]
  cases allN s.ranked.length (fun i=>atB s.ranked (okN s i) i)<;>rfl
theorem pS64 (s:Spp)(hs:Sm s):m64 s=some (gdS s):=by
 unfold m64 gdS;rw [pS41,bnd_ok]
 have ed:decide ((1:Int)≤(s.ranked.length:Int)∧(s.ranked.length:Int)≤5)=decide (1≤s.ranked.length∧s.ranked.length≤5):=by rw [decide_eq_decide];omega
 rw [ed]
 cases hn:decide (1≤s.ranked.length∧s.ranked.length≤5) with
 | false=>rfl
 | true =>
  have hn':=of_decide_eq_true hn
  rw [br_true,loop_all (body:=m64_1b s (s.ranked.length:Int)) s.ranked.length (fun i=>atB s.ranked (okN s i) i) (.inl ()) (.inr ()) (fun i hi=>by
   obtain ⟨w1,w2⟩:=hs.2 _ (List.getElem_mem hi)
   have e1:wadd .i64 (i:Int) 1=(i:Int)+1:=wadd64 (by omega) (by omega)
   have hin:=loop_all (body:=m64_5b (i:Int) s.ranked[i] s (s.ranked[i].length:Int)) s.ranked[i].length (fun k=>atB s.ranked[i] (okP s i s.ranked[i] k) k) (.inl ()) (.inr ()) (fun k hk=>by
    have hp:=w2 _ (List.getElem_mem hk)
    have e7:m64_7 (i:Int) s.ranked[i] (k:Int) s s.ranked[i][k]=some (!okP s i s.ranked[i] k s.ranked[i][k]):=by
     unfold m64_7 okP;rw [e1,pS82 s hs _ _ hp,bnd_ok]
     by_cases c6:s.ranked[i][k].length≤6
     · rw [(ltI_not _ _).2 (by omega),br_false]
       cases wayX s ((i:Int)+1) s.ranked[i][k] with
       | false=>rfl
       | true =>
        have hc:0≤(k:Int)∧(k:Int)≤(s.ranked[i].length:Int):=by omega
        rw [br_true,ck_ok hc,Int.toNat_natCast,pS83 (s.ranked[i].take k) (by rw [List.length_take];omega) (fun y0=>m84 y0 s.ranked[i][k]) (fun y=>decide (y=s.ranked[i][k])) (fun q hq=>by unfold m84;rw [pS85 q _ (w2 q (List.mem_of_mem_take hq)),bnd_ok]),bnd_ok,any_dec,Bool.true_and]
        congr 1
        cases hd:decide (s.ranked[i][k]∈s.ranked[i].take k) with
        | true=>rw [decide_eq_false (fun hn=>hn (of_decide_eq_true hd))];rfl
        | false=>rw [decide_eq_true (of_decide_eq_false hd)];rfl
     · rw [(ltI_iff _ _).2 (by omega),br_true]
       have:wayX s ((i:Int)+1) s.ranked[i][k]=false:=by
        cases hw:wayX s ((i:Int)+1) s.ranked[i][k] with
        | false=>rfl
        | true =>
         simp only [wayX,Bool.and_eq_true] at hw;have:=row_len hw.2.1;omega
       rw [this];rfl
    simp only [m64_5b,(ltI_iff (k:Int) (s.ranked[i].length:Int)).2 (by omega),br_true,idx_get hk,bnd_ok,e7,wsucc hk (by omega),atB_get hk]
    cases okP s i s.ranked[i] k s.ranked[i][k]<;>rfl) (by simp only [m64_5b,(ltI_not (s.ranked[i].length:Int) (s.ranked[i].length:Int)).2 (by omega),br_false])
   simp only [m64_1b,(ltI_iff (i:Int) (s.ranked.length:Int)).2 (by omega),br_true,idx_get hi,bnd_ok,hin,wsucc hi (by omega),atB_get hi,okN]
   by_cases c:s.ranked[i].length≤6
   · rw [(ltI_not _ _).2 (by omega),br_false,decide_eq_true c,Bool.true_and]
     cases allN s.ranked[i].length (fun k=>atB s.ranked[i] (okP s i s.ranked[i] k) k)<;>rfl
   · rw [(ltI_iff _ _).2 (by omega),br_true,decide_eq_false c];rfl) (by simp only [m64_1b,(ltI_not (s.ranked.length:Int) (s.ranked.length:Int)).2 (by omega),br_false]),bnd_ok,Bool.true_and]
  cases allN s.ranked.length (fun i=>atB s.ranked (okN s i) i)<;>rfl
structure Good (s:Spp):Prop where
 n:1≤s.ranked.length∧s.ranked.length≤5
 len:∀i (hi:i<s.ranked.length),s.ranked[i].length≤6
 way:∀i (hi:i<s.ranked.length) k (hk:k<s.ranked[i].length),wayX s ((i:Int)+1) s.ranked[i][k]=true
 ne:∀i (hi:i<s.ranked.length) k (hk:k<s.ranked[i].length),¬s.ranked[i][k]∈s.ranked[i].take k
def freeI:Bool→List Int→Bool
 | _,[]=>true
 | d,k::r=>if eqI k 0||(d&&!eqI k 1) then false else freeI (d||!eqI k 3) r
theorem loop56 (l:List Rel)(p:List Int)(hl:l.length≤1000)(hp:p.length≤1000):∀(n s:Nat) (d:Bool),n+s=p.length→1≤s→loopP (m56_1b l p) (d,(s:Int))=some (if freeI d ((ks l p).drop (s-1))=true then .inl () else .inr ()):=by
 intro n
 induction n with
 | zero =>
  intro s d hs h1
  rw [ks_end l p (s-1) (by omega)]
  refine loopP_out ?_
  simp only [m56_1b,sel2,(ltI_not (s:Int) (p.length:Int)).2 (by omega),br_false];rfl
 | succ n ih =>
  intro s d hs h1
  have h:s<p.length:=by omega
  obtain ⟨t,rfl⟩:∃t,s=t+1:=⟨s-1,by omega⟩
  have e0:wsub .i64 ((t+1:Nat):Int) 1=(t:Int):=by rw [wsub64 (by omega) (by omega)];omega
  have e1:idx p (t:Int)=some p[t]:=idx_get (by omega)
  rw [show t+1-1=t by omega,ks_drop l p t h,freeI]
  generalize hk:kd p[t] p[t+1] l=k
  cases hz:eqI k 0 with
  | true =>
   rw [Bool.true_or,if_pos rfl];refine loopP_out ?_
   simp only [m56_1b,sel2,(ltI_iff ((t+1:Nat):Int) (p.length:Int)).2 (by omega),br_true,e0,e1,idx_get h,bnd_ok,p46 l _ _ hl,hk,m56_4,hz];rfl
  | false =>
   rw [Bool.false_or]
   cases hc:(d&&!eqI k 1) with
   | true =>
    simp only [Bool.and_eq_true,Bool.not_eq_true'] at hc;rw [if_pos rfl];refine loopP_out ?_
    simp only [m56_1b,sel2,(ltI_iff ((t+1:Nat):Int) (p.length:Int)).2 (by omega),br_true,e0,e1,idx_get h,bnd_ok,p46 l _ _ hl,hk,m56_4,hz,br_false,hc.1,hc.2,Bool.not_false];rfl
   | false =>
    simp only [if_false,Bool.false_eq_true];rw [loopP_nxt (s':=(d||!eqI k 3,((t+1+1:Nat):Int)))]
    · exact ih (t+1+1) _ (by omega) (by omega)
    · have e4 : m56_4 d k = some (d, false) := by
        unfold m56_4;rw [hz,br_false]
        cases d with
        | false=>rfl
        | true=>simp only [Bool.true_and] at hc;rw [br_true,hc]
      have e5:m56_5 d k=some (d||!eqI k 3):=by cases d<;>rfl
      simp only [m56_1b,sel2,(ltI_iff ((t+1:Nat):Int) (p.length:Int)).2 (by omega),br_true,e0,e1,idx_get h,bnd_ok,p46 l _ _ hl,hk,e4,e5,br_false,wsucc h (by omega)]
theorem p56 (l:List Rel)(p:List Int)(hl:l.length≤1000)(hp:p.length≤1000):m56 l p=some (freeI false (ks l p)):=by
 unfold m56
 by_cases h:1≤p.length
 · have:=loop56 l p hl hp (p.length-1) 1 false (by omega) (by omega)
   have e:loopP (m56_1b l p) (false,1)=_:=this
   rw [e,bnd_ok,show 1-1=0 from rfl,List.drop_zero]
   cases freeI false (ks l p)<;>rfl
 · have:p=[]:=List.eq_nil_of_length_eq_zero (by omega)
   subst this
   rw [loopP_out (b:=.inl ()) (by simp only [m56_1b,sel2,(ltI_not 1 (([]:List Int).length:Int)).2 (by simp),br_false])]
   rfl
theorem freeI_free:∀(r:List Int) (d:Bool),(∀k∈r,k≠0)→freeI d r=free d r:=by
 intro r
 induction r with
 | nil=>intro d _;rfl
 | cons k r ih =>
  intro d h
  have hk:eqI k 0=false:=(eqI_not _ _).2 (h k (by simp))
  rw [freeI,free,hk,Bool.false_or,ih _ fun x hx=>h x (by simp [hx])]
theorem freeI_zero:∀(r:List Int) (d:Bool),freeI d (r++[0])=false:=by
 intro r
 induction r with
 | nil=>intro d;rfl
 | cons k r ih =>
  intro d;rw [List.cons_append,freeI];split
  · rfl
  · exact ih _
theorem free_pre:∀(r q:List Int) (d:Bool),free d r=false→free d (r++q)=false:=by
 intro r
 induction r with
 | nil=>intro q d h;cases h
 | cons k r ih =>
  intro q d h;rw [free] at h;rw [List.cons_append,free];split
  · rfl
  · rename_i hc;rw [if_neg hc] at h;exact ih q _ h
theorem ks_snoc (l:List Rel):∀(w:List Int) (a k:Int),ks l (w++[a]++[k])=ks l (w++[a])++[kd a k l]:=by
 intro w
 induction w with
 | nil=>intro a k;rfl
 | cons x w ih =>
  intro a k
  cases w with
  | nil=>rfl
  | cons y w=>simp only [List.cons_append,ks] at ih ⊢;rw [ih]
def waysF (N:Nat)(l:List Rel):Nat→List Int→List (List Int)
 | 0,_=>[]
 | d+1,w=>if freeI false (ks l w)=true then (if w.getLast?=some 0 then [w] else (List.range' 0 (N+1)).flatMap fun (k:Nat)=>if (k:Int)∈w then [] else waysF N l d (w++[(k:Int)])) else []
def pathsF (N:Nat)(l:List Rel):Nat→List Int→List (List Int)
 | 0,_=>[]
 | d+1,w=>if w.getLast?=some 0 then (if 1<w.length∧free false (ks l w)=true then [w] else []) else (List.range' 0 (N+1)).flatMap fun (k:Nat)=>if kd (w.getLast?.getD 0) (k:Int) l≠0∧¬(k:Int)∈w then pathsF N l d (w++[(k:Int)]) else []
theorem paths_none (N:Nat)(l:List Rel):∀(d:Nat) (w:List Int),w≠[]→free false (ks l w)=false→pathsF N l d w=[]:=by
 intro d
 induction d with
 | zero=>intro w _ _;rfl
 | succ d ih =>
  intro w hw h
  rw [pathsF,if_neg (show ¬(1<w.length∧free false (ks l w)=true) by rw [h];simp)]
  split
  · rfl
  · rw [List.flatMap_eq_nil_iff];intro k _;split
    · obtain ⟨u,a,rfl⟩:∃u a,w=u++[a]:=⟨w.dropLast,w.getLast hw,(List.dropLast_concat_getLast hw).symm⟩
      exact ih _ (by simp) (by rw [ks_snoc];exact free_pre _ _ _ h)
    · rfl
theorem ways_paths (N:Nat)(l:List Rel):∀(d:Nat) (w:List Int),w≠[]→(∀k∈ks l w,k≠0)→(w.length=1→w.getLast?≠some 0)→waysF N l d w=pathsF N l d w:=by
 intro d
 induction d with
 | zero=>intro w _ _ _;rfl
 | succ d ih =>
  intro w hw hk h1
  cases hf:freeI false (ks l w) with
  | false =>
   rw [paths_none N l (d+1) w hw (by rw [←freeI_free _ _ hk];exact hf),waysF,hf]
   simp
  | true =>
   have hf2:free false (ks l w)=true:=by rw [←freeI_free _ _ hk];exact hf
   rw [waysF,if_pos hf,pathsF]
   by_cases hl:w.getLast?=some 0
   · have hlen : 1 < w.length := by
       have:w.length≠0:=fun e=>hw (List.eq_nil_of_length_eq_zero e)
       have:w.length≠1:=fun e=>h1 e hl
       omega
     rw [if_pos hl,if_pos hl,if_pos ⟨hlen,hf2⟩]
   · rw [if_neg hl,if_neg hl]
     congr 1
     funext k
     obtain ⟨u,a,rfl⟩:∃u a,w=u++[a]:=⟨w.dropLast,w.getLast hw,(List.dropLast_concat_getLast hw).symm⟩
     have ela:((u++[a]).getLast?.getD 0)=a:=by simp
     rw [ela]
     by_cases hm:(k:Int)∈u++[a]
     · rw [if_pos hm,if_neg (fun h=>h.2 hm)]
     · rw [if_neg hm]
       by_cases hz:kd a (k:Int) l=0
       · rw [if_neg (fun h=>h.1 hz)]
         cases d with
         | zero=>rfl
         | succ d=>rw [waysF,ks_snoc,hz,freeI_zero];rfl
       · rw [if_pos ⟨hz,hm⟩]
         refine ih _ (by simp) (fun x hx=>?_) (fun h=>by simp at h)
         rw [ks_snoc] at hx
         rcases List.mem_append.1 hx with hx|hx
         · exact hk x hx
         · simp at hx;rw [hx];exact hz
theorem flat_len {α:Type}(f:Nat→List α)(B:Nat):∀(L:List Nat),(∀k∈L,(f k).length≤B)→(L.flatMap f).length≤L.length*B:=by
 intro L
 induction L with
 | nil=>intro _;simp
 | cons x L ih =>
  intro h
  have h1:=h x (by simp)
  have h2:=ih fun k hk=>h k (by simp [hk])
  rw [List.flatMap_cons,List.length_append,List.length_cons,Nat.add_mul];omega
theorem ways_len (N:Nat)(hN:N≤5)(l:List Rel):∀(d:Nat) (w:List Int),(waysF N l d w).length≤6 ^ d:=by
 intro d
 induction d with
 | zero=>intro w;simp [waysF]
 | succ d ih =>
  intro w
  have hp:1≤6 ^ d:=Nat.one_le_pow _ _ (by omega)
  rw [waysF];split
  · split
    · simp only [List.length_cons,List.length_nil];rw [Nat.pow_succ];omega
    · have := flat_len (fun k => if (k : Int) ∈ w then [] else waysF N l d (w ++ [(k : Int)])) (6 ^ d) (List.range' 0 (N + 1)) (fun k _ => by
        show (if (k:Int)∈w then [] else waysF N l d (w++[(k:Int)]):List (List Int)).length≤_
        split
        · simp
        · exact ih _)
      rw [List.length_range'] at this
      have h2:(N+1)*6 ^ d≤6*6 ^ d:=Nat.mul_le_mul_right _ (by omega)
      rw [Nat.pow_succ];omega
  · simp
theorem ways_mem (N:Nat)(l:List Rel):∀(d:Nat) (w p:List Int),p∈waysF N l d w→w <+: p∧p.getLast?=some 0∧p.length+1≤w.length+d∧freeI false (ks l p)=true∧(∀x∈p,x∈w∨(0≤x∧x≤(N:Int)))∧(w.Nodup→p.Nodup):=by
 intro d
 induction d with
 | zero=>intro w p h;simp [waysF] at h
 | succ d ih =>
  intro w p h;rw [waysF] at h;split at h
  · rename_i hf;split at h
    · rename_i hl;simp only [List.mem_singleton] at h;subst h
      exact ⟨List.prefix_refl _,hl,by omega,hf,fun x hx=>.inl hx,fun h=>h⟩
    · obtain ⟨k,hk,hp⟩:=List.mem_flatMap.1 h;split at hp
      · simp at hp
      · rename_i hm;obtain ⟨h1,h2,h3,h4,h5,h6⟩:=ih _ p hp
        refine ⟨(List.prefix_append _ _).trans h1,h2,by simp at h3;omega,h4,fun x hx=>?_,fun hn=>h6 ?_⟩
        · rcases h5 x hx with h7|h7
          · rcases List.mem_append.1 h7 with h8|h8
            · exact .inl h8
            · simp only [List.mem_singleton] at h8;rw [List.mem_range'_1] at hk
              exact .inr ⟨by omega,by omega⟩
          · exact .inr h7
        · rw [List.nodup_append]
          refine ⟨hn,by simp,fun a ha b hb=>?_⟩
          simp only [List.mem_singleton] at hb;subst hb;intro he;subst he;exact hm ha
  · simp at h
theorem ways_nodup (N:Nat)(l:List Rel):∀(d:Nat) (w:List Int),(waysF N l d w).Nodup:=by
 intro d
 induction d with
 | zero=>intro w;simp [waysF]
 | succ d ih =>
  intro w;rw [waysF];split
  · split
    · simp
    · unfold List.Nodup;rw [List.pairwise_flatMap]
      refine ⟨fun k _=>?_,?_⟩
      · split
        · exact List.Pairwise.nil
        · exact ih _
      · refine (List.nodup_range' (s:=0) (n:=N+1) 1).imp ?_;intro a b hab x hx y hy he;split at hx
        · simp at hx
        split at hy
        · simp at hy
        subst he;have h1:=(ways_mem N l d _ x hx).1;have h2:=(ways_mem N l d _ x hy).1;obtain ⟨u,hu⟩:=h1;obtain ⟨v,hv⟩:=h2;rw [←hv] at hu
        have h3:=congrArg (fun z=>z[w.length]?) hu
        simp at h3;omega
  · simp
theorem any_mem (l:List Int)(x:Int):(l.any fun y=>eqI y x)=decide (x∈l):=by
 rw [Bool.eq_iff_iff,List.any_eq_true,decide_eq_true_eq]
 exact ⟨fun ⟨y,hy,h⟩=>by rw [eqI_iff] at h;rw [←h];exact hy,fun h=>⟨x,h,(eqI_iff _ _).2 rfl⟩⟩
theorem p49 (l:List Int)(hl:l.length≤1000):m49 l=some l:=by
 unfold m49;rw [ck_ok (by omega)]
def inN (N:Nat)(w:List Int):Prop:=∀x∈w,0≤x∧x≤(N:Int)
theorem inN_len {N:Nat}{w:List Int}(h:inN N w)(hn:w.Nodup):w.length≤N+1:=by
 have h1:(w.map Int.toNat).Nodup:=by
  unfold List.Nodup;rw [List.pairwise_map];refine List.Pairwise.imp_of_mem ?_ hn;intro a b ha hb hab he;have:=h a ha;have:=h b hb;omega
 have h2:∀x∈w.map Int.toNat,x∈List.range (N+1):=by
  intro x hx;obtain ⟨y,hy,rfl⟩:=List.mem_map.1 hx;have:=h y hy;rw [List.mem_range];omega
 have:=(List.subset_def.2 (fun {x} hx=>h2 x hx))
 have h3:=List.Nodup.length_le_of_subset h1 this;simpa using h3
theorem nodup_snoc {w:List Int}{k:Int}(h:w.Nodup)(hk:¬k∈w):(w++[k]).Nodup:=by
 rw [List.nodup_append]
 refine ⟨h,by simp,fun a ha b hb=>?_⟩
 simp only [List.mem_singleton] at hb;subst hb;intro he;subst he;exact hk ha
theorem last_idx {w:List Int}(h:w≠[])(hl:w.length≤1000):idx w (wsub .i64 (w.length:Int) 1)=some (w.getLast?.getD 0):=by
 have h0:0<w.length:=List.length_pos_iff.2 h
 have e:wsub .i64 (w.length:Int) 1=((w.length-1:Nat):Int):=by rw [wsub64 (by omega) (by omega)];omega
 rw [e,idx_get (by omega),List.getLast?_eq_getElem?,List.getElem?_eq_getElem (by omega)]
 rfl
theorem last_some {w:List Int}(h:w≠[]):w.getLast?=some (w.getLast?.getD 0):=by
 rw [List.getLast?_eq_some_getLast h];rfl
theorem r76 (N:Nat)(hN:N≤5)(l:List Rel)(hl:l.length≤1000):∀(d K:Nat) (w:List Int) (acc:List (List Int)),w.length+d=7→d≤K→w≠[]→w.Nodup→inN N w→acc.length+6 ^ d≤1000000→m76k K N l w acc=some (acc++waysF N l d w):=by
 intro d
 induction d with
 | zero =>
  intro K w acc h1 _ _ hn hi _;have:=inN_len hi hn;omega
 | succ d ih =>
  intro K w acc h1 h2 hw hn hi ha
  obtain ⟨K,rfl⟩:∃K',K=K'+1:=⟨K-1,by omega⟩
  have hp:1≤6 ^ d:=Nat.one_le_pow _ _ (by omega)
  have hps:6 ^ (d+1)=6 ^ d*6:=Nat.pow_succ _ _;show m76r (m76k K) N l w acc=_;unfold m76r
  rw [p56 l w hl (by omega),bnd_ok,waysF]
  cases hf:freeI false (ks l w) with
  | false=>rw [br_false];simp
  | true =>
   rw [br_true,last_idx hw (by omega),bnd_ok,if_pos rfl]
   by_cases hz:w.getLast?=some 0
   · rw [if_pos hz,hz,show eqI ((some (0:Int)).getD 0) 0=true from rfl,br_true,ck_ok (by omega)]
   · have hz2:eqI (w.getLast?.getD 0) 0=false:=(eqI_not _ _).2 fun e=>hz (by rw [last_some hw,e])
     rw [if_neg hz,hz2,br_false]
     have eN:wadd .i64 (N:Int) 1=((N+1:Nat):Int):=by rw [wadd64 (by omega) (by omega)];omega
     rw [eN]
     let f:Nat→List (List Int):=fun k=>if (k:Int)∈w then [] else waysF N l d (w++[(k:Int)])
     have hfl:∀k,(f k).length≤6 ^ d:=fun k=>by
      show (if (k:Int)∈w then [] else _:List (List Int)).length≤_
      split
      · simp
      · exact ways_len N hN l d _
     have key:∀(n i:Nat) (acc:List (List Int)),n+i=N+1→acc.length+n*6 ^ d≤1000000→loopP (m76_1b (m76k K) N l ((N+1:Nat):Int) w) ((i:Int),acc)=some (acc++(List.range' i n).flatMap f):=by
      intro n
      induction n with
      | zero =>
       intro i acc hni _
       refine (loopP_out (b:=acc) ?_).trans (by simp)
       simp only [m76_1b,sel2_ok,(ltI_not (i:Int) ((N+1:Nat):Int)).2 (by omega),br_false]
      | succ n ihn =>
       intro i acc hni hal;rw [Nat.add_mul,Nat.one_mul] at hal
       have e3:m76_3 (m76k K) N l (i:Int) (!decide ((i:Int)∈w)) w acc=some (acc++f i):=by
        unfold m76_3
        by_cases hm:(i:Int)∈w
        · rw [decide_eq_true hm,Bool.not_true,br_false,show f i=[] from if_pos hm,List.append_nil]
        · rw [decide_eq_false hm, Bool.not_false, br_true, p49 w (by omega), bnd_ok, ck_ok (by omega), ih K (w ++ [(i : Int)]) acc (by simp; omega) (by omega) (by simp) (nodup_snoc hn hm) (fun x hx => by
            rcases List.mem_append.1 hx with hx|hx
            · exact hi x hx
            · simp only [List.mem_singleton] at hx;omega) (by omega),bnd_ok,show f i=_ from if_neg hm]
       rw [loopP_nxt (s':=(((i+1:Nat):Int),acc++f i))]
       · rw [ihn (i+1) (acc++f i) (by omega) (by rw [List.length_append];have:=hfl i;omega),List.range'_succ,List.flatMap_cons,List.append_assoc]
       · simp only [m76_1b,sel2_ok,(ltI_iff (i:Int) ((N+1:Nat):Int)).2 (by omega),br_true,p55 w (i:Int) (by omega),bnd_ok,any_mem,e3,wsucc (n:=N+1) (show i<N+1 by omega) (by omega)]
     have h6:(N+1)*6 ^ d≤6*6 ^ d:=Nat.mul_le_mul_right _ (by omega)
     have:=key (N+1) 0 acc (by omega) (by omega)
     have e0:loopP (m76_1b (m76k K) N l ((N+1:Nat):Int) w) (0,acc)=_:=this;rw [e0,bnd_ok]
theorem r60 (N:Nat)(hN:N≤5)(l:List Rel)(hl:l.length≤1000):∀(d K:Nat) (w:List Int) (acc:List (List Int)),w.length+d=7→d≤K→w≠[]→w.Nodup→inN N w→acc.length+6 ^ d≤1000000→m60k K N l w acc=some (acc++pathsF N l d w)∧(pathsF N l d w).length≤6 ^ d:=by
 intro d
 induction d with
 | zero =>
  intro K w acc h1 _ _ hn hi _;have:=inN_len hi hn;omega
 | succ d ih =>
  intro K w acc h1 h2 hw hn hi ha
  obtain ⟨K,rfl⟩:∃K',K=K'+1:=⟨K-1,by omega⟩
  have hp:1≤6 ^ d:=Nat.one_le_pow _ _ (by omega)
  have hps:6 ^ (d+1)=6 ^ d*6:=Nat.pow_succ _ _;show m60r (m60k K) N l w acc=_∧_;unfold m60r
  rw [last_idx hw (by omega),bnd_ok,pathsF]
  by_cases hz:w.getLast?=some 0
  · rw [if_pos hz,hz,show eqI ((some (0:Int)).getD 0) 0=true from rfl,br_true]
    have e1:m60_1 (m60k K) l w=some (decide (1<w.length)&&free false (ks l w)):=by
     unfold m60_1
     by_cases c:1<w.length
     · rw [(ltI_iff _ _).2 (by omega),br_true,p54 l w hl (by omega),bnd_ok,decide_eq_true c];rfl
     · rw [(ltI_not _ _).2 (by omega),br_false,decide_eq_false c];rfl
    rw [e1,bnd_ok]
    by_cases c:1<w.length∧free false (ks l w)=true
    · rw [if_pos c,decide_eq_true c.1,c.2,Bool.and_self,m60_2,br_true,ck_ok (by omega),ck_ok (by omega),bnd_ok]
      exact ⟨rfl,by simp;omega⟩
    · rw [if_neg c]
      have:(decide (1<w.length)&&free false (ks l w))=false:=by
       cases h:(decide (1<w.length)&&free false (ks l w)) with
       | false=>rfl
       | true=>rw [Bool.and_eq_true,decide_eq_true_eq] at h;exact absurd h c
      rw [this,m60_2,br_false,bnd_ok]
      exact ⟨by simp,by simp⟩
  · have hz2:eqI (w.getLast?.getD 0) 0=false:=(eqI_not _ _).2 fun e=>hz (by rw [last_some hw,e])
    rw [if_neg hz,hz2,br_false]
    let f:Nat→List (List Int):=fun k=>if kd (w.getLast?.getD 0) (k:Int) l≠0∧¬(k:Int)∈w then pathsF N l d (w++[(k:Int)]) else []
    have snoc:∀i:Nat,i≤N→¬(i:Int)∈w→∀acc:List (List Int),acc.length+6 ^ d≤1000000→m60k K N l (w++[(i:Int)]) acc=some (acc++pathsF N l d (w++[(i:Int)]))∧(pathsF N l d (w++[(i:Int)])).length≤6 ^ d:=fun i hiN hm acc hac =>
     ih K (w++[(i:Int)]) acc (by simp;omega) (by omega) (by simp) (nodup_snoc hn hm) (fun x hx=>by
      rcases List.mem_append.1 hx with hx|hx
      · exact hi x hx
      · simp only [List.mem_singleton] at hx;omega) hac
    have hfl:∀k,k≤N→(f k).length≤6 ^ d:=fun k hk=>by
     show (if kd (w.getLast?.getD 0) (k:Int) l≠0∧¬(k:Int)∈w then pathsF N l d (w++[(k:Int)]) else []:List (List Int)).length≤_
     split
     · rename_i h;exact (snoc k hk h.2 [] (by simp;omega)).2
     · simp
    have key:∀(n i:Nat) (acc:List (List Int)),n+i=N+1→acc.length+n*6 ^ d≤1000000→loopP (m60_3b (m60k K) N l (w.getLast?.getD 0) w) ((i:Int),acc)=some (acc++(List.range' i n).flatMap f):=by
     intro n
     induction n with
     | zero =>
      intro i acc hni _
      refine (loopP_out (b:=acc) ?_).trans (by simp)
      simp only [m60_3b,sel2_ok,(leI_not (i:Int) (N:Int)).2 (by omega),br_false]
     | succ n ihn =>
      intro i acc hni hal;rw [Nat.add_mul,Nat.one_mul] at hal
      have e6:m60_6 (m60k K) l (w.getLast?.getD 0) (i:Int) w=some (decide (kd (w.getLast?.getD 0) (i:Int) l≠0∧¬(i:Int)∈w)):=by
       unfold m60_6;rw [p45 l _ _ hl,bnd_ok]
       by_cases h0:kd (w.getLast?.getD 0) (i:Int) l=0
       · rw [h0,show eqI 0 0=true from rfl,br_true,decide_eq_false (fun h=>h.1 rfl)]
       · rw [(eqI_not _ _).2 h0,br_false,p47 w _ (by omega),bnd_ok,any_mem]
         by_cases hm:(i:Int)∈w
         · rw [decide_eq_true hm,decide_eq_false (fun h=>h.2 hm)];rfl
         · rw [decide_eq_false hm,decide_eq_true ⟨h0,hm⟩];rfl
      have e7:m60_7 (m60k K) N l (i:Int) (decide (kd (w.getLast?.getD 0) (i:Int) l≠0∧¬(i:Int)∈w)) w acc=some (acc++f i):=by
       unfold m60_7
       by_cases hm:kd (w.getLast?.getD 0) (i:Int) l≠0∧¬(i:Int)∈w
       · rw [decide_eq_true hm,br_true,ck_ok (by omega),ck_ok (by omega),(snoc i (by omega) hm.2 acc (by omega)).1,bnd_ok,show f i=_ from if_pos hm]
       · rw [decide_eq_false hm,br_false,show f i=[] from if_neg hm,List.append_nil]
      rw [loopP_nxt (s':=(((i+1:Nat):Int),acc++f i))]
      · rw [ihn (i+1) (acc++f i) (by omega) (by rw [List.length_append];have:=hfl i (by omega);omega),List.range'_succ,List.flatMap_cons,List.append_assoc]
      · simp only [m60_3b,sel2_ok,(leI_iff (i:Int) (N:Int)).2 (by omega),br_true,e6,bnd_ok,e7,wsucc (n:=N+1) (show i<N+1 by omega) (by omega)]
    have h6:(N+1)*6 ^ d≤6*6 ^ d:=Nat.mul_le_mul_right _ (by omega)
    have:=key (N+1) 0 acc (by omega) (by omega)
    have e0:loopP (m60_3b (m60k K) N l (w.getLast?.getD 0) w) (0,acc)=_:=this;rw [e0,bnd_ok];refine ⟨rfl,?_⟩
    have:=flat_len f (6 ^ d) (List.range' 0 (N+1)) (fun k hk=>hfl k (by rw [List.mem_range'_1] at hk;omega))
    rw [List.length_range'] at this;show ((List.range' 0 (N+1)).flatMap f).length≤_;omega
def waysOf (N:Nat)(l:List Rel)(s:Nat):List (List Int):=waysF N l 6 [(s:Int)]
theorem p76 (N:Nat)(hN:N≤5)(l:List Rel)(hl:l.length≤1000)(s:Nat)(hs:s≤N):m76 N l [(s:Int)] []=some (waysOf N l s):=by
 unfold m76;rw [limO_iff]
 refine ⟨6,fun k hk=>?_⟩
 have:=r76 N hN l hl 6 k [(s:Int)] [] (by simp) hk (by simp) (by simp) (fun x hx=>by simp only [List.mem_singleton] at hx;omega) (by simp)
 rw [this];rfl
theorem p60 (N:Nat)(hN:N≤5)(l:List Rel)(hl:l.length≤1000)(s:Nat)(hs:s≤N)(h1:1≤s):m60 N l [(s:Int)] []=some (waysOf N l s):=by
 unfold m60;rw [limO_iff]
 refine ⟨6,fun k hk=>?_⟩
 have:=(r60 N hN l hl 6 k [(s:Int)] [] (by simp) hk (by simp) (by simp) (fun x hx=>by simp only [List.mem_singleton] at hx;omega) (by simp)).1
 rw [this,waysOf,ways_paths N l 6 [(s:Int)] (by simp) (by simp [ks]) (fun _ h=>by simp at h;omega)]
 rfl
theorem srt_uniq {α:Type}{r:α→α→Prop}(hr:∀a b,r a b→¬r b a):∀ {xs ys:List α},xs.Pairwise r→ys.Pairwise r→xs.Perm ys→xs=ys:=by
 intro xs
 induction xs with
 | nil=>intro ys _ _ h;exact h.nil_eq
 | cons x xs ih =>
  intro ys h1 h2 h
  cases ys with
  | nil=>exact absurd h.length_eq (by simp)
  | cons y ys =>
   have hx:x=y:=by
    refine Classical.byContradiction fun hne=>?_
    have m1:x∈ys:=by
     have:=h.mem_iff.1 (List.mem_cons_self (a:=x) (l:=xs))
     rcases List.mem_cons.1 this with e|e
     · exact absurd e hne
     · exact e
    have m2:y∈xs:=by
     have:=h.mem_iff.2 (List.mem_cons_self (a:=y) (l:=ys))
     rcases List.mem_cons.1 this with e|e
     · exact absurd e.symm hne
     · exact e
    exact hr _ _ ((List.pairwise_cons.1 h1).1 y m2) ((List.pairwise_cons.1 h2).1 x m1)
   subst hx;rw [ih (List.pairwise_cons.1 h1).2 (List.pairwise_cons.1 h2).2 h.cons_inv]
theorem mapO_all {α β:Type}{f:α→Option β}(g:α→β):∀ {l:List α},(∀a∈l,f a=some (g a))→mapO f l=some (l.map g):=by
 intro l
 induction l with
 | nil=>intro _;rfl
 | cons a l ih=>intro h;simp only [mapO,h a (by simp),ih fun b hb=>h b (by simp [hb]),List.map_cons]
theorem all_range_of {n:Nat}{p:Nat→Bool}(h:∀i,i<n→p i=true):(List.range n).all p=true:=List.all_eq_true.2 fun i hi=>h i (List.mem_range.1 hi)
theorem ordIdx_fin' (m:Nat)(lt:Nat→Nat→Bool):ordIdx (m+1) lt=((List.finRange (m+1)).mergeSort fun x y=>!lt y.val x.val).map Fin.val:=by
 unfold ordIdx
 have e:List.range (m+1)=(List.finRange (m+1)).map Fin.val:=by
  apply List.ext_getElem
  · simp
  · intro i h1 h2;simp
 rw [e]
 exact (List.map_mergeSort (f:=Fin.val) (r:=fun x y:Fin (m+1)=>!lt y.val x.val) (s:=fun i j=>!lt j i) (l:=List.finRange (m+1)) (fun a _ b _=>rfl)).symm
theorem srtP_ok {α:Type}[Inhabited α]{c:α→α→Option Int}(cf:α→α→Int)(xs:List α)(hc:∀a∈xs,∀b∈xs,c a b=some (cf a b))(h1:∀a,¬cf a a<0)(h2:∀a b d,cf a b<0→cf b d<0→cf a d<0)
    (h3:∀a∈xs,∀b∈xs,a≠b→cf a b<0∨cf b a<0) (hn:xs.Nodup) (hl:xs.length≤68719476736):∃ys,srtP c xs=some ys∧ys.Perm xs∧ys.Pairwise (fun a b=>cf a b<0):=by
 have ht:tabO c xs=some (xs.map fun a=>xs.map (cf a)):=mapO_all _ fun a ha=>mapO_all _ fun b hb=>hc a ha b hb
 have hlt:∀i j (hi:i<xs.length) (hj:j<xs.length),tabLt (xs.map fun a=>xs.map (cf a)) i j=decide (cf xs[i] xs[j]<0):=fun i j hi hj=>by
  simp [tabLt,List.getD_eq_getElem?_getD,hi,hj]
 have hne:∀i j (hi:i<xs.length) (hj:j<xs.length),i≠j→xs[i]≠xs[j]:=fun i j hi hj h e=>h ((List.getElem_inj hn).1 e)
 have tot:∀i j (hi:i<xs.length) (hj:j<xs.length),i≠j→cf xs[i] xs[j]<0∨cf xs[j] xs[i]<0:=fun i j hi hj h=>h3 _ (List.getElem_mem hi) _ (List.getElem_mem hj) (hne i j hi hj h)
 have hord:ordOk xs.length (tabLt (xs.map fun a=>xs.map (cf a)))=true:=by
  unfold ordOk
  refine all_range_of fun i hi=>?_
  simp only [Bool.and_eq_true,Bool.not_eq_true']
  refine ⟨by rw [hlt i i hi hi];exact decide_eq_false (h1 _),all_range_of fun j hj=>?_⟩
  simp only [Bool.and_eq_true,Bool.or_eq_true,beq_iff_eq]
  refine ⟨?_,all_range_of fun k hk=>?_⟩
  · by_cases e:i=j
    · exact .inl (.inl e)
    · rcases tot i j hi hj e with h|h
      · exact .inl (.inr (by rw [hlt i j hi hj];exact decide_eq_true h))
      · exact .inr (by rw [hlt j i hj hi];exact decide_eq_true h)
  · rw [hlt i j hi hj,hlt j k hj hk,hlt i k hi hk]
    by_cases a:cf xs[i] xs[j]<0
    · by_cases b:cf xs[j] xs[k]<0
      · simp [h2 _ _ _ a b]
      · simp [b]
    · simp [a]
 refine ⟨_,by unfold srtP;rw [ck_ok hl];unfold sortO;rw [ht];simp only;rw [if_pos hord],?_,?_⟩
 · have hp:(ordIdx xs.length (tabLt (xs.map fun a=>xs.map (cf a)))).Perm (List.range xs.length):=List.mergeSort_perm _ _
   refine (hp.map _).trans (List.Perm.of_eq ?_)
   apply List.ext_getElem
   · simp
   · intro i h1 h2
     simp [List.getD_eq_getElem?_getD,show i<xs.length by simpa using h1]
 · by_cases h0:xs.length=0
   · have:ordIdx xs.length (tabLt (xs.map fun a=>xs.map (cf a)))=[]:=by rw [h0];simp [ordIdx]
     rw [this];exact List.Pairwise.nil
   obtain ⟨m,hm⟩:∃m,xs.length=m+1:=⟨xs.length-1,by omega⟩
   rw [hm,ordIdx_fin',List.pairwise_map,List.pairwise_map]
   have hlt':∀x y:Fin (m+1),tabLt (xs.map fun a=>xs.map (cf a)) x.val y.val=decide (cf (xs[x.val]'(by omega)) (xs[y.val]'(by omega))<0):=fun x y=>hlt _ _ (by omega) (by omega)
   have tot':∀x y:Fin (m+1),x≠y→cf (xs[x.val]'(by omega)) (xs[y.val]'(by omega))<0∨cf (xs[y.val]'(by omega)) (xs[x.val]'(by omega))<0:=fun x y h=>tot _ _ (by omega) (by omega) fun e=>h (Fin.ext e)
   have hs := List.pairwise_mergeSort (le := fun x y : Fin (m + 1) => !tabLt (xs.map fun a => xs.map (cf a)) y.val x.val) (fun x y z a b => by
       simp only [hlt',Bool.not_eq_true',decide_eq_false_iff_not] at a b ⊢;intro hc
       by_cases e:x=y
       · subst e;exact b hc
       · rcases tot' x y e with k|k
         · exact b (h2 _ _ _ hc k)
         · exact a k) (fun x y=>by
       simp only [hlt',Bool.or_eq_true,Bool.not_eq_true',decide_eq_false_iff_not]
       by_cases a:cf (xs[y.val]'(by omega)) (xs[x.val]'(by omega))<0
       · right;intro b;exact h1 _ (h2 _ _ _ a b)
       · left;exact a) (List.finRange (m+1))
   have hnd:((List.finRange (m+1)).mergeSort fun x y=>!tabLt (xs.map fun a=>xs.map (cf a)) y.val x.val).Nodup:=(List.mergeSort_perm _ _).nodup_iff.2 (List.nodup_finRange _)
   refine (hs.and hnd).imp ?_
   rintro x y ⟨a,b⟩
   simp only [hlt',Bool.not_eq_true',decide_eq_false_iff_not] at a
   have ex:xs.getD x.val default=xs[x.val]'(by omega):=by simp [List.getD_eq_getElem?_getD,show x.val<xs.length by omega]
   have ey:xs.getD y.val default=xs[y.val]'(by omega):=by simp [List.getD_eq_getElem?_getD,show y.val<xs.length by omega]
   rw [ex,ey]
   rcases tot' x y b with k|k
   · exact k
   · exact absurd k a
def lexC:List Int→List Int→Int
 | [],[]=>0
 | [],_::_=>-1
 | _::_,[]=>1
 | x::a,y::b=>if x<y then -1 else if y<x then 1 else lexC a b
theorem lex_self:∀a:List Int,lexC a a=0:=by
 intro a
 induction a with
 | nil=>rfl
 | cons x a ih=>rw [lexC,if_neg (by omega),if_neg (by omega),ih]
theorem lex_trans:∀a b c:List Int,lexC a b<0→lexC b c<0→lexC a c<0:=by
 intro a
 induction a with
 | nil =>
  intro b c h1 h2
  cases c with
  | nil=>cases b<;>simp [lexC] at h1 h2
  | cons z c=>simp [lexC]
 | cons x a ih =>
  intro b c h1 h2
  cases b with
  | nil=>simp [lexC] at h1
  | cons y b =>
   cases c with
   | nil=>simp [lexC] at h2
   | cons z c =>
    simp only [lexC] at h1 h2 ⊢
    by_cases a1:x<y
    · by_cases b1:y<z
      · rw [if_pos (by omega)];omega
      · rw [if_neg b1] at h2
        by_cases b2:z<y
        · rw [if_pos b2] at h2;omega
        · rw [if_pos (by omega)];omega
    · rw [if_neg a1] at h1
      by_cases a2:y<x
      · rw [if_pos a2] at h1;omega
      · rw [if_neg a2] at h1
        by_cases b1:y<z
        · rw [if_pos (by omega)];omega
        · rw [if_neg b1] at h2
          by_cases b2:z<y
          · rw [if_pos b2] at h2;omega
          · rw [if_neg b2] at h2
            rw [if_neg (by omega),if_neg (by omega)]
            exact ih b c h1 h2
theorem lex_tot:∀a b:List Int,a≠b→lexC a b<0∨lexC b a<0:=by
 intro a
 induction a with
 | nil=>intro b h;cases b with
  | nil=>exact absurd rfl h
  | cons y b=>left;simp [lexC]
 | cons x a ih =>
  intro b h
  cases b with
  | nil=>right;simp [lexC]
  | cons y b =>
   simp only [lexC]
   by_cases a1:x<y
   · left;rw [if_pos a1];omega
   · by_cases a2:y<x
     · right;rw [if_pos a2];omega
     · rw [if_neg a1,if_neg a2,if_neg a2,if_neg a1]
       have:x=y:=by omega
       subst this
       exact ih b fun e=>h (by rw [e])
theorem p98 (a:Int):m98 a=some false:=by unfold m98;rw [eqI_self];rfl
def cmp3 (a b:Int):Int:=if a<b then -1 else if b<a then 1 else 0
theorem p80 (a b:Int):m80 a b=some (cmp3 a b):=by
 unfold m80 cmp3;rw [p98,bnd_ok,p98,bnd_ok,br_false,br_false]
 by_cases h1:a<b
 · rw [(ltI_iff _ _).2 h1,br_true,if_pos h1]
 · rw [(ltI_not _ _).2 (by omega),br_false,if_neg h1]
   by_cases h2:b<a
   · rw [(ltI_iff _ _).2 h2,br_true,if_pos h2]
   · rw [(ltI_not _ _).2 (by omega),br_false,if_neg h2]
theorem p81 (a b:List Int)(ha:a.length≤1000)(hb:b.length≤1000):m81 a b=some (lexC a b):=by
 unfold m81
 have key:∀(n s:Nat),n+s=a.length→s≤b.length→bnd (loopP (m81_1b a b (a.length:Int)) (s:Int)) (fun o=>selS o (fun _=>br (ltI (a.length:Int) (b.length:Int)) (some (-1)) (some 0)) (fun v38=>some v38))=some (lexC (a.drop s) (b.drop s)):=by
  intro n
  induction n with
  | zero =>
   intro s hs hsb
   rw [loopP_out (b:=.inl ()) (by simp only [m81_1b,(ltI_not (s:Int) (a.length:Int)).2 (by omega),br_false]),bnd_ok,List.drop_of_length_le (by omega)]
   show br _ _ _=_
   by_cases c:a.length<b.length
   · rw [(ltI_iff _ _).2 (by omega),br_true,List.drop_eq_getElem_cons (show s<b.length by omega)];rfl
   · rw [(ltI_not _ _).2 (by omega),br_false,List.drop_of_length_le (by omega)];rfl
  | succ n ih =>
   intro s hs hsb
   have hsa:s<a.length:=by omega
   by_cases c:s<b.length
   · rw [List.drop_eq_getElem_cons hsa,List.drop_eq_getElem_cons c,lexC]
     have body:m81_1b a b (a.length:Int) (s:Int)=br (eqI (cmp3 a[s] b[s]) 0) (some (.nxt ((s+1:Nat):Int))) (some (.out (.inr (cmp3 a[s] b[s])))):=by
      simp only [m81_1b,(ltI_iff (s:Int) (a.length:Int)).2 (by omega),br_true,idx_get hsa,bnd_ok,(leI_not (b.length:Int) (s:Int)).2 (by omega),br_false,idx_get c,p80,wsucc hsa (by omega)]
     by_cases h1:a[s]<b[s]
     · rw [if_pos h1,loopP_out (b:=.inr (-1)) (by rw [body];simp only [cmp3,if_pos h1];rfl)];rfl
     · rw [if_neg h1]
       by_cases h2:b[s]<a[s]
       · rw [if_pos h2,loopP_out (b:=.inr 1) (by rw [body];simp only [cmp3,if_neg h1,if_pos h2];rfl)];rfl
       · rw [if_neg h2,loopP_nxt (s':=((s+1:Nat):Int)) (by rw [body];simp only [cmp3,if_neg h1,if_neg h2];rfl)]
         exact ih (s+1) (by omega) (by omega)
   · rw [List.drop_eq_getElem_cons hsa,List.drop_of_length_le (show b.length≤s by omega),lexC]
     rw [loopP_out (b:=.inr 1) (by simp only [m81_1b,(ltI_iff (s:Int) (a.length:Int)).2 (by omega),br_true,idx_get hsa,bnd_ok,(leI_iff (b.length:Int) (s:Int)).2 (by omega)])]
     rfl
 exact key a.length 0 (by omega) (by omega)
theorem p79 (a b c:Int):m79 [a,b,c]=some (if a≠0 then a else if b≠0 then b else c):=by
 unfold m79
 have:=loop_find (body:=m79_1b [a,b,c] (([a,b,c]:List Int).length:Int)) [a,b,c] (fun x=>if eqI x 0=true then none else some (Sum.inr x:Unit ⊕ Int)) (.inl ()) (fun k h=>by
  simp only [m79_1b,(ltI_iff (k:Int) (([a,b,c]:List Int).length:Int)).2 (by omega),br_true,idx_get h,bnd_ok,wsucc h (by simp)]
  cases eqI ([a,b,c]:List Int)[k] 0<;>rfl) (by simp only [m79_1b,(ltI_not (([a,b,c]:List Int).length:Int) (([a,b,c]:List Int).length:Int)).2 (by omega),br_false])
 rw [this,bnd_ok];simp only [List.findSome?_cons,List.findSome?_nil]
 by_cases h1:a=0
 · subst h1;rw [eqI_self]
   by_cases h2:b=0
   · subst h2;rw [eqI_self]
     by_cases h3:c=0
     · subst h3;rfl
     · rw [(eqI_not _ _).2 h3];simp
   · rw [(eqI_not _ _).2 h2];simp [h2]
 · rw [(eqI_not _ _).2 h1];simp [h1]
def keyW (l:List Rel)(s:Int)(p:List Int):List Int:=kd s (p.getD 1 0) l::(p.length:Int)::p
def cW (l:List Rel)(s:Int)(p q:List Int):Int:=lexC (keyW l s p) (keyW l s q)
theorem cW_eq (l:List Rel)(s:Int)(p q:List Int):cW l s p q=if cmp3 (kd s (p.getD 1 0) l) (kd s (q.getD 1 0) l)≠0 then cmp3 (kd s (p.getD 1 0) l) (kd s (q.getD 1 0) l) else if cmp3 (p.length:Int) (q.length:Int)≠0 then cmp3 (p.length:Int) (q.length:Int) else lexC p q:=by
 unfold cW keyW;rw [lexC,lexC];unfold cmp3;generalize kd s (p.getD 1 0) l=a;generalize kd s (q.getD 1 0) l=b;generalize (p.length:Int)=n;generalize (q.length:Int)=m;generalize lexC p q=z
 by_cases h1:a<b
 · simp [h1]
 · by_cases h2:b<a
   · simp [h1,h2]
   · by_cases h3:n<m
     · simp [h1,h2,h3]
     · by_cases h4:m<n
       · simp [h1,h2,h3,h4]
       · simp [h1,h2,h3,h4]
theorem p78 (l:List Rel)(hl:l.length≤1000)(s:Int)(p q:List Int)(hp:2≤p.length)(hp2:p.length≤1000)(hq:2≤q.length)(hq2:q.length≤1000):m78 p q l s=some (cW l s p q):=by
 unfold m78
 have e1:idx p 1=some (p.getD 1 0):=by
  have:=idx_get (xs:=p) (i:=1) (by omega)
  rw [show ((1:Nat):Int)=1 from rfl] at this
  rw [this,List.getD_eq_getElem?_getD,List.getElem?_eq_getElem (by omega)];rfl
 have e2:idx q 1=some (q.getD 1 0):=by
  have:=idx_get (xs:=q) (i:=1) (by omega)
  rw [show ((1:Nat):Int)=1 from rfl] at this
  rw [this,List.getD_eq_getElem?_getD,List.getElem?_eq_getElem (by omega)];rfl
 rw [e1,bnd_ok,p46 l _ _ hl,bnd_ok,e2,bnd_ok,p46 l _ _ hl,bnd_ok,p80,bnd_ok,p80,bnd_ok,p81 p q hp2 hq2,bnd_ok,p79,bnd_ok,cW_eq]
theorem p61 (l:List Rel)(hl:l.length≤1000)(s:Int)(p q:List Int)(hp:2≤p.length)(hp2:p.length≤1000)(hq:2≤q.length)(hq2:q.length≤1000)(h0:p[0]?=some s)(h0':q[0]?=some s):m61 l p q=some (decide (cW l s p q<0)):=by
 unfold m61
 have e0:idx p 0=some s:=by simp [idx,h0]
 have e0':idx q 0=some s:=by simp [idx,h0']
 have e1:idx p 1=some (p.getD 1 0):=by
  have:=idx_get (xs:=p) (i:=1) (by omega)
  rw [show ((1:Nat):Int)=1 from rfl] at this
  rw [this,List.getD_eq_getElem?_getD,List.getElem?_eq_getElem (by omega)];rfl
 have e2:idx q 1=some (q.getD 1 0):=by
  have:=idx_get (xs:=q) (i:=1) (by omega)
  rw [show ((1:Nat):Int)=1 from rfl] at this
  rw [this,List.getD_eq_getElem?_getD,List.getElem?_eq_getElem (by omega)];rfl
 rw [e0,bnd_ok,e1,bnd_ok,p45 l _ _ hl,bnd_ok,e0',bnd_ok,e2,bnd_ok,p45 l _ _ hl,bnd_ok,cW_eq]
 by_cases h1:kd s (p.getD 1 0) l=kd s (q.getD 1 0) l
 · rw [(eqI_iff _ _).2 h1,br_true]
   have c1:cmp3 (kd s (p.getD 1 0) l) (kd s (q.getD 1 0) l)=0:=by unfold cmp3;rw [if_neg (by omega),if_neg (by omega)]
   rw [c1,if_neg (by simp)]
   by_cases h2:p.length=q.length
   · rw [(eqI_iff _ _).2 (by omega),br_true]
     have c2:cmp3 (p.length:Int) (q.length:Int)=0:=by unfold cmp3;rw [if_neg (by omega),if_neg (by omega)]
     rw [c2,if_neg (by simp)]
     have key:∀(n k:Nat),n+k=p.length→bnd (loopP (m61_1b p q (p.length:Int)) (k:Int)) (fun o=>selS o (fun _=>some false) (fun v57=>some v57))=some (decide (lexC (p.drop k) (q.drop k)<0)):=by
      intro n
      induction n with
      | zero =>
       intro k hk
       rw [loopP_out (b:=.inl ()) (by simp only [m61_1b,(ltI_not (k:Int) (p.length:Int)).2 (by omega),br_false]),bnd_ok,List.drop_of_length_le (by omega),List.drop_of_length_le (by omega)]
       rfl
      | succ n ih =>
       intro k hk
       have hkp:k<p.length:=by omega
       have hkq:k<q.length:=by omega
       rw [List.drop_eq_getElem_cons hkp,List.drop_eq_getElem_cons hkq,lexC]
       have body:m61_1b p q (p.length:Int) (k:Int)=br (eqI p[k] q[k]) (some (.nxt ((k+1:Nat):Int))) (some (.out (.inr (ltI p[k] q[k])))):=by
        simp only [m61_1b,(ltI_iff (k:Int) (p.length:Int)).2 (by omega),br_true,idx_get hkp,bnd_ok,idx_get hkq,wsucc hkp (by omega)]
       by_cases c:p[k]=q[k]
       · rw [loopP_nxt (s':=((k+1:Nat):Int)) (by rw [body,(eqI_iff _ _).2 c,br_true]),if_neg (by omega),if_neg (by omega)]
         exact ih (k+1) (by omega)
       · rw [loopP_out (b:=.inr (ltI p[k] q[k])) (by rw [body,(eqI_not _ _).2 c,br_false])]
         by_cases c2:p[k]<q[k]
         · rw [if_pos c2,(ltI_iff _ _).2 c2];rfl
         · rw [if_neg c2,if_pos (by omega),(ltI_not _ _).2 (by omega)];rfl
     exact key p.length 0 (by omega)
   · rw [(eqI_not _ _).2 (by omega),br_false]
     by_cases h3:p.length<q.length
     · have c2:cmp3 (p.length:Int) (q.length:Int)=-1:=by unfold cmp3;rw [if_pos (by omega)]
       rw [c2,if_pos (by decide),(ltI_iff _ _).2 (by omega)];rfl
     · have c2:cmp3 (p.length:Int) (q.length:Int)=1:=by unfold cmp3;rw [if_neg (by omega),if_pos (by omega)]
       rw [c2,if_pos (by decide),(ltI_not _ _).2 (by omega)];rfl
 · rw [(eqI_not _ _).2 h1,br_false]
   by_cases h3:kd s (p.getD 1 0) l<kd s (q.getD 1 0) l
   · have c2:cmp3 (kd s (p.getD 1 0) l) (kd s (q.getD 1 0) l)=-1:=by unfold cmp3;rw [if_pos h3]
     rw [c2,if_pos (by decide),(ltI_iff _ _).2 h3];rfl
   · have c2:cmp3 (kd s (p.getD 1 0) l) (kd s (q.getD 1 0) l)=1:=by unfold cmp3;rw [if_neg h3,if_pos (by omega)]
     rw [c2,if_pos (by decide),(ltI_not _ _).2 (by omega)];rfl
theorem keyW_inj {l:List Rel}{s:Int}{p q:List Int}(h:keyW l s p=keyW l s q):p=q:=by
 unfold keyW at h
 injection h with _ h
 injection h with _ h
theorem cW_irr (l:List Rel)(s:Int)(p:List Int):¬cW l s p p<0:=by unfold cW;rw [lex_self];omega
theorem cW_trans (l:List Rel)(s:Int)(p q r:List Int):cW l s p q<0→cW l s q r<0→cW l s p r<0:=lex_trans _ _ _
theorem cW_tot (l:List Rel)(s:Int)(p q:List Int)(h:p≠q):cW l s p q<0∨cW l s q p<0:=lex_tot _ _ fun e=>h (keyW_inj e)
theorem cW_asym (l:List Rel)(s:Int)(p q:List Int)(h:cW l s p q<0):¬cW l s q p<0:=fun k=>cW_irr l s p (cW_trans l s p q p h k)
structure Ways (l:List Rel) (s:Int) (W:List (List Int)):Prop where
 nd:W.Nodup
 len:W.length≤60000
 el:∀p∈W,2≤p.length∧p.length≤7∧p[0]?=some s
theorem ways_ok (N:Nat)(hN:N≤5)(l:List Rel)(s:Nat)(h1:1≤s):Ways l (s:Int) (waysOf N l s):=by
 refine ⟨ways_nodup N l 6 _,?_,fun p hp=>?_⟩
 · have:=ways_len N hN l 6 [(s:Int)]
   have e:(6:Nat) ^ 6=46656:=by decide
   rw [e] at this;show (waysF N l 6 [(s:Int)]).length≤_;omega
 · obtain ⟨⟨u,hu⟩,h2,h3,_⟩:=ways_mem N l 6 _ p hp
   have h0:p[0]?=some (s:Int):=by rw [←hu];rfl
   refine ⟨?_,by have:p.length≤6:=(by simpa using h3);omega,h0⟩
   cases u with
   | nil =>
    rw [←hu] at h2;simp at h2;omega
   | cons x u=>rw [←hu];simp
theorem scan29 (l:List Rel)(hl:l.length≤1000)(s:Int)(R:List (List Int))(p:List Int)(hR:∀q∈R,2≤q.length∧q.length≤7∧q[0]?=some s)(hp:2≤p.length∧p.length≤7∧p[0]?=some s)(hlen:R.length≤60000) :
    ∃v:Nat,loopP (m29_13b l R p) 0=some (v:Int)∧v≤R.length∧(∀k (hk:k<R.length),k<v→cW l s R[k] p<0)∧(∀h:v<R.length,¬cW l s R[v] p<0):=by
 have key:∀(n i:Nat),n+i=R.length→(∀k (hk:k<R.length),k<i→cW l s R[k] p<0)→∃v:Nat,loopP (m29_13b l R p) (i:Int)=some (v:Int)∧v≤R.length∧(∀k (hk:k<R.length),k<v→cW l s R[k] p<0)∧(∀h:v<R.length,¬cW l s R[v] p<0):=by
  intro n
  induction n with
  | zero =>
   intro i hi hlt
   refine ⟨i,loopP_out ?_,by omega,hlt,fun h=>by omega⟩
   simp only [m29_13b,m29_15,(ltI_not (i:Int) (R.length:Int)).2 (by omega),br_false,bnd_ok]
  | succ n ih =>
   intro i hi hlt
   have hiR:i<R.length:=by omega
   obtain ⟨q1,q2,q3⟩:=hR _ (List.getElem_mem hiR)
   have e15:m29_15 l R p (i:Int)=some (decide (cW l s R[i] p<0)):=by
    unfold m29_15
    rw [(ltI_iff (i:Int) (R.length:Int)).2 (by omega),br_true,idx_get hiR,bnd_ok,p61 l hl s _ _ q1 (by omega) hp.1 (by omega) q3 hp.2.2,bnd_ok]
   by_cases c:cW l s R[i] p<0
   · rw [loopP_nxt (s':=((i+1:Nat):Int)) (by simp only [m29_13b,e15,bnd_ok,decide_eq_true c,br_true,wsucc hiR (by omega)])]
     exact ih (i+1) (by omega) (fun k hk hki=>by
      by_cases e:k=i
      · subst e;exact c
      · exact hlt k hk (by omega))
   · exact ⟨i,loopP_out (by simp only [m29_13b,e15,bnd_ok,decide_eq_false c,br_false]),by omega,hlt,fun h=>c⟩
 exact key R.length 0 (by omega) (fun k hk h=>by omega)
theorem ins29 (l:List Rel)(hl:l.length≤1000)(s:Int)(W:List (List Int))(hW:Ways l s W):∃R,loopP (m29_9b l W (W.length:Int)) ([],0)=some R∧R.Perm W∧R.Pairwise (fun a b=>cW l s a b<0):=by
 have hlW:=hW.len
 have key:∀(n i:Nat) (R:List (List Int)),n+i=W.length→R.Perm (W.take i)→R.Pairwise (fun a b=>cW l s a b<0)→∃R',loopP (m29_9b l W (W.length:Int)) (R,(i:Int))=some R'∧R'.Perm W∧R'.Pairwise (fun a b=>cW l s a b<0):=by
  intro n
  induction n with
  | zero =>
   intro i R hi hp hs
   refine ⟨R,loopP_out ?_,by rw [List.take_of_length_le (by omega)] at hp;exact hp,hs⟩
   simp only [m29_9b,sel2_ok,(ltI_not (i:Int) (W.length:Int)).2 (by omega),br_false]
  | succ n ih =>
   intro i R hi hp hs
   have hiW:i<W.length:=by omega
   have hRl:R.length=i:=by rw [hp.length_eq,List.length_take];omega
   have hRm:∀q∈R,q∈W:=fun q hq=>List.mem_of_mem_take (hp.mem_iff.1 hq)
   obtain ⟨v,e1,h1,h2,h3⟩:=scan29 l hl s R W[i] (fun q hq=>hW.el q (hRm q hq)) (hW.el _ (List.getElem_mem hiW)) (by omega)
   have hnew:¬W[i]∈R:=fun h=>by
    have:=hp.mem_iff.1 h;obtain ⟨k,hk,he⟩:=List.mem_take_iff_getElem.1 this;have:=(List.getElem_inj hW.nd).1 he;omega
   rw [loopP_nxt (s':=(((R.take v)++[W[i]])++(R.drop v),((i+1:Nat):Int)))]
   · refine ih (i+1) _ (by omega) ?_ ?_
     · have e2:W.take (i+1)=W.take i++[W[i]]:=List.take_succ_eq_append_getElem hiW;rw [e2];refine List.Perm.trans ?_ (hp.append_right [W[i]])
       have e3:R++[W[i]]=R.take v++R.drop v++[W[i]]:=by rw [List.take_append_drop]
       rw [e3,List.append_assoc,List.append_assoc];exact List.Perm.append_left _ List.perm_append_comm
     · have hs':=hs;rw [←List.take_append_drop v R,List.pairwise_append] at hs';rw [List.pairwise_append,List.pairwise_append]
       have lo:∀a∈R.take v,cW l s a W[i]<0:=fun a ha=>by
        obtain ⟨k,hk,rfl⟩:=List.mem_take_iff_getElem.1 ha
        exact h2 k (by omega) (by omega)
       have hi2:∀b∈R.drop v,cW l s W[i] b<0:=fun b hb=>by
        by_cases hv:v<R.length
        · have hd:R.drop v=R[v]::R.drop (v+1):=List.drop_eq_getElem_cons hv;have hpw:=hs'.2.1;rw [hd] at hb hpw
          have hne:R[v]≠W[i]:=fun e=>hnew (by rw [←e];exact List.getElem_mem hv)
          have hlt:cW l s W[i] R[v]<0:=(cW_tot l s _ _ hne).resolve_left (h3 hv)
          rcases List.mem_cons.1 hb with e|e
          · rw [e];exact hlt
          · exact cW_trans l s _ _ _ hlt ((List.pairwise_cons.1 hpw).1 b e)
        · rw [List.drop_of_length_le (by omega)] at hb;simp at hb
       refine ⟨⟨hs'.1,List.pairwise_singleton _ _,fun a ha b hb=>?_⟩,hs'.2.1,fun a ha b hb=>?_⟩
       · simp only [List.mem_singleton] at hb;subst hb;exact lo a ha
       · rcases List.mem_append.1 ha with ha|ha
         · exact hs'.2.2 a ha b hb
         · simp only [List.mem_singleton] at ha;subst ha;exact hi2 b hb
   · have hc:0≤(v:Int)∧(v:Int)≤(R.length:Int):=by omega
     have l1:(R.take v).length≤R.length:=by rw [List.length_take];omega
     have l2:(R.drop v).length≤R.length:=by rw [List.length_drop];omega
     simp only [m29_9b,sel2_ok,(ltI_iff (i:Int) (W.length:Int)).2 (by omega),br_true,idx_get hiW,bnd_ok,e1,ck_ok hc,Int.toNat_natCast,wsucc hiW (by omega)]
     rw [ck_ok (by omega),ck_ok (by omega),ck_ok (by rw [List.length_append,List.length_singleton];omega)]
 obtain ⟨R,h⟩:=key W.length 0 [] (by omega) (by simp) List.Pairwise.nil
 exact ⟨R,h⟩
theorem srt63 (l:List Rel)(hl:l.length≤1000)(s:Int)(W:List (List Int))(hW:Ways l s W):∃R,srtP (fun y0 y1=>m78 y0 y1 l s) W=some R∧R.Perm W∧R.Pairwise (fun a b=>cW l s a b<0) :=
 srtP_ok (cW l s) W (fun a ha b hb=>by
  have h1:=hW.el a ha;have h2:=hW.el b hb
  exact p78 l hl s a b h1.1 (by omega) h2.1 (by omega)) (cW_irr l s) (cW_trans l s) (fun a _ b _ h=>cW_tot l s a b h) hW.nd (by have:=hW.len;omega)
theorem one_order (N:Nat)(hN:N≤5)(l:List Rel)(hl:l.length≤1000)(s:Nat)(h1:1≤s):∃R,loopP (m29_9b l (waysOf N l s) ((waysOf N l s).length:Int)) ([],0)=some R∧srtP (fun y0 y1=>m78 y0 y1 l (s:Int)) (waysOf N l s)=some R∧R.Perm (waysOf N l s):=by
 have hW:=ways_ok N hN l s h1;obtain ⟨A,a1,a2,a3⟩:=ins29 l hl (s:Int) _ hW;obtain ⟨B,b1,b2,b3⟩:=srt63 l hl (s:Int) _ hW;have:A=B:=srt_uniq (cW_asym l (s:Int)) a3 b3 (a2.trans b2.symm);subst this;exact ⟨A,a1,b1,a2⟩
theorem all_nodes (N:Nat)(hN:N≤5)(l:List Rel)(hl:l.length≤1000):∃RR:List (List (List Int)),loopP (m29_1b N l) (1,[])=some RR∧loopP (m63_1b N l) ([],1)=some RR∧RR.length=N∧∀k (hk:k<RR.length),RR[k].Perm (waysOf N l (k+1)):=by
 have key:∀(n:Nat) (RR:List (List (List Int))),n+RR.length=N→(∀k (hk:k<RR.length),RR[k].Perm (waysOf N l (k+1)))→∃RR':List (List (List Int)),loopP (m29_1b N l) (((RR.length+1:Nat):Int),RR)=some RR'∧loopP (m63_1b N l) (RR,((RR.length+1:Nat):Int))=some RR'∧RR'.length=N∧∀k (hk:k<RR'.length),RR'[k].Perm (waysOf N l (k+1)):=by
  intro n
  induction n with
  | zero =>
   intro RR hn h
   refine ⟨RR,loopP_out ?_,loopP_out ?_,by omega,h⟩
   · simp only [m29_1b,sel2_ok,(leI_not ((RR.length+1:Nat):Int) (N:Int)).2 (by omega),br_false]
   · simp only [m63_1b,sel2_ok,(leI_not ((RR.length+1:Nat):Int) (N:Int)).2 (by omega),br_false]
  | succ n ih =>
   intro RR hn h
   obtain ⟨R,r1,r2,r3⟩:=one_order N hN l hl (RR.length+1) (by omega)
   have hh:∀k (hk:k<(RR++[R]).length),(RR++[R])[k].Perm (waysOf N l (k+1)):=fun k hk=>by
    by_cases c:k<RR.length
    · rw [List.getElem_append_left c];exact h k c
    · have:k=RR.length:=by rw [List.length_append,List.length_singleton] at hk;omega
      subst this;rw [List.getElem_append_right (Nat.le_refl _)];simpa using r3
   obtain ⟨RR',i1,i2,i3⟩:=ih (RR++[R]) (by rw [List.length_append,List.length_singleton];omega) hh
   rw [List.length_append,List.length_singleton] at i1 i2
   have es:wadd .i64 ((RR.length+1:Nat):Int) 1=((RR.length+1+1:Nat):Int):=by rw [wadd64 (by omega) (by omega)];omega
   refine ⟨RR',?_,?_,i3⟩
   · rw [loopP_nxt (s':=(((RR.length+1+1:Nat):Int),RR++[R])),i1]
     simp only [m29_1b,sel2_ok,(leI_iff ((RR.length+1:Nat):Int) (N:Int)).2 (by omega),br_true,p60 N hN l hl (RR.length+1) (by omega) (by omega),bnd_ok,r1,es]
     rw [ck_ok (by omega)]
   · rw [loopP_nxt (s':=(RR++[R],((RR.length+1+1:Nat):Int))),i2]
     simp only [m63_1b,sel2_ok,(leI_iff ((RR.length+1:Nat):Int) (N:Int)).2 (by omega),br_true,p76 N hN l hl (RR.length+1) (by omega),bnd_ok,r2,es]
     rw [ck_ok (by omega)]
 obtain ⟨RR,h⟩:=key N [] (by simp) (fun k hk=>by simp at hk)
 exact ⟨RR,h⟩
theorem spp_ok (n:Int)(l:List Rel)(hl:l.length≤1048576)(hw:∀r∈l,-9223372036854775808≤r.b∧r.b≤9223372036854775807):∃s b,m29 n l=some (s,b)∧m30 n l=some (s,b)∧smSpp s∧(b=true→gdS s=true∧goodB n l=true∧∃N:Nat,n=(N:Int)∧s.ranked.length=N∧∀k (hk:k<s.ranked.length),s.ranked[k].Perm (waysOf N l (k+1)))∧(b=false→s=⟨[]⟩):=by
 have empty:smSpp (⟨[]⟩:Spp):=⟨by simp,by simp⟩
 by_cases h15:l.length≤15
 · have g1:m12 n l=some (goodB n l):=p12 n l (by omega)
   have g2:m14 n l=some (goodB n l):=p14 n l (by omega) (fun r hr=>(hw r hr).2)
   unfold m29 m30;rw [g1,bnd_ok,g2,bnd_ok]
   cases hg:goodB n l with
   | false=>rw [br_false,br_false];exact ⟨_,false,rfl,rfl,empty,by simp,fun _=>rfl⟩
   | true =>
    have hN:1≤n∧n≤5:=by
     simp only [goodB,Bool.and_eq_true,decide_eq_true_eq] at hg;exact ⟨hg.1.1,hg.1.2.1⟩
    obtain ⟨N,rfl⟩:=Int.eq_ofNat_of_zero_le (show 0≤n by omega)
    obtain ⟨RR,r1,r2,r3,r4⟩:=all_nodes N (by omega) l (by omega)
    have hsm:Sm (⟨RR⟩:Spp):=by
     refine ⟨by show RR.length≤_;omega,fun w hw=>?_⟩
     obtain ⟨k,hk,rfl⟩:=List.mem_iff_getElem.1 hw;have hp:=r4 k hk
     have hW:=ways_ok N (by omega) l (k+1) (by omega)
     refine ⟨by rw [hp.length_eq];have:=hW.len;omega,fun p hp'=>?_⟩
     have:=(hW.el p (hp.mem_iff.1 hp')).2.1;omega
    have hsm2:smSpp (⟨RR⟩:Spp):=by
     refine ⟨by show RR.length≤_;omega,fun w hw=>?_⟩
     obtain ⟨k,hk,rfl⟩:=List.mem_iff_getElem.1 hw;have hp:=r4 k hk
     have hW:=ways_ok N (by omega) l (k+1) (by omega)
     refine ⟨by rw [hp.length_eq];have:=hW.len;omega,fun p hp'=>?_⟩
     have:=(hW.el p (hp.mem_iff.1 hp')).2.1;show p.length≤_;omega
    rw [br_true,r1,bnd_ok,pS62 _ hsm,bnd_ok,br_true];unfold m63;rw [r2,bnd_ok,bnd_ok,pS64 _ hsm,bnd_ok]
    cases hgs:gdS (⟨RR⟩:Spp) with
    | false=>rw [br_false];exact ⟨_,false,rfl,rfl,empty,by simp,fun _=>rfl⟩
    | true=>rw [br_true];exact ⟨_,true,rfl,rfl,hsm2,fun _=>⟨hgs,rfl,N,rfl,r3,r4⟩,by simp⟩
 · obtain ⟨g1,g2⟩:=pbig n l h15;unfold m29 m30;rw [g1,bnd_ok,g2,bnd_ok,br_false,br_false]
   exact ⟨_,false,rfl,rfl,empty,by simp,fun _=>rfl⟩
theorem law (a0:Int)(a1:List Rel)(w0:wfInt a0)(w1:wfLRel a1):m9 a0 a1=some true:=by
 unfold m9
 obtain ⟨v,hv,v1,v2,hsv⟩:=z11 a1 1048576 w1 (by omega) (by omega)
 rw [hv,bnd_ok]
 by_cases c0:v<0
 · rw [(ltI_iff _ _).2 c0,br_true]
 rw [(ltI_not _ _).2 (by omega),br_false]
 have sa:smLRel a1:=hsv (by omega)
 have sa1:a1.length≤1048576:=sa;rw [t13 a1 sa,bnd_ok]
 obtain ⟨X,B,e1,e2,sX,h3,h4⟩:=spp_ok a0 a1 sa (fun r hr=>(w1.2 r hr).2.1)
 have qX:=q31 X sX;have qa:=q15 a1 sa
 obtain ⟨ya,f1,f2⟩:=k32 a1 1 sa (by omega) (by omega)
 obtain ⟨k2,yb,g1,g2,g3,g4,g5⟩:=k66 X.ranked 1 sX (by omega) (by omega)
 have g1':m33 X 1=some (k2,yb):=by unfold m33;rw [g1,bnd_ok,sel2_ok,ck_ok g2]
 have g5':m34 (⟨yb⟩:Spp) 1=some k2:=by unfold m34;rw [g5,bnd_ok,(ltI_not k2 0).2 (by omega),br_false]
 have d1:m9_1 B B X X=some false:=by simp only [m9_1,qX,bnd_ok,br_true,eqB_self,Bool.not_true]
 have d2:m9_2 B B (1+(3:Nat)*a1.length) X X=some false:=by simp only [m9_2,(ltI_not (1+(3:Nat)*(a1.length:Int)) 0).2 (by omega),br_false,qX,bnd_ok,br_true,eqB_self,Bool.not_true]
 have d3:m9_3 B B X X=some false:=by simp only [m9_3,qX,bnd_ok,br_true,eqB_self,Bool.not_true]
 rw [e1,bnd_ok,sel2_ok,e2,bnd_ok,sel2_ok,d1,bnd_ok,br_false,qa,bnd_ok,br_true,f1,bnd_ok,sel2_ok,ck_ok f2,d2,bnd_ok,br_false,
  g1',bnd_ok,sel2_ok,ck_ok g2,g5',bnd_ok,(ltI_not k2 0).2 (by omega),br_false,eqI_self,br_true,d3,bnd_ok,br_false]
end Go.Pi.Ytichbkallidkcaa.SppOf
