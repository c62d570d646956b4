/- no condition -/
import Derived.Test.YthidbgihjhkjaaaGreatFilterRoutesStdFilterRoutes
set_option linter.all false
namespace Go.Pi.YthidbgihjhkjaaaGreat.FilterRoutes
open Go Go.Pi
theorem p87 (a x y:Int):m87 a x y=some (decide (x≤a∧a≤y)):=by
 simp only [m87,m87_1,bnd_ok,br_bool];rw [Option.some.injEq,Bool.eq_iff_iff,decide_eq_true_eq];simp only [Bool.and_eq_true,Bool.or_eq_true,Bool.not_eq_true',leI_iff,ltI_iff,leI_not,and_false,or_false,Bool.false_eq_true]
theorem p72 (a x y:Int):m72 a x y=some (decide (x≤a∧a≤y)):=p87 a x y
theorem p48 (p:Prefix):∃b,m48 p=some b∧m58 p=some b:=by
 simp only [m48,m48_1,m58,m58_1,m75,m93,m76,m94,p72,p87,bnd_ok]
 by_cases c:0≤p.len∧p.len≤32
 · have e1:wsub .i64 32 p.len=32-p.len:=wsub64 (by omega) (by omega)
   have e2:wcv .u64 (32-p.len)=32-p.len:=by simp [wcv,IntKind.wrap,IntKind.bits,IntKind.signed];omega
   obtain ⟨k,hk⟩:∃k:Nat,32-p.len=(k:Int):=⟨(32-p.len).toNat,by omega⟩
   have hk2:k≤32:=by omega
   have e3:wshl .i64 1 (k:Int)=((2 ^ k:Nat):Int):=by
    have h2:(2 ^ k:Nat)≤4294967296:=by have:=Nat.pow_le_pow_right (n:=2) (by omega) hk2;simpa using this
    unfold wshl
    have:min (k:Int).toNat IntKind.i64.bits=k:=by simp [IntKind.bits];omega
    rw [this,Int.one_mul]
    have e:((2:Int) ^ k)=((2 ^ k:Nat):Int):=by simp
    rw [e];generalize (2 ^ k:Nat)=z at h2
    exact w64 (by omega) (by omega)
   have h3:¬((2 ^ k:Nat):Int)=0:=by
    have:=Nat.pow_pos (n:=k) (show 0<2 by omega)
    generalize (2 ^ k:Nat)=z at this;omega
   rw [decide_eq_true c,br_true,br_true,e1,e2,hk,ck_ok (show ¬(k:Int)<0 by omega),bnd_ok,e3,ck_ok h3]
   cases decide (0≤p.addr∧p.addr≤4294967295)<;>exact ⟨_,rfl,rfl⟩
 · rw [decide_eq_false c];exact ⟨_,rfl,rfl⟩
noncomputable def okP (p:Prefix):Bool:=(m48 p).getD false
theorem p48' (p:Prefix):m48 p=some (okP p)∧m58 p=some (okP p):=by
 obtain ⟨b,h1,h2⟩:=p48 p;unfold okP;rw [h1,h2];exact ⟨rfl,rfl⟩
noncomputable def okRange (x:Range):Bool:=okP x.prefix_&&decide (x.prefix_.len≤x.lo∧x.lo≤x.hi∧x.hi≤32)
theorem p47_3 (x:Range):m47_3 x=some (!okRange x):=by
 simp only [m47_3,(p48' x.prefix_).1,bnd_ok,p72,br_bool,okRange];rw [Option.some.injEq,Bool.eq_iff_iff];simp only [Bool.and_eq_true,Bool.or_eq_true,Bool.not_eq_true',Bool.and_eq_false_iff,decide_eq_true_eq,decide_eq_false_iff_not]
 cases okP x.prefix_<;>simp<;>omega
theorem p89 (x:Range):m89 x=some (!okRange x):=by
 simp only [m89,m89_1,(p48' x.prefix_).2,bnd_ok,br_bool,okRange];rw [Option.some.injEq,Bool.eq_iff_iff];simp only [Bool.and_eq_true,Bool.or_eq_true,Bool.not_eq_true',Bool.and_eq_false_iff,decide_eq_true_eq,decide_eq_false_iff_not,ltI_iff,ltI_not]
 cases okP x.prefix_<;>simp<;>omega
def okAct (a:Acn):Bool:=decide ((1≤a.kind∧a.kind≤4∧0≤a.n∧a.n≤1000000)∨(a.kind=5∧1≤a.n∧a.n≤65535))
theorem p73 (a:Acn):m73 a=some (okAct a):=by
 simp only [m73,m73_1,m73_2,m73_3,m73_4,p72,bnd_ok,br_bool,okAct];rw [Option.some.injEq,Bool.eq_iff_iff];simp only [Bool.and_eq_true,Bool.or_eq_true,Bool.not_eq_true',decide_eq_true_eq,eqI_iff,eqI_not,Bool.or_eq_false_iff,Bool.and_eq_false_iff,and_false,or_false,Bool.false_eq_true];omega
theorem p92 (a:Acn):m92 a=some (okAct a):=by
 simp only [m92,m92_1,m92_2,m92_3,m86,m119,p87,bnd_ok,br_bool,okAct];rw [Option.some.injEq,Bool.eq_iff_iff];simp only [Bool.and_eq_true,Bool.or_eq_true,Bool.not_eq_true',decide_eq_true_eq,eqI_iff,eqI_not,Bool.or_eq_false_iff,Bool.and_eq_false_iff,and_false,or_false,Bool.false_eq_true];omega
def ar (k:Int):Int:=if 1≤k∧k≤4 then 0 else if k=5∨k=6 then 2 else if k=7 then 1 else -1
theorem p149 (k:Int):m149 k=some (ar k):=by
 simp only [m149,m149_1,m149_2,m149_3,m149_4,bnd_ok,br_ite,bnd_ite,eqI_iff,eqI]
 have h:(1≤k∧k≤4)∨k=5∨k=6∨k=7∨k<1∨7<k:=by omega
 have h0:(k<1∨7<k)→ar k=-1:=fun h=>by unfold ar;rw [if_neg (by omega),if_neg (by omega),if_neg (by omega)]
 rcases h with h|h|h|h|h
 · have h:k=1∨k=2∨k=3∨k=4:=by omega
   rcases h with h|h|h|h<;>subst h<;>rfl
 · subst h;rfl
 · subst h;rfl
 · subst h;rfl
 · rw [h0 h]
   simp [show k≠1 by omega,show k≠2 by omega,show k≠3 by omega,show k≠4 by omega,show k≠5 by omega,show k≠6 by omega,show k≠7 by omega]
theorem p140 (k:Int):m140 k=some (ar k):=by
 simp only [m140,m140_1,m140_2,m140_3,m140_4,bnd_ok,br_ite,bnd_ite,eqI_iff,eqI]
 have h:(1≤k∧k≤4)∨k=5∨k=6∨k=7∨k<1∨7<k:=by omega
 have h0:(k<1∨7<k)→ar k=-1:=fun h=>by unfold ar;rw [if_neg (by omega),if_neg (by omega),if_neg (by omega)]
 rcases h with h|h|h|h|h
 · have h:k=1∨k=2∨k=3∨k=4:=by omega
   rcases h with h|h|h|h<;>subst h<;>rfl
 · subst h;rfl
 · subst h;rfl
 · subst h;rfl
 · rw [h0 h]
   simp [show k≠1 by omega,show k≠2 by omega,show k≠3 by omega,show k≠4 by omega,show k≠5 by omega,show k≠6 by omega,show k≠7 by omega]
theorem ar_range (k:Int):-1≤ar k∧ar k≤2:=by unfold ar;repeat' split<;>omega
def okN (c:ReCell):Bool:=decide ((c.kind=3→1≤c.n∧c.n≤65535)∧(c.kind≠3→c.n=0))
def okC (c:ReCell):Bool:=decide (0≤ar c.kind)&&okN c
def scan (ok:ReCell→Bool):Nat→List ReCell→Option (List ReCell)
 | 0,l=>some l
 | _+1,[]=>none
 | n+1,c::r=>if ok c=true then scan ok (n+(ar c.kind).toNat) r else none
theorem scan_zero (ok:ReCell→Bool)(l:List ReCell):scan ok 0 l=some l:=by cases l<;>rfl
theorem scan_add (ok:ReCell→Bool):∀(l:List ReCell) (a b:Nat),scan ok (a+b) l=(scan ok a l).bind (scan ok b):=by
 intro l
 induction l with
 | nil =>
  intro a b
  cases a with
  | zero=>rw [Nat.zero_add,scan_zero];rfl
  | succ a=>rw [Nat.succ_add];rfl
 | cons c r ih =>
  intro a b
  cases a with
  | zero=>rw [Nat.zero_add,scan_zero];rfl
  | succ a =>
   rw [Nat.succ_add];simp only [scan];split
   · rw [show a+b+(ar c.kind).toNat=(a+(ar c.kind).toNat)+b by omega];exact ih _ _
   · rfl
theorem scan_suffix (ok:ReCell→Bool):∀(l:List ReCell) (n:Nat) (r:List ReCell),scan ok n l=some r→∃p,l=p++r∧(1≤n→1≤p.length):=by
 intro l
 induction l with
 | nil =>
  intro n r h
  cases n with
  | zero=>rw [scan_zero] at h;cases h;exact ⟨[],rfl,fun h=>by omega⟩
  | succ n=>cases h
 | cons c t ih =>
  intro n r h
  cases n with
  | zero=>rw [scan_zero] at h;cases h;exact ⟨[],rfl,fun h=>by omega⟩
  | succ n =>
   simp only [scan] at h;split at h
   · obtain ⟨p,hp,_⟩:=ih _ _ h
     exact ⟨c::p,by rw [hp];rfl,fun _=>by simp⟩
   · cases h
theorem scan_all:∀(l:List ReCell) (n:Nat),scan okC n l=some []↔scan (fun c=>decide (0≤ar c.kind)) n l=some []∧l.all okN=true:=by
 intro l
 induction l with
 | nil=>intro n;cases n<;>simp [scan]
 | cons c r ih =>
  intro n
  cases n with
  | zero=>simp [scan]
  | succ n =>
   simp only [scan,okC,List.all_cons]
   by_cases h1:0≤ar c.kind
   · by_cases h2:okN c=true
     · simpa [h1,h2] using ih _
     · simp [h1,h2]
   · simp [h1]
def posOf (l:List ReCell):Option (List ReCell)→Int
 | none=>0
 | some r=>(l.length:Int)-r.length
theorem p139_1 (rc:List ReCell→Int→Option (l6T×Int))(c:ReCell):m139_1 rc (ar c.kind) c=some (!okC c):=by
 simp only [m139_1,p72,bnd_ok,br_bool,okC,okN];rw [Option.some.injEq,Bool.eq_iff_iff];simp only [Bool.and_eq_true,Bool.or_eq_true,Bool.not_eq_true',Bool.and_eq_false_iff,decide_eq_true_eq,decide_eq_false_iff_not,ltI_iff,ltI_not,eqI_iff,eqI_not,Bool.not_eq_false',and_true,Bool.true_eq_false,and_false,Bool.false_eq_true,false_or,or_false];omega
theorem kids (l:List ReCell)(hl:l.length≤1048576)(k:Nat)(rc1 rc2:List ReCell→Int→Option (l6T×Int))
    (hrc:∀at_:Nat,at_≤l.length→l.length<at_+k→∃r,rc1 l (at_:Int)=some r∧rc2 l (at_:Int)=some r∧r.2=posOf l (scan okC 1 (l.drop at_))) :
    ∀(n pos:Nat) (ks:List l6T),pos≤l.length→1≤pos→l.length<pos+k→ks.length+n≤2 →
     ∃o,loopP (m139_2b rc1 l) ((pos:Int),(n:Int),ks)=some o∧loopP (m139_2b rc2 l) ((pos:Int),(n:Int),ks)=some o∧match scan okC n (l.drop pos) with
      | some r=>∃ks',o=.inl ((l.length:Int)-r.length,ks')
      | none=>o=.inr ():=by
 intro n
 induction n with
 | zero =>
  intro pos ks hp h1 hk hks
  refine ⟨.inl ((pos:Int),ks),loopP_out (by simp only [m139_2b,sel3];rw [(ltI_not _ _).2 (by omega),br_false]),loopP_out (by simp only [m139_2b,sel3];rw [(ltI_not _ _).2 (by omega),br_false]),?_⟩
  rw [scan_zero]
  exact ⟨ks,by rw [List.length_drop];congr 2;omega⟩
 | succ n ih =>
  intro pos ks hp h1 hk hks;obtain ⟨r,r1,r2,r3⟩:=hrc pos hp hk;obtain ⟨t,q⟩:=r;simp only at r3
  rw [show n+1=1+n by omega,scan_add]
  cases hs:scan okC 1 (l.drop pos) with
  | none =>
   rw [hs] at r3;simp only [posOf] at r3;subst r3;refine ⟨.inr (),loopP_out ?_,loopP_out ?_,rfl⟩
   · simp only [m139_2b,sel3,(ltI_iff 0 ((1+n:Nat):Int)).2 (by omega),br_true,r1,bnd_ok,sel2_ok,eqI_self]
   · simp only [m139_2b,sel3,(ltI_iff 0 ((1+n:Nat):Int)).2 (by omega),br_true,r2,bnd_ok,sel2_ok,eqI_self]
  | some rest =>
   rw [hs] at r3;simp only [posOf] at r3;obtain ⟨p,hp1,hp2⟩:=scan_suffix okC _ _ _ hs;have hp3:=hp2 (Nat.le_refl _)
   have hlen:l.length-pos=p.length+rest.length:=by have:=congrArg List.length hp1;simpa using this
   have hq:q=((pos+p.length:Nat):Int):=by omega
   have hdrop:l.drop (pos+p.length)=rest:=by rw [←List.drop_drop,hp1];simp
   have ew:wsub .i64 ((1+n:Nat):Int) 1=(n:Int):=by rw [wsub64 (by omega) (by omega)];omega
   obtain ⟨o,o1,o2,o3⟩:=ih (pos+p.length) (ks++[t]) (by omega) (by omega) (by omega) (by simp;omega)
   rw [hdrop] at o3;refine ⟨o,?_,?_,o3⟩
   · rw [←o1];refine loopP_nxt ?_
     simp only [m139_2b,sel3,(ltI_iff 0 ((1+n:Nat):Int)).2 (by omega),br_true,r1,bnd_ok,sel2_ok,hq,(eqI_not ((pos+p.length:Nat):Int) 0).2 (by omega),br_false,ck_ok (show ks.length+1≤68719476736 by omega),ew]
   · rw [←o2];refine loopP_nxt ?_
     simp only [m139_2b,sel3,(ltI_iff 0 ((1+n:Nat):Int)).2 (by omega),br_true,r2,bnd_ok,sel2_ok,hq,(eqI_not ((pos+p.length:Nat):Int) 0).2 (by omega),br_false,ck_ok (show ks.length+1≤68719476736 by omega),ew]
theorem one (l:List ReCell)(hl:l.length≤1048576)(k:Nat)(rc1 rc2:List ReCell→Int→Option (l6T×Int))
    (hrc:∀at_:Nat,at_≤l.length→l.length<at_+k→∃r,rc1 l (at_:Int)=some r∧rc2 l (at_:Int)=some r∧r.2=posOf l (scan okC 1 (l.drop at_))) (at_:Nat) (h:l.length<at_+(k+1)) :
    ∃r,m139r rc1 l (at_:Int)=some r∧m139r rc2 l (at_:Int)=some r∧r.2=posOf l (scan okC 1 (l.drop at_)):=by
 by_cases ha:l.length≤at_
 · rw [List.drop_eq_nil_of_le ha];refine ⟨(⟨0,0,[]⟩,0),?_,?_,rfl⟩
   · simp only [m139r,(leI_iff (l.length:Int) (at_:Int)).2 (by omega),br_true]
   · simp only [m139r,(leI_iff (l.length:Int) (at_:Int)).2 (by omega),br_true]
 · have hlt:at_<l.length:=by omega
   rw [List.drop_eq_getElem_cons hlt]
   simp only [m139r,(leI_not (l.length:Int) (at_:Int)).2 (by omega),br_false,idx_get hlt,bnd_ok,p149,p139_1,scan]
   cases hc:okC l[at_] with
   | false=>exact ⟨_,rfl,rfl,rfl⟩
   | true =>
    have hc':=hc;simp only [okC,Bool.and_eq_true,decide_eq_true_eq] at hc';have hr:=ar_range l[at_].kind
    obtain ⟨n,hn⟩:∃n:Nat,ar l[at_].kind=(n:Int):=⟨(ar l[at_].kind).toNat,by omega⟩
    have ew:wadd .i64 (at_:Int) 1=((at_+1:Nat):Int):=by rw [wadd64 (by omega) (by omega)];omega
    obtain ⟨o,o1,o2,o3⟩:=kids l hl k rc1 rc2 hrc n (at_+1) [] (by omega) (by omega) (by omega) (by simp;omega)
    rw [hn,ew];simp only [Bool.not_true,br_false,o1,o2,bnd_ok,if_true,Nat.zero_add,Int.toNat_natCast]
    cases hs:scan okC n (l.drop (at_+1)) with
    | none =>
     rw [hs] at o3;simp only at o3;subst o3;exact ⟨_,rfl,rfl,rfl⟩
    | some rest =>
     rw [hs] at o3;obtain ⟨ks',rfl⟩:=o3;exact ⟨_,rfl,rfl,rfl⟩
theorem read (l:List ReCell)(hl:l.length≤1048576):∀(k at_:Nat),at_≤l.length→l.length<at_+k→∃r,m139k k l (at_:Int)=some r∧m139k (k+1) l (at_:Int)=some r∧r.2=posOf l (scan okC 1 (l.drop at_)):=by
 intro k
 induction k with
 | zero =>
  intro at_ h0 h
  exact absurd h (by omega)
 | succ k ih=>intro at_ h0 h;exact one l hl k (m139k k) (m139k (k+1)) ih at_ h
theorem p139 (l:List ReCell)(hl:l.length≤1048576):∃t,m139 l 0=some (t,posOf l (scan okC 1 l)):=by
 obtain ⟨r,r1,r2,r3⟩:=read l hl (l.length+1) 0 (by omega) (by omega)
 have all:∀j,m139k (l.length+1+j) l ((0:Nat):Int)=some r:=by
  intro j
  induction j with
  | zero=>exact r1
  | succ j ih =>
   obtain ⟨r',q1,q2,_⟩:=read l hl (l.length+1+j) 0 (by omega) (by omega)
   rw [ih] at q1;cases q1;exact q2
 obtain ⟨t,q⟩:=r;simp only [List.drop_zero] at r3;subst r3;refine ⟨t,?_⟩;unfold m139
 refine limO_iff.2 ⟨l.length+1,fun j hj=>?_⟩
 have:=all (j-(l.length+1))
 rw [show l.length+1+(j-(l.length+1))=j by omega] at this
 exact this
def okRe (l:List ReCell):Bool:=decide (l.length≤30)&&decide (scan okC 1 l=some [])
theorem p74 (l:List ReCell)(hl:l.length≤1048576):m74 l=some (okRe l):=by
 unfold m74 m109
 by_cases c:l.length≤30
 · rw [(ltI_not _ _).2 (by omega),br_false]
   obtain ⟨t,e⟩:=p139 l hl;rw [e,bnd_ok,sel2_ok]
   have e1:m109_1 l (posOf l (scan okC 1 l))=some (okRe l):=by
    unfold m109_1 okRe;rw [decide_eq_true c,Bool.true_and]
    cases hs:scan okC 1 l with
    | none=>rfl
    | some rest =>
     obtain ⟨p,hp1,hp2⟩:=scan_suffix okC _ _ _ hs;have hp3:=hp2 (Nat.le_refl _)
     have hlen:l.length=p.length+rest.length:=by have:=congrArg List.length hp1;simpa using this
     simp only [posOf]
     rw [(ltI_iff _ _).2 (by omega),br_true,Option.some.injEq,Bool.eq_iff_iff,eqI_iff,decide_eq_true_eq,Option.some.injEq]
     constructor
     · intro h;exact List.eq_nil_of_length_eq_zero (by omega)
     · intro h;subst h;simp
   rw [e1,bnd_ok,bnd_ok,sel2_ok]
 · rw [(ltI_iff _ _).2 (by omega),br_true,bnd_ok,sel2_ok,okRe,decide_eq_false c];rfl
def okA (c:ReCell):Bool:=decide (0≤ar c.kind)
theorem sizes (l:List ReCell)(hl:l.length≤1048576):∀(m i n:Nat),m+i=l.length→1≤n→n≤1+2*i →
    ∃o,loopP (m116_1b l 0) ((n:Int),(i:Int))=some o∧selS o (fun _=>some (-1:Int)) (fun v=>some v)=some (match scan okA n (l.drop i) with | some r=>(l.length:Int)-r.length | none=>-1):=by
 intro m
 induction m with
 | zero =>
  intro i n hm h1 h2
  rw [List.drop_eq_nil_of_le (by omega)]
  obtain ⟨n',rfl⟩:∃n',n=n'+1:=⟨n-1,by omega⟩
  exact ⟨.inl (),loopP_out (by simp only [m116_1b,sel2,(ltI_not (i:Int) (l.length:Int)).2 (by omega),br_false]),rfl⟩
 | succ m ih =>
  intro i n hm h1 h2
  have h:i<l.length:=by omega
  obtain ⟨n',rfl⟩:∃n',n=n'+1:=⟨n-1,by omega⟩
  rw [List.drop_eq_getElem_cons h,scan];have hr:=ar_range l[i].kind
  by_cases ha:0≤ar l[i].kind
  · have hok:okA l[i]=true:=decide_eq_true ha;rw [if_pos hok]
    obtain ⟨a,hn⟩:∃a:Nat,ar l[i].kind=(a:Int):=⟨(ar l[i].kind).toNat,by omega⟩
    have e1:wsub .i64 (a:Int) 1=(a:Int)-1:=wsub64 (by omega) (by omega)
    have e2:wadd .i64 ((n'+1:Nat):Int) ((a:Int)-1)=((n'+a:Nat):Int):=by rw [wadd64 (by omega) (by omega)];omega
    have e3:wadd .i64 (i:Int) 1=((i+1:Nat):Int):=wsucc h (by omega)
    have e4:wsub .i64 ((i+1:Nat):Int) 0=((i+1:Nat):Int):=by rw [wsub64 (by omega) (by omega)];omega
    rw [hn,Int.toNat_natCast]
    by_cases hz:n'+a=0
    · rw [hz,scan_zero];refine ⟨.inr ((i+1:Nat):Int),loopP_out ?_,?_⟩
      · simp only [m116_1b,sel2,(ltI_iff (i:Int) (l.length:Int)).2 (by omega),br_true,idx_get h,bnd_ok,p140,hn,(ltI_not (a:Int) 0).2 (by omega),br_false,e1,e2,e3,e4,(eqI_iff ((n'+a:Nat):Int) 0).2 (by omega)]
      · simp only [selS_inr,List.length_drop];congr 1;omega
    · obtain ⟨o,o1,o2⟩:=ih (i+1) (n'+a) (by omega) (by omega) (by omega)
      refine ⟨o,?_,o2⟩;rw [←o1];refine loopP_nxt ?_
      simp only [m116_1b,sel2,(ltI_iff (i:Int) (l.length:Int)).2 (by omega),br_true,idx_get h,bnd_ok,p140,hn,(ltI_not (a:Int) 0).2 (by omega),br_false,e1,e2,e3,(eqI_not ((n'+a:Nat):Int) 0).2 (by omega)]
  · have hok:¬okA l[i]=true:=by unfold okA;rw [decide_eq_false ha];simp
    rw [if_neg hok];refine ⟨.inr (-1),loopP_out ?_,rfl⟩
    simp only [m116_1b,sel2,(ltI_iff (i:Int) (l.length:Int)).2 (by omega),br_true,idx_get h,bnd_ok,p140,(ltI_iff (ar l[i].kind) 0).2 (by omega)]
theorem p116 (l:List ReCell)(hl:l.length≤1048576):m116 l 0=some (match scan okA 1 l with | some r=>(l.length:Int)-r.length | none=>-1):=by
 obtain ⟨o,o1,o2⟩:=sizes l hl l.length 0 1 (by omega) (by omega) (by omega)
 have o1':loopP (m116_1b l 0) (1,0)=some o:=o1;unfold m116;rw [o1',bnd_ok,o2,List.drop_zero]
theorem p118 (c:ReCell):m118 c=some (!okN c):=by
 simp only [m118,m118_1,m119,p87,bnd_ok,br_bool,okN];rw [Option.some.injEq,Bool.eq_iff_iff];simp only [Bool.and_eq_true,Bool.or_eq_true,Bool.not_eq_true',Bool.and_eq_false_iff,decide_eq_true_eq,decide_eq_false_iff_not,eqI_iff,eqI_not,Bool.not_eq_false',and_true,Bool.true_eq_false,and_false,Bool.false_eq_true,false_or,or_false];omega
theorem p117 (l:List ReCell)(hl:l.length≤1048576):m117 l (fun y0=>m118 y0)=some (l.any fun c=>!okN c):=by
 simp only [m117,m141,indexFunc (body:=m141_1b l (l.length:Int) (fun y0=>m118 y0)) (f:=fun y0=>m118 y0) l (fun c=>!okN c) (fun x _=>p118 x) (by omega) (fun s=>rfl),bnd_ok,containsFunc]
theorem any_not {α:Type}(p:α→Bool)(l:List α):(!l.any fun c=>!p c)=l.all p:=by
 induction l with
 | nil=>rfl
 | cons c r ih=>simp only [List.any_cons,List.all_cons,Bool.not_or,Bool.not_not,ih]
theorem p85 (l:List ReCell)(hl:l.length≤1048576):m85 l=some (okRe l):=by
 simp only [m85,m85_1,p87,bnd_ok,p116 l hl,p117 l hl,any_not];have hs:=scan_all l 1
 by_cases c:1≤l.length∧l.length≤30
 · rw [decide_eq_true (show 1≤(l.length:Int)∧(l.length:Int)≤30 by omega),br_true,bnd_ok]
   have e:(eqI (match scan okA 1 l with | some r=>(l.length:Int)-r.length | none=>-1) (l.length:Int))=decide (scan okA 1 l=some []):=by
    rw [Bool.eq_iff_iff,eqI_iff,decide_eq_true_eq]
    cases hq:scan okA 1 l with
    | none=>simp
    | some rest =>
     simp only [Option.some.injEq]
     constructor
     · intro h;exact List.eq_nil_of_length_eq_zero (by omega)
     · intro h;subst h;simp
   rw [e]
   by_cases h1:scan okA 1 l=some []
   · rw [decide_eq_true h1,Bool.not_true,br_false,Option.some.injEq,Bool.eq_iff_iff,okRe,decide_eq_true c.2,Bool.true_and,decide_eq_true_eq,hs]
     exact ⟨fun h=>⟨h1,h⟩,fun h=>h.2⟩
   · rw [decide_eq_false h1,Bool.not_false,br_true,okRe,decide_eq_false (p:=scan okC 1 l=some []) (fun h=>h1 (hs.1 h).1),Bool.and_false]
 · rw [decide_eq_false (show ¬(1≤(l.length:Int)∧(l.length:Int)≤30) by omega),br_false,bnd_ok,br_true,okRe]
   by_cases c2:l.length≤30
   · have:l=[]:=List.eq_nil_of_length_eq_zero (by omega)
     subst this;rfl
   · rw [decide_eq_false c2];rfl
noncomputable def okT (t:Term):Bool:=t.ranges.all okRange&&t.acts.all okAct&&(decide (t.ranges.length≤6)&&decide (t.acts.length≤5)&&(decide (t.path.length=0)||okRe t.path)&&decide (-1≤t.comm∧t.comm≤1000000)&&decide (0≤t.verdict∧t.verdict≤2))
theorem p47 (t:Term)(h1:t.ranges.length≤1048576)(h2:t.path.length≤1048576)(h3:t.acts.length≤1048576):m47 t=some (okT t):=by
 have l1:=loop_all (body:=m47_1b t (t.ranges.length:Int)) t.ranges.length (atB t.ranges okRange) (.inl ()) (.inr ()) (fun k h=>by
  simp only [m47_1b,(ltI_iff (k:Int) (t.ranges.length:Int)).2 (by omega),br_true,idx_get h,bnd_ok,p47_3,wsucc h (by omega),atB_get h]
  cases okRange t.ranges[k]<;>rfl) (by simp only [m47_1b,(ltI_not (t.ranges.length:Int) (t.ranges.length:Int)).2 (by omega),br_false])
 have l2:=loop_all (body:=m47_4b t (t.acts.length:Int)) t.acts.length (atB t.acts okAct) (.inl ()) (.inr ()) (fun k h=>by
  simp only [m47_4b,(ltI_iff (k:Int) (t.acts.length:Int)).2 (by omega),br_true,idx_get h,bnd_ok,p73,wsucc h (by omega),atB_get h]
  cases okAct t.acts[k]<;>rfl) (by simp only [m47_4b,(ltI_not (t.acts.length:Int) (t.acts.length:Int)).2 (by omega),br_false])
 rw [allN_list] at l1 l2
 have e5:m47_5 t=some (decide (t.ranges.length≤6)&&decide (t.acts.length≤5)&&(decide (t.path.length=0)||okRe t.path)&&decide (-1≤t.comm∧t.comm≤1000000)&&decide (0≤t.verdict∧t.verdict≤2)):=by
  simp only [m47_5,p72,bnd_ok,p74 t.path h2]
  have a1:leI (t.ranges.length:Int) 6=decide (t.ranges.length≤6):=by rw [Bool.eq_iff_iff,leI_iff,decide_eq_true_eq];omega
  have a2:leI (t.acts.length:Int) 5=decide (t.acts.length≤5):=by rw [Bool.eq_iff_iff,leI_iff,decide_eq_true_eq];omega
  have a3:eqI (t.path.length:Int) 0=decide (t.path.length=0):=by rw [Bool.eq_iff_iff,eqI_iff,decide_eq_true_eq];omega
  rw [a1,a2,a3]
  cases decide (t.ranges.length≤6)<;>cases decide (t.acts.length≤5)<;>cases decide (t.path.length=0)<;>cases okRe t.path<;>cases decide (-1≤t.comm∧t.comm≤1000000)<;>cases decide (0≤t.verdict∧t.verdict≤2)<;>rfl
 simp only [m47,l1,l2,bnd_ok,e5,okT]
 cases t.ranges.all okRange with
 | false=>rfl
 | true=>cases t.acts.all okAct<;>rfl
theorem p57 (t:Term)(h1:t.ranges.length≤1048576)(h2:t.path.length≤1048576)(h3:t.acts.length≤1048576):m57 t=some (okT t):=by
 have l1:m88 t.ranges (fun y0=>m89 y0)=some (t.ranges.any fun x=>!okRange x):=by
  simp only [m88,m120,indexFunc (body:=m120_1b t.ranges (t.ranges.length:Int) (fun y0=>m89 y0)) (f:=fun y0=>m89 y0) t.ranges (fun x=>!okRange x) (fun x _=>p89 x) (by omega) (fun s=>rfl),bnd_ok,containsFunc]
 have l2:m90 t.acts (fun y0=>m91 y0)=some (t.acts.any fun x=>!okAct x):=by
  simp only [m90,m121,indexFunc (body:=m121_1b t.acts (t.acts.length:Int) (fun y0=>m91 y0)) (f:=fun y0=>m91 y0) t.acts (fun x=>!okAct x) (fun x _=>by simp only [m91,p92,bnd_ok]) (by omega) (fun s=>rfl),bnd_ok,containsFunc]
 have e2:m57_2 t=some (t.ranges.all okRange&&t.acts.all okAct):=by
  simp only [m57_2,l1,l2,bnd_ok,any_not];rw [←any_not okRange]
  cases t.ranges.any fun x=>!okRange x<;>rfl
 have e1:m57_1 t=some (!(decide (t.ranges.length≤6)&&decide (t.acts.length≤5)&&(decide (t.path.length=0)||okRe t.path)&&decide (-1≤t.comm∧t.comm≤1000000)&&decide (0≤t.verdict∧t.verdict≤2))):=by
  simp only [m57_1,m86,p87,bnd_ok,p85 t.path h2]
  have a1:ltI 6 (t.ranges.length:Int)=!decide (t.ranges.length≤6):=by rw [Bool.eq_iff_iff,ltI_iff,Bool.not_eq_true',decide_eq_false_iff_not];omega
  have a2:ltI 5 (t.acts.length:Int)=!decide (t.acts.length≤5):=by rw [Bool.eq_iff_iff,ltI_iff,Bool.not_eq_true',decide_eq_false_iff_not];omega
  have a3:ltI 0 (t.path.length:Int)=!decide (t.path.length=0):=by rw [Bool.eq_iff_iff,ltI_iff,Bool.not_eq_true',decide_eq_false_iff_not];omega
  have a4:decide (-1≤t.comm∧t.comm≤1000000)=(eqI t.comm (-1)||decide (0≤t.comm∧t.comm≤1000000)):=by rw [Bool.eq_iff_iff,Bool.or_eq_true,eqI_iff,decide_eq_true_eq,decide_eq_true_eq];omega
  rw [a1,a2,a3,a4]
  cases decide (t.ranges.length≤6)<;>cases decide (t.acts.length≤5)<;>cases decide (t.path.length=0)<;>cases okRe t.path<;>cases eqI t.comm (-1)<;>cases decide (0≤t.comm∧t.comm≤1000000)<;>cases decide (0≤t.verdict∧t.verdict≤2)<;>rfl
 simp only [m57,e1,e2,bnd_ok,okT];generalize (decide (t.ranges.length≤6)&&decide (t.acts.length≤5)&&(decide (t.path.length=0)||okRe t.path)&&decide (-1≤t.comm∧t.comm≤1000000)&&decide (0≤t.verdict∧t.verdict≤2))=b
 cases b<;>cases t.ranges.all okRange<;>cases t.acts.all okAct<;>rfl
inductive RX where
 | no | ep | as (n:Int) | an | cat (a b:RX) | alt (a b:RX) | st (a:RX)
 deriving DecidableEq
def toS:RX→l6T
 | .no=>.mk 1 0 [] | .ep=>.mk 2 0 [] | .as n=>.mk 3 n [] | .an=>.mk 4 0 []
 | .cat a b=>.mk 5 0 [toS a,toS b] | .alt a b=>.mk 6 0 [toS a,toS b] | .st a=>.mk 7 0 [toS a]
def toI:RX→pattern
 | .no=>.mk ⟨1,0⟩ [] | .ep=>.mk ⟨2,0⟩ [] | .as n=>.mk ⟨3,n⟩ [] | .an=>.mk ⟨4,0⟩ []
 | .cat a b=>.mk ⟨5,0⟩ [toI a,toI b] | .alt a b=>.mk ⟨6,0⟩ [toI a,toI b] | .st a=>.mk ⟨7,0⟩ [toI a]
def flat:RX→List ReCell
 | .no=>[⟨1,0⟩] | .ep=>[⟨2,0⟩] | .as n=>[⟨3,n⟩] | .an=>[⟨4,0⟩]
 | .cat a b=>⟨5,0⟩::(flat a++flat b) | .alt a b=>⟨6,0⟩::(flat a++flat b) | .st a=>⟨7,0⟩::flat a
def nul:RX→Bool
 | .ep=>true | .st _=>true | .cat a b=>nul a&&nul b | .alt a b=>nul a||nul b | _=>false
def der (x:Int):RX→RX
 | .as n=>if n=x then .ep else .no
 | .an=>.ep
 | .alt a b=>.alt (der x a) (der x b)
 | .st a=>.cat (der x a) (.st a)
 | .cat a b=>if nul a=true then .alt (.cat (der x a) b) (der x b) else .cat (der x a) b
 | _=>.no
def mkCat (a b:RX):RX:=if a=.no∨b=.no then .no else if a=.ep then b else if b=.ep then a else .cat a b
def mkAlt (a b:RX):RX:=if a=.no then b else if b=.no∨a=b then a else .alt a b
def mkSt:RX→RX
 | .no=>.ep | .ep=>.ep | .st a=>.st a | a=>.st a
def td:RX→RX
 | .cat a b=>mkCat (td a) (td b) | .alt a b=>mkAlt (td a) (td b) | .st a=>mkSt (td a)
 | r=>r
def kn:RX→Int
 | .no=>1 | .ep=>2 | .as _=>3 | .an=>4 | .cat _ _=>5 | .alt _ _=>6 | .st _=>7
def Ev {α:Type}(f:Nat→Option α)(r:α):Prop:=∃N,∀j,N≤j→f j=some r
theorem ev_succ {α:Type}{f:Nat→Option α}{r:α}(N:Nat)(h:∀j,N≤j→f (j+1)=some r):Ev f r :=
 ⟨N+1,fun j hj=>by obtain ⟨j',rfl⟩:∃j',j=j'+1:=⟨j-1,by omega⟩;exact h j' (by omega)⟩
theorem ev_lim {α:Type}{f:Nat→Option α}{r:α}(h:Ev f r):limO f=some r:=limO_iff.2 h
theorem idx0 {α:Type}(x:α)(l:List α):idx (x::l) 0=some x:=by simp [idx]
theorem idx1 {α:Type}(x y:α)(l:List α):idx (x::y::l) 1=some y:=by simp [idx]
theorem nulI (r:RX):Ev (fun k=>m129k k (toI r)) (nul r):=by
 induction r with
 | no=>exact ev_succ 0 fun j _=>rfl
 | ep=>exact ev_succ 0 fun j _=>rfl
 | as n=>exact ev_succ 0 fun j _=>rfl
 | an=>exact ev_succ 0 fun j _=>rfl
 | st a _=>exact ev_succ 0 fun j _=>rfl
 | cat a b iha ihb =>
  obtain ⟨N,ha⟩:=iha;obtain ⟨M,hb⟩:=ihb
  refine ev_succ (max N M) fun j hj=>?_
  have h1:=ha j (by omega);have h2:=hb j (by omega)
  show m129r (m129k j) (toI (.cat a b))=_;simp only at h1 h2
  cases e:nul a<;>simp [m129r,m129_1,m129_2,m129_3,toI,pattern.cell,pattern.parts,eqI,br,bnd,idx0,idx1,h1,h2,nul,e]
 | alt a b iha ihb =>
  obtain ⟨N,ha⟩:=iha;obtain ⟨M,hb⟩:=ihb
  refine ev_succ (max N M) fun j hj=>?_
  have h1:=ha j (by omega);have h2:=hb j (by omega)
  show m129r (m129k j) (toI (.alt a b))=_;simp only at h1 h2
  cases e:nul a<;>simp [m129r,m129_1,m129_2,m129_3,toI,pattern.cell,pattern.parts,eqI,br,bnd,idx0,idx1,h1,h2,nul,e]
theorem p129 (r:RX):m129 (toI r)=some (nul r):=ev_lim (nulI r)
theorem derI (x:Int)(r:RX):Ev (fun k=>m127k k (toI r) x) (toI (der x r)):=by
 induction r with
 | no=>exact ev_succ 0 fun j _=>rfl
 | ep=>exact ev_succ 0 fun j _=>rfl
 | as n =>
  refine ev_succ 0 fun j _=>?_
  show m127r (m127k j) (toI (.as n)) x=_
  by_cases c:n=x<;>simp [m127r,m127_1,m143,toI,pattern.cell,pattern.parts,eqI,br,bnd,selS,sel2,der,c]
 | an=>exact ev_succ 0 fun j _=>rfl
 | st a iha =>
  obtain ⟨N,ha⟩:=iha
  refine ev_succ N fun j hj=>?_
  have h1:=ha j hj;simp only at h1;show m127r (m127k j) (toI (.st a)) x=_;simp [m127r,m127_1,m143,toI,pattern.cell,pattern.parts,eqI,br,bnd,selS,sel2,der,idx0,h1]
 | cat a b iha ihb =>
  obtain ⟨N,ha⟩:=iha;obtain ⟨M,hb⟩:=ihb
  refine ev_succ (max N M) fun j hj=>?_
  have h1:=ha j (by omega);have h2:=hb j (by omega)
  simp only at h1 h2;show m127r (m127k j) (toI (.cat a b)) x=_
  cases e:nul a<;>simp [m127r,m127_1,m143,toI,pattern.cell,pattern.parts,eqI,br,bnd,selS,sel2,der,idx0,idx1,h1,h2,p129,e]
 | alt a b iha ihb =>
  obtain ⟨N,ha⟩:=iha;obtain ⟨M,hb⟩:=ihb
  refine ev_succ (max N M) fun j hj=>?_
  have h1:=ha j (by omega);have h2:=hb j (by omega)
  simp only at h1 h2;show m127r (m127k j) (toI (.alt a b)) x=_;simp [m127r,m127_1,m143,toI,pattern.cell,pattern.parts,eqI,br,bnd,selS,sel2,der,idx0,idx1,h1,h2]
theorem p127 (x:Int)(r:RX):m127 (toI r) x=some (toI (der x r)):=ev_lim (derI x r)
theorem knI (r:RX):(toI r).cell.kind=kn r:=by cases r<;>rfl
theorem kn1 (r:RX):kn r=1↔r=.no:=by cases r<;>simp [kn]
theorem kn2 (r:RX):kn r=2↔r=.ep:=by cases r<;>simp [kn]
theorem w01:wadd .i64 0 1=1:=by decide
theorem w11:wadd .i64 1 1=2:=by decide
theorem flat_pos (r:RX):1≤(flat r).length:=by cases r<;>simp [flat]
theorem cells0 (rc:pattern→Option (List ReCell))(x:pattern)(acc:List ReCell):loopP (m146_1b rc x 0) (0,acc)=some acc:=loopP_out (by simp [m146_1b,sel2,ltI,br])
theorem cellsI (r:RX):(flat r).length≤68719476736→Ev (fun k=>m146k k (toI r)) (flat r):=by
 induction r with
 | no | ep | an | as n =>
  intro h
  refine ev_succ 0 fun j _=>?_
  show m146r (m146k j) _=_;simp only [m146r]
  rw [show ((toI _).parts.length:Int)=0 from rfl,cells0]
  rfl
 | st a iha =>
  intro h;simp only [flat,List.length_cons] at h
  obtain ⟨N,ha⟩:=iha (by omega)
  refine ev_succ N fun j hj=>?_
  show m146r (m146k j) _=_;have h1:=ha j hj;simp only at h1;simp only [m146r]
  rw [show ((toI (.st a)).parts.length:Int)=1 from rfl,show (toI (.st a)).cell=⟨7,0⟩ from rfl]
  rw [loopP_nxt (s':=(1,[⟨7,0⟩]++flat a)) (by simp only [m146_1b,sel2,ltI,br,bnd,show (toI (.st a)).parts=[toI a] from rfl,idx0,h1,w01];rw [ck_ok (by simp;omega)];rfl),loopP_out (b:=[⟨7,0⟩]++flat a) (by simp [m146_1b,sel2,ltI,br])]
  simp [flat]
 | cat a b iha ihb =>
  intro h;simp only [flat,List.length_cons,List.length_append] at h
  obtain ⟨N,ha⟩:=iha (by omega)
  obtain ⟨M,hb⟩:=ihb (by omega)
  refine ev_succ (max N M) fun j hj=>?_
  show m146r (m146k j) _=_
  have h1:=ha j (by omega)
  have h2:=hb j (by omega)
  simp only at h1 h2;simp only [m146r]
  rw [show ((toI (.cat a b)).parts.length:Int)=2 from rfl,show (toI (.cat a b)).cell=⟨5,0⟩ from rfl]
  rw [loopP_nxt (s':=(1,[⟨5,0⟩]++flat a)) (by simp only [m146_1b,sel2,ltI,br,bnd,show (toI (.cat a b)).parts=[toI a,toI b] from rfl,idx0,h1,w01];rw [ck_ok (by simp;omega)];rfl),
   loopP_nxt (s':=(2,([⟨5,0⟩]++flat a)++flat b)) (by simp only [m146_1b,sel2,ltI,br,bnd,show (toI (.cat a b)).parts=[toI a,toI b] from rfl,idx1,h2,w11];rw [ck_ok (by simp;omega)];rfl),loopP_out (b:=([⟨5,0⟩]++flat a)++flat b) (by simp [m146_1b,sel2,ltI,br])]
  simp [flat]
 | alt a b iha ihb =>
  intro h;simp only [flat,List.length_cons,List.length_append] at h
  obtain ⟨N,ha⟩:=iha (by omega)
  obtain ⟨M,hb⟩:=ihb (by omega)
  refine ev_succ (max N M) fun j hj=>?_
  show m146r (m146k j) _=_
  have h1:=ha j (by omega)
  have h2:=hb j (by omega)
  simp only at h1 h2;simp only [m146r]
  rw [show ((toI (.alt a b)).parts.length:Int)=2 from rfl,show (toI (.alt a b)).cell=⟨6,0⟩ from rfl]
  rw [loopP_nxt (s':=(1,[⟨6,0⟩]++flat a)) (by simp only [m146_1b,sel2,ltI,br,bnd,show (toI (.alt a b)).parts=[toI a,toI b] from rfl,idx0,h1,w01];rw [ck_ok (by simp;omega)];rfl),
   loopP_nxt (s':=(2,([⟨6,0⟩]++flat a)++flat b)) (by simp only [m146_1b,sel2,ltI,br,bnd,show (toI (.alt a b)).parts=[toI a,toI b] from rfl,idx1,h2,w11];rw [ck_ok (by simp;omega)];rfl),loopP_out (b:=([⟨6,0⟩]++flat a)++flat b) (by simp [m146_1b,sel2,ltI,br])]
  simp [flat]
theorem p146 (r:RX)(h:(flat r).length≤68719476736):m146 (toI r)=some (flat r):=ev_lim (cellsI r h)
theorem p145 (l1 l2:List ReCell)(hl:l1.length≤68719476736):m145 l1 l2=some (decide (l1=l2)):=by
 unfold m145
 by_cases c:l1.length=l2.length
 · rw [(eqI_iff _ _).2 (by omega),br_true]
   rw [loop_all (body:=m145_1b l1 l2 (l1.length:Int)) l1.length (fun k=>decide (l1[k]?=l2[k]?)) (.inl ()) (.inr ()) (fun k hk=>?_) (by simp [m145_1b,ltI,br])]
   · by_cases e:l1=l2
     · have:allN l1.length (fun k=>decide (l1[k]?=l2[k]?))=true:=allN_iff.2 fun k _=>by rw [e];simp
       rw [this,decide_eq_true e];rfl
     · have : ¬ allN l1.length (fun k => decide (l1[k]? = l2[k]?)) = true := fun h => e (List.ext_getElem? fun k => by
         by_cases hk:k<l1.length
         · exact of_decide_eq_true (allN_iff.1 h k hk)
         · rw [List.getElem?_eq_none (by omega),List.getElem?_eq_none (by omega)])
       rw [if_neg this,decide_eq_false e];rfl
   · have hk2:k<l2.length:=by omega
     rw [m145_1b,(ltI_iff _ _).2 (by omega),br_true,idx_get hk,idx_get hk2,bnd_ok,bnd_ok,List.getElem?_eq_getElem hk,List.getElem?_eq_getElem hk2,wsucc hk (by omega)]
     by_cases e:l1[k]=l2[k]
     · rw [if_pos (by simp [e]),e,eqI_self,eqI_self];rfl
     · rw [if_neg (by simp [e])]
       have:(eqI l1[k].kind l2[k].kind&&eqI l1[k].n l2[k].n)=false:=by
        cases h1:l1[k];cases h2:l2[k];rw [h1,h2] at e;simp only [ReCell.mk.injEq] at e;simp only [eqI,Bool.and_eq_false_iff,decide_eq_false_iff_not];exact Classical.not_and_iff_not_or_not.1 e
       rw [this];rfl
 · rw [(eqI_not _ _).2 (by omega),br_false,decide_eq_false (fun e=>c (by rw [e]))]
theorem flat_pre:∀(a b:RX) (s t:List ReCell),flat a++s=flat b++t→a=b∧s=t:=by
 intro a
 induction a with
 | no | ep | an=>intro b s t h;cases b<;>simp [flat] at h ⊢<;>exact h
 | as n=>intro b s t h;cases b<;>simp [flat] at h ⊢<;>exact h
 | st a iha =>
  intro b s t h
  cases b with
  | st b =>
   simp only [flat,List.cons_append,List.cons.injEq,true_and] at h;obtain ⟨rfl,h2⟩:=iha _ _ _ h;exact ⟨rfl,h2⟩
  | _=>simp [flat] at h
 | cat a a2 iha iha2 =>
  intro b s t h
  cases b with
  | cat b b2 =>
   simp only [flat,List.cons_append,List.cons.injEq,true_and,List.append_assoc] at h;obtain ⟨rfl,h2⟩:=iha _ _ _ h;obtain ⟨rfl,h3⟩:=iha2 _ _ _ h2;exact ⟨rfl,h3⟩
  | _=>simp [flat] at h
 | alt a a2 iha iha2 =>
  intro b s t h
  cases b with
  | alt b b2 =>
   simp only [flat,List.cons_append,List.cons.injEq,true_and,List.append_assoc] at h;obtain ⟨rfl,h2⟩:=iha _ _ _ h;obtain ⟨rfl,h3⟩:=iha2 _ _ _ h2;exact ⟨rfl,h3⟩
  | _=>simp [flat] at h
theorem flat_inj (a b:RX):flat a=flat b↔a=b:=⟨fun h=>(flat_pre a b [] [] (by rw [h])).1,fun h=>by rw [h]⟩
theorem mkCat_len (a b:RX):(flat (mkCat a b)).length≤1+(flat a).length+(flat b).length:=by
 have:=flat_pos a;have:=flat_pos b;unfold mkCat;repeat' split
 all_goals simp [flat];try omega
theorem mkAlt_len (a b:RX):(flat (mkAlt a b)).length≤1+(flat a).length+(flat b).length:=by
 have:=flat_pos a;have:=flat_pos b;unfold mkAlt;repeat' split
 all_goals simp [flat];try omega
theorem mkSt_len (a:RX):(flat (mkSt a)).length≤1+(flat a).length:=by
 cases a<;>simp [mkSt,flat]<;>omega
theorem td_len (r:RX):(flat (td r)).length≤(flat r).length:=by
 induction r with
 | no | ep | an | as n=>exact Nat.le_refl _
 | st a iha=>have:=mkSt_len (td a);simp only [td,flat,List.length_cons];omega
 | cat a b iha ihb=>have:=mkCat_len (td a) (td b);simp only [td,flat,List.length_cons,List.length_append];omega
 | alt a b iha ihb=>have:=mkAlt_len (td a) (td b);simp only [td,flat,List.length_cons,List.length_append];omega
theorem mI5 (rc:pattern→Option pattern)(a0:pattern)(a b:RX):(bnd (m128_2 rc a0 true (.mk ⟨5,0⟩ [toI a,toI b])) fun o=>selS o (fun _=>some (pattern.mk ⟨5,0⟩ [toI a,toI b])) (fun v=>some v))=some (toI (mkCat a b)):=by
 simp only [m128_2,m128_3,m144,pattern.parts,idx0,idx1,bnd_ok,knI,eqI,br,kn1,kn2,mkCat,m143]
 by_cases c1:a=.no
 · simp [c1,bnd,selS,toI]
 by_cases c2:b=.no
 · simp [c1,c2,bnd,selS,toI]
 by_cases c3:a=.ep
 · simp [c2,c3,bnd,selS]
 by_cases c4:b=.ep
 · simp [c1,c3,c4,bnd,selS]
 · simp [c1,c2,c3,c4,bnd,selS,toI]
theorem mI6 (rc:pattern→Option pattern)(a0:pattern)(h0:a0.cell.kind=6)(a b:RX)(ha:(flat a).length≤68719476736)(hb:(flat b).length≤68719476736) :
    (bnd (m128_2 rc a0 false (.mk ⟨6,0⟩ [toI a,toI b])) fun o=>selS o (fun _=>some (pattern.mk ⟨6,0⟩ [toI a,toI b])) (fun v=>some v))=some (toI (mkAlt a b)):=by
 simp only [m128_2,m128_4,m128_5,m144,pattern.parts,idx0,idx1,bnd_ok,knI,eqI,br,kn1,kn2,mkAlt,m143,h0,p146 a ha,p146 b hb,p145 _ _ ha,flat_inj]
 by_cases c1:a=.no
 · simp [c1,bnd,selS]
 by_cases c2:b=.no
 · simp [c1,c2,bnd,selS]
 by_cases c3:a=b
 · simp [c2,c3,bnd,selS]
 · simp [c1,c2,c3,bnd,selS,toI]
theorem mI7 (rc:pattern→Option pattern)(a0:pattern)(h0:a0.cell.kind=7)(a:RX) :
    (bnd (m128_2 rc a0 false (.mk ⟨7,0⟩ [toI a])) fun o=>selS o (fun _=>some (pattern.mk ⟨7,0⟩ [toI a])) (fun v=>some v))=some (toI (mkSt a)):=by
 simp only [m128_2,m128_4,m128_6,m128_7,m144,pattern.parts,idx0,bnd_ok,knI,eqI,br,h0,m143]
 cases a<;>simp [kn,bnd,selS,mkSt,toI]
theorem mI0 (rc:pattern→Option pattern)(a0 p:pattern)(h5:a0.cell.kind≠6)(h6:a0.cell.kind≠7) :
    (bnd (m128_2 rc a0 false p) fun o=>selS o (fun _=>some p) (fun v=>some v))=some p:=by
 simp [m128_2,m128_4,m128_6,eqI,br,h5,h6,bnd,selS]
theorem kidsI0 (rc:pattern→Option pattern)(x:pattern):loopP (m128_1b rc x 0) (0,[])=some []:=loopP_out (by simp [m128_1b,sel2,ltI,br])
theorem kidsI1 {rc:pattern→Option pattern}{x u v:pattern}(hx:x.parts=[u])(h:rc u=some v):loopP (m128_1b rc x 1) (0,[])=some [v]:=by
 rw [loopP_nxt (s':=(1,[v])) (by simp [m128_1b,sel2,ltI,br,bnd,hx,idx0,h,w01,ck])]
 exact loopP_out (by simp [m128_1b,sel2,ltI,br])
theorem kidsI2 {rc:pattern→Option pattern}{x u v u2 v2:pattern}(hx:x.parts=[u,u2])(h:rc u=some v)(h2:rc u2=some v2):loopP (m128_1b rc x 2) (0,[])=some [v,v2]:=by
 rw [loopP_nxt (s':=(1,[v])) (by simp [m128_1b,sel2,ltI,br,bnd,hx,idx0,h,w01,ck]),loopP_nxt (s':=(2,[v,v2])) (by simp [m128_1b,sel2,ltI,br,bnd,hx,idx1,h2,w11,ck])]
 exact loopP_out (by simp [m128_1b,sel2,ltI,br])
theorem tidyI (r:RX):(flat r).length≤68719476736→Ev (fun k=>m128k k (toI r)) (toI (td r)):=by
 induction r with
 | no | ep | an | as n =>
  intro _
  refine ev_succ 0 fun j _=>?_
  show m128r (m128k j) _=_;simp only [m128r]
  rw [show ((toI _).parts.length:Int)=0 from rfl,kidsI0,bnd_ok]
  exact mI0 _ _ _ (by simp [toI,pattern.cell]) (by simp [toI,pattern.cell])
 | st a iha =>
  intro h;simp only [flat,List.length_cons] at h
  obtain ⟨N,ha⟩:=iha (by omega)
  refine ev_succ N fun j hj=>?_
  show m128r (m128k j) _=_;simp only [m128r]
  rw [show ((toI (.st a)).parts.length:Int)=1 from rfl,kidsI1 (x:=toI (.st a)) rfl (ha j hj),bnd_ok]
  exact mI7 _ _ rfl _
 | cat a b iha ihb =>
  intro h;simp only [flat,List.length_cons,List.length_append] at h
  obtain ⟨N,ha⟩:=iha (by omega);obtain ⟨M,hb⟩:=ihb (by omega)
  refine ev_succ (max N M) fun j hj=>?_
  show m128r (m128k j) _=_;simp only [m128r]
  rw [show ((toI (.cat a b)).parts.length:Int)=2 from rfl,kidsI2 (x:=toI (.cat a b)) rfl (ha j (by omega)) (hb j (by omega)),bnd_ok]
  exact mI5 _ _ _ _
 | alt a b iha ihb =>
  intro h;simp only [flat,List.length_cons,List.length_append] at h
  obtain ⟨N,ha⟩:=iha (by omega);obtain ⟨M,hb⟩:=ihb (by omega)
  have:=td_len a;have:=td_len b
  refine ev_succ (max N M) fun j hj=>?_
  show m128r (m128k j) _=_;simp only [m128r]
  rw [show ((toI (.alt a b)).parts.length:Int)=2 from rfl,kidsI2 (x:=toI (.alt a b)) rfl (ha j (by omega)) (hb j (by omega)),bnd_ok]
  exact mI6 _ _ rfl _ _ (by omega) (by omega)
theorem p128 (r:RX)(h:(flat r).length≤68719476736):m128 (toI r)=some (toI (td r)):=ev_lim (tidyI r h)
def okX:RX→Prop
 | .as n=>1≤n∧n≤65535 | .cat a b=>okX a∧okX b | .alt a b=>okX a∧okX b | .st a=>okX a | _=>True
theorem rx_of:∀(l:List ReCell) (n:Nat) (rest:List ReCell),scan okC n l=some rest→∃rs:List RX,rs.length=n∧(∀r∈rs,okX r)∧l=rs.flatMap flat++rest:=by
 intro l
 induction l with
 | nil =>
  intro n rest h
  cases n with
  | zero=>cases h;exact ⟨[],rfl,by simp,rfl⟩
  | succ n=>cases h
 | cons c t ih =>
  intro n rest h
  cases n with
  | zero=>rw [scan_zero] at h;cases h;exact ⟨[],rfl,by simp,rfl⟩
  | succ n =>
   simp only [scan] at h;split at h
   · rename_i hok;obtain ⟨rs,h1,h2,h3⟩:=ih _ _ h;obtain ⟨k,m⟩:=c;simp only [okC,okN,Bool.and_eq_true,decide_eq_true_eq] at hok;obtain ⟨hk,hm1,hm2⟩:=hok
     have hkk:(k=1∨k=2∨k=4∨k=3)∨k=5∨k=6∨k=7:=by unfold ar at hk;(repeat' split at hk)<;>omega
     rcases hkk with (hk1|hk1|hk1|hk1) | hk1|hk1|hk1
     · subst hk1;have:=hm2 (by omega);subst this
       exact ⟨.no::rs,by simp [h1,ar],List.forall_mem_cons.2 ⟨trivial,h2⟩,by rw [h3];rfl⟩
     · subst hk1;have:=hm2 (by omega);subst this
       exact ⟨.ep::rs,by simp [h1,ar],List.forall_mem_cons.2 ⟨trivial,h2⟩,by rw [h3];rfl⟩
     · subst hk1;have:=hm2 (by omega);subst this
       exact ⟨.an::rs,by simp [h1,ar],List.forall_mem_cons.2 ⟨trivial,h2⟩,by rw [h3];rfl⟩
     · subst hk1
       exact ⟨.as m::rs,by simp [h1,ar],List.forall_mem_cons.2 ⟨hm1 rfl,h2⟩,by rw [h3];rfl⟩
     · subst hk1;have:=hm2 (by omega);subst this
       have h1':rs.length=n+2:=by simpa [ar] using h1
       match rs,h1',h2,h3 with
       | a::b::rs,h1',h2,h3=>exact ⟨.cat a b::rs,by simpa using h1',List.forall_mem_cons.2 ⟨⟨h2 a (by simp),h2 b (by simp)⟩,fun r hr=>h2 r (by simp [hr])⟩,by rw [h3];simp [flat]⟩
     · subst hk1;have:=hm2 (by omega);subst this
       have h1':rs.length=n+2:=by simpa [ar] using h1
       match rs,h1',h2,h3 with
       | a::b::rs,h1',h2,h3=>exact ⟨.alt a b::rs,by simpa using h1',List.forall_mem_cons.2 ⟨⟨h2 a (by simp),h2 b (by simp)⟩,fun r hr=>h2 r (by simp [hr])⟩,by rw [h3];simp [flat]⟩
     · subst hk1;have:=hm2 (by omega);subst this
       have h1':rs.length=n+1:=by simpa [ar] using h1
       match rs,h1',h2,h3 with
       | a::rs,h1',h2,h3=>exact ⟨.st a::rs,by simpa using h1',List.forall_mem_cons.2 ⟨h2 a (by simp),fun r hr=>h2 r (by simp [hr])⟩,by rw [h3];simp [flat]⟩
   · cases h
theorem rx_good {l:List ReCell}(h:okRe l=true):l.length≤30∧∃r,okX r∧l=flat r:=by
 simp only [okRe,Bool.and_eq_true,decide_eq_true_eq] at h;obtain ⟨rs,h1,h2,h3⟩:=rx_of l 1 [] h.2;refine ⟨h.1,?_⟩
 match rs,h1,h2,h3 with
 | [r],_,h2,h3=>exact ⟨r,h2 r (by simp),by rw [h3];simp⟩
theorem trI0 (rc:List ReCell→Option (pattern×List ReCell))(l:List ReCell):loopP (m126_1b rc 0) (l,0,[])=some (l,[]):=loopP_out (by simp [m126_1b,sel3,ltI,br])
theorem trI1 {rc:List ReCell→Option (pattern×List ReCell)}{l l2:List ReCell}{u:pattern}(h:rc l=some (u,l2)):loopP (m126_1b rc 1) (l,0,[])=some (l2,[u]):=by
 rw [loopP_nxt (s':=(l2,1,[u])) (by simp [m126_1b,sel3,sel2,ltI,br,bnd,h,w01,ck])]
 exact loopP_out (by simp [m126_1b,sel3,ltI,br])
theorem trI2 {rc:List ReCell→Option (pattern×List ReCell)}{l l2 l3:List ReCell}{u v:pattern}(h:rc l=some (u,l2))(h2:rc l2=some (v,l3)):loopP (m126_1b rc 2) (l,0,[])=some (l3,[u,v]):=by
 rw [loopP_nxt (s':=(l2,1,[u])) (by simp [m126_1b,sel3,sel2,ltI,br,bnd,h,w01,ck]),loopP_nxt (s':=(l3,2,[u,v])) (by simp [m126_1b,sel3,sel2,ltI,br,bnd,h2,w11,ck])]
 exact loopP_out (by simp [m126_1b,sel3,ltI,br])
theorem treeI (r:RX):∀rest:List ReCell,Ev (fun k=>m126k k (flat r++rest)) (toI r,rest):=by
 have hck:∀(x:ReCell) (t:List ReCell) {α:Type} (y:Option α),ck (0≤1∧1≤((x::t).length:Int)) y=y:=fun x t _ y=>ck_ok ⟨by omega,by simp;omega⟩ y
 induction r with
 | no | ep | an | as n =>
  intro rest
  refine ev_succ 0 fun j _=>?_
  show m126r (m126k j) (_::rest)=_;simp only [m126r,idx0,bnd_ok,hck,p140]
  rw [show ar _=0 from rfl,List.drop_one,List.tail_cons,trI0]
  rfl
 | st a iha =>
  intro rest;obtain ⟨N,ha⟩:=iha rest
  refine ev_succ N fun j hj=>?_
  show m126r (m126k j) (_::(flat a++rest))=_;simp only [m126r,idx0,bnd_ok,hck,p140]
  rw [show ar 7=1 from rfl,List.drop_one,List.tail_cons,trI1 (ha j hj)]
  rfl
 | cat a b iha ihb =>
  intro rest;obtain ⟨N,ha⟩:=iha (flat b++rest);obtain ⟨M,hb⟩:=ihb rest
  refine ev_succ (max N M) fun j hj=>?_
  show m126r (m126k j) (_::((flat a++flat b)++rest))=_;rw [List.append_assoc];simp only [m126r,idx0,bnd_ok,hck,p140]
  rw [show ar 5=2 from rfl,List.drop_one,List.tail_cons,trI2 (ha j (by omega)) (hb j (by omega))]
  rfl
 | alt a b iha ihb =>
  intro rest;obtain ⟨N,ha⟩:=iha (flat b++rest);obtain ⟨M,hb⟩:=ihb rest
  refine ev_succ (max N M) fun j hj=>?_
  show m126r (m126k j) (_::((flat a++flat b)++rest))=_;rw [List.append_assoc];simp only [m126r,idx0,bnd_ok,hck,p140]
  rw [show ar 6=2 from rfl,List.drop_one,List.tail_cons,trI2 (ha j (by omega)) (hb j (by omega))]
  rfl
theorem p126 (r:RX):m126 (flat r)=some (toI r,[]):=by
 have:=ev_lim (treeI r []);simp only [List.append_nil] at this;exact this
theorem kdS0 (rc:List ReCell→Int→Option (l6T×Int))(l:List ReCell)(p:Int):loopP (m139_2b rc l) (p,0,[])=some (.inl (p,[])):=loopP_out (by simp [m139_2b,sel3,ltI,br])
theorem kdS1 {rc:List ReCell→Int→Option (l6T×Int)}{l:List ReCell}{p q:Int}{u:l6T}(h:rc l p=some (u,q))(hq:q≠0):loopP (m139_2b rc l) (p,1,[])=some (.inl (q,[u])):=by
 rw [loopP_nxt (s':=(q,0,[u])) (by simp [m139_2b,sel3,sel2,ltI,eqI,br,bnd,h,hq,ck,show wsub .i64 1 1=0 by decide])]
 exact loopP_out (by simp [m139_2b,sel3,ltI,br])
theorem kdS2 {rc:List ReCell→Int→Option (l6T×Int)}{l:List ReCell}{p q z:Int}{u v:l6T}(h:rc l p=some (u,q))(hq:q≠0)(h2:rc l q=some (v,z))(hz:z≠0):loopP (m139_2b rc l) (p,2,[])=some (.inl (z,[u,v])):=by
 rw [loopP_nxt (s':=(q,1,[u])) (by simp [m139_2b,sel3,sel2,ltI,eqI,br,bnd,h,hq,ck,show wsub .i64 2 1=1 by decide]),loopP_nxt (s':=(z,0,[u,v])) (by simp [m139_2b,sel3,sel2,ltI,eqI,br,bnd,h2,hz,ck,show wsub .i64 1 1=0 by decide])]
 exact loopP_out (by simp [m139_2b,sel3,ltI,br])
theorem treeS (l:List ReCell)(hl:l.length≤1048576)(r:RX):okX r→∀(pre rest:List ReCell),l=pre++(flat r++rest)→Ev (fun k=>m139k k l (pre.length:Int)) (toS r,((pre.length+(flat r).length:Nat):Int)):=by
 have head:∀(j:Nat) (pre t:List ReCell) (c:ReCell),l=pre++c::t→okC c=true→∀n:Int,ar c.kind=n→m139k (j+1) l (pre.length:Int)=bnd (loopP (m139_2b (m139k j) l) (((pre.length+1:Nat):Int),n,[])) fun o=>selS o (fun p=>sel2 p fun v39 v40=>some ((⟨c.kind,c.n,v40⟩:l6T),v39)) (fun _=>some ((⟨0,0,[]⟩:l6T),0)):=by
  intro j pre t c e hc n hn
  have hlt:pre.length<l.length:=by rw [e];simp
  have hget:l[pre.length]=c:=by simp [e]
  show m139r (m139k j) l _=_
  have ew:wadd .i64 (pre.length:Int) 1=((pre.length+1:Nat):Int):=by rw [wadd64 (by omega) (by omega)];omega
  simp only [m139r,(leI_not (l.length:Int) (pre.length:Int)).2 (by omega),br_false,idx_get hlt,bnd_ok,p149,p139_1,hget,hc,Bool.not_true,ew,hn]
 induction r with
 | no | ep | an =>
  intro _ pre rest e
  refine ev_succ 0 fun j _=>?_
  rw [head j pre rest _ e (by decide) 0 rfl,kdS0]
  rfl
 | as n =>
  intro ok pre rest e
  refine ev_succ 0 fun j _=>?_
  rw [head j pre rest ⟨3,n⟩ e (by simp only [okX] at ok;simp [okC,okN,ar,ok]) 0 rfl,kdS0]
  rfl
 | st a iha =>
  intro ok pre rest e
  obtain ⟨N,ha⟩:=iha ok (pre++[⟨7,0⟩]) rest (by rw [e];simp [flat])
  refine ev_succ N fun j hj=>?_
  have h1:=ha j hj;simp only [List.length_append,List.length_cons,List.length_nil,Nat.zero_add] at h1
  rw [head j pre (flat a++rest) ⟨7,0⟩ (by rw [e];simp [flat]) (by decide) 1 rfl,kdS1 h1 (by omega)]
  simp only [bnd_ok,selS_inl,sel2_ok,toS,flat,List.length_cons,Option.some.injEq,Prod.mk.injEq,true_and];omega
 | cat a b iha ihb =>
  intro ok pre rest e
  obtain ⟨N,ha⟩:=iha ok.1 (pre++[⟨5,0⟩]) (flat b++rest) (by rw [e];simp [flat])
  obtain ⟨M,hb⟩:=ihb ok.2 (pre++⟨5,0⟩::flat a) rest (by rw [e];simp [flat])
  refine ev_succ (max N M) fun j hj=>?_
  have h1:=ha j (by omega)
  have h2:=hb j (by omega)
  simp only [List.length_append,List.length_cons,List.length_nil,Nat.zero_add] at h1 h2
  rw [show pre.length+((flat a).length+1)=pre.length+1+(flat a).length by omega] at h2
  rw [head j pre (flat a++flat b++rest) ⟨5,0⟩ (by rw [e];simp [flat]) (by decide) 2 rfl,kdS2 h1 (by omega) h2 (by omega)]
  simp only [bnd_ok,selS_inl,sel2_ok,toS,flat,List.length_cons,List.length_append,Option.some.injEq,Prod.mk.injEq,true_and];omega
 | alt a b iha ihb =>
  intro ok pre rest e
  obtain ⟨N,ha⟩:=iha ok.1 (pre++[⟨6,0⟩]) (flat b++rest) (by rw [e];simp [flat])
  obtain ⟨M,hb⟩:=ihb ok.2 (pre++⟨6,0⟩::flat a) rest (by rw [e];simp [flat])
  refine ev_succ (max N M) fun j hj=>?_
  have h1:=ha j (by omega)
  have h2:=hb j (by omega)
  simp only [List.length_append,List.length_cons,List.length_nil,Nat.zero_add] at h1 h2
  rw [show pre.length+((flat a).length+1)=pre.length+1+(flat a).length by omega] at h2
  rw [head j pre (flat a++flat b++rest) ⟨6,0⟩ (by rw [e];simp [flat]) (by decide) 2 rfl,kdS2 h1 (by omega) h2 (by omega)]
  simp only [bnd_ok,selS_inl,sel2_ok,toS,flat,List.length_cons,List.length_append,Option.some.injEq,Prod.mk.injEq,true_and];omega
theorem p139r (r:RX)(ok:okX r)(hl:(flat r).length≤1048576):m139 (flat r) 0=some (toS r,((flat r).length:Int)):=by
 have:=ev_lim (treeS (flat r) hl r ok [] [] (by simp))
 simp only [List.length_nil,Nat.zero_add] at this;exact this
theorem p28g (r:RX)(ok:okX r)(hl:(flat r).length≤30):m109 (flat r)=some (toS r,true):=by
 have:=flat_pos r;unfold m109
 rw [(ltI_not _ _).2 (by omega),br_false,p139r r ok (by omega),bnd_ok,sel2_ok,m109_1,(ltI_iff _ _).2 (by omega),br_true,eqI_self]
 rfl
inductive Rtc (R:Nat→Nat→Prop):Nat→Nat→Prop where
 | refl (i:Nat):Rtc R i i
 | head {i k j:Nat}:R i k→Rtc R k j→Rtc R i j
theorem Rtc.trans {R:Nat→Nat→Prop}{i j k:Nat}(h:Rtc R i j)(g:Rtc R j k):Rtc R i k:=by
 induction h with
 | refl=>exact g
 | head h _ ih=>exact .head h (ih g)
def In (p:List Int):RX→Nat→Nat→Prop
 | .no=>fun _ _=>False
 | .ep=>fun i j=>j=i
 | .as n=>fun i j=>p[i]?=some n∧j=i+1
 | .an=>fun i j=>i<p.length∧j=i+1
 | .cat a b=>fun i j=>∃k,In p a i k∧In p b k j
 | .alt a b=>fun i j=>In p a i j∨In p b i j
 | .st a=>Rtc (In p a)
theorem Rtc.le {R:Nat→Nat→Prop}(hR:∀i j,R i j→i≤j){i j:Nat}(h:Rtc R i j):i≤j:=by
 induction h with
 | refl=>exact Nat.le_refl _
 | head h _ ih=>exact Nat.le_trans (hR _ _ h) ih
theorem Rtc.len {R:Nat→Nat→Prop}{n:Nat}(hR:∀i j,R i j→i≤n→j≤n){i j:Nat}(h:Rtc R i j):i≤n→j≤n:=by
 induction h with
 | refl=>exact id
 | head h _ ih=>exact fun hi=>ih (hR _ _ h hi)
theorem In.le {p:List Int}:∀(r:RX) (i j:Nat),In p r i j→i≤j:=by
 intro r
 induction r with
 | no=>intro i j h;exact h.elim
 | ep=>intro i j h;exact Nat.le_of_eq (Eq.symm h)
 | as n | an=>intro i j h;have:=h.2;omega
 | cat a b iha ihb=>intro i j ⟨k,h1,h2⟩;exact Nat.le_trans (iha _ _ h1) (ihb _ _ h2)
 | alt a b iha ihb=>intro i j h;exact h.elim (iha _ _) (ihb _ _)
 | st a iha=>intro i j h;exact Rtc.le iha h
theorem In.len {p:List Int}:∀(r:RX) (i j:Nat),In p r i j→i≤p.length→j≤p.length:=by
 intro r
 induction r with
 | no=>intro i j h;exact h.elim
 | ep=>intro i j h hi;have h:j=i:=h;omega
 | as n=>intro i j h hi;have h2:=h.2;have:=(List.getElem?_eq_some_iff.1 h.1).1;omega
 | an=>intro i j h hi;have h2:=h.2;have h1:=h.1;omega
 | cat a b iha ihb=>intro i j ⟨k,h1,h2⟩ hi;exact ihb _ _ h2 (iha _ _ h1 hi)
 | alt a b iha ihb=>intro i j h hi;exact h.elim (fun h=>iha _ _ h hi) (fun h=>ihb _ _ h hi)
 | st a iha=>intro i j h;exact Rtc.len iha h
theorem In_nul (p:List Int)(r:RX)(i:Nat):nul r=true↔In p r i i:=by
 induction r with
 | no=>simp [nul,In]
 | ep=>simp [nul,In]
 | as n | an=>simp [nul,In]
 | cat a b iha ihb =>
  simp only [nul,In,Bool.and_eq_true]
  constructor
  · intro ⟨h1,h2⟩;exact ⟨i,iha.1 h1,ihb.1 h2⟩
  · intro ⟨k,h1,h2⟩
    have:k=i:=by have:=In.le _ _ _ h1;have:=In.le _ _ _ h2;omega
    subst this;exact ⟨iha.2 h1,ihb.2 h2⟩
 | alt a b iha ihb=>simp only [nul,In,Bool.or_eq_true,iha,ihb]
 | st a iha=>exact ⟨fun _=>.refl i,fun _=>rfl⟩
theorem Rtc.first {R:Nat→Nat→Prop}(hR:∀i j,R i j→i≤j){i j:Nat}(h:Rtc R i j):i<j→∃k,i<k∧R i k∧Rtc R k j:=by
 induction h with
 | refl=>intro h;exact absurd h (Nat.lt_irrefl _)
 | head h g ih =>
  intro hl;rename_i i k j
  by_cases c:k=i
  · subst c;exact ih hl
  · have:=hR _ _ h;exact ⟨k,by omega,h,g⟩
theorem In_der {p:List Int}{x:Int}{i:Nat}(hx:p[i]?=some x)(r:RX):∀j,In p (der x r) (i+1) j↔i<j∧In p r i j:=by
 have hi:i<p.length:=(List.getElem?_eq_some_iff.1 hx).1
 have up:∀(r:RX) j,In p r (i+1) j→i<j:=fun r j h=>In.le r _ _ h
 induction r with
 | no=>intro j;simp [der,In]
 | ep=>intro j;exact ⟨fun h=>h.elim,fun ⟨h1,h2⟩=>by have h2:j=i:=h2;omega⟩
 | as n =>
  intro j;simp only [der]
  by_cases c:n=x
  · rw [if_pos c];subst c;simp only [In,hx,true_and];omega
  · rw [if_neg c];simp only [In,hx,Option.some.injEq,Ne.symm c,false_and,and_false]
 | an=>intro j;simp only [der,In,hi,true_and];omega
 | alt a b iha ihb=>intro j;simp only [der,In,iha,ihb];exact and_or_left.symm
 | st a iha =>
  intro j;simp only [der,In,iha]
  constructor
  · intro ⟨k,⟨h1,h2⟩,h3⟩;exact ⟨Nat.lt_of_lt_of_le h1 (Rtc.le (In.le a) h3),.head h2 h3⟩
  · intro ⟨h1,h2⟩
    obtain ⟨k,k1,k2,k3⟩:=Rtc.first (In.le a) h2 h1
    exact ⟨k,⟨k1,k2⟩,k3⟩
 | cat a b iha ihb =>
  intro j;simp only [der];have hb:=ihb j
  have key:(∃k,In p (der x a) (i+1) k∧In p b k j)↔∃k,i<k∧In p a i k∧In p b k j:=by
   constructor
   · intro ⟨k,h1,h2⟩;exact ⟨k,((iha k).1 h1).1,((iha k).1 h1).2,h2⟩
   · intro ⟨k,h0,h1,h2⟩;exact ⟨k,(iha k).2 ⟨h0,h1⟩,h2⟩
  by_cases c:nul a=true
  · rw [if_pos c];simp only [In,key,hb];have na:=(In_nul p a i).1 c
    constructor
    · rintro (⟨k,h0,h1,h2⟩ | ⟨h1,h2⟩)
      · exact ⟨Nat.lt_of_lt_of_le h0 (In.le _ _ _ h2),k,h1,h2⟩
      · exact ⟨h1,i,na,h2⟩
    · intro ⟨h0,k,h1,h2⟩;have:=In.le _ _ _ h1
      by_cases e:k=i
      · subst e;exact .inr ⟨h0,h2⟩
      · exact .inl ⟨k,by omega,h1,h2⟩
  · rw [if_neg c];simp only [In,key]
    constructor
    · intro ⟨k,h0,h1,h2⟩;exact ⟨Nat.lt_of_lt_of_le h0 (In.le _ _ _ h2),k,h1,h2⟩
    · intro ⟨h0,k,h1,h2⟩;have:=In.le _ _ _ h1
      by_cases e:k=i
      · subst e;exact absurd ((In_nul p a k).2 h1) c
      · exact ⟨k,by omega,h1,h2⟩
theorem In_mkCat (p:List Int)(a b:RX)(i j:Nat):In p (mkCat a b) i j↔In p (.cat a b) i j:=by
 unfold mkCat;split
 · rename_i h
   rcases h with h|h<;>subst h<;>simp [In]
 split
 · rename_i h;subst h;simp [In]
 split
 · rename_i h;subst h;simp only [In]
   exact ⟨fun h=>⟨j,h,rfl⟩,fun ⟨k,h1,h2⟩=>by subst h2;exact h1⟩
 · exact Iff.rfl
theorem In_mkAlt (p:List Int)(a b:RX)(i j:Nat):In p (mkAlt a b) i j↔In p (.alt a b) i j:=by
 unfold mkAlt;split
 · rename_i h;subst h;simp [In]
 split
 · rename_i h
   rcases h with h|h<;>subst h<;>simp [In]
 · exact Iff.rfl
theorem In_mkSt (p:List Int)(a:RX)(i j:Nat):In p (mkSt a) i j↔In p (.st a) i j:=by
 have one:∀R:Nat→Nat→Prop,(∀i j,R i j→j=i)→(Rtc R i j↔j=i):=by
  intro R hR
  constructor
  · intro h
    induction h with
    | refl=>rfl
    | head h _ ih=>rw [ih,hR _ _ h]
  · intro h;subst h;exact .refl _
 cases a with
 | no=>exact (one _ (fun i j h=>h.elim)).symm
 | ep=>exact (one _ (fun i j h=>h)).symm
 | st a =>
  simp only [mkSt,In]
  constructor
  · intro h;exact .head h (.refl _)
  · intro h;clear one
    induction h with
    | refl=>exact .refl _
    | head h _ ih=>exact h.trans ih
 | _=>exact Iff.rfl
theorem Rtc.congr {R S:Nat→Nat→Prop}(h:∀i j,R i j↔S i j)(i j:Nat):Rtc R i j↔Rtc S i j:=by
 constructor
 · intro g;induction g with
   | refl=>exact .refl _
   | head g _ ih=>exact .head ((h _ _).1 g) ih
 · intro g;induction g with
   | refl=>exact .refl _
   | head g _ ih=>exact .head ((h _ _).2 g) ih
theorem In_td (p:List Int)(r:RX):∀i j,In p (td r) i j↔In p r i j:=by
 induction r with
 | no | ep | an | as n=>intro i j;exact Iff.rfl
 | cat a b iha ihb=>intro i j;simp only [td,In_mkCat,In,iha,ihb]
 | alt a b iha ihb=>intro i j;simp only [td,In_mkAlt,In,iha,ihb]
 | st a iha=>intro i j;simp only [td,In_mkSt,In];exact Rtc.congr iha i j
def accC (f:Nat→Nat):Nat→Nat
 | 0=>f 0
 | j+1=>accC f j+1+f (j+1)
def accS (g:Nat→Nat):Nat→Nat
 | 0=>0
 | 1=>1+g 0
 | j+2=>accS g (j+1)+1+(1+g (j+1)+accS g (j+1))
def F:RX→Nat→Nat
 | .cat a b=>fun j=>1+F a j+accC (F b) j
 | .alt a b=>fun j=>1+F a j+F b j
 | .st a=>fun j=>1+F a j+accS (F a) j
 | _=>fun _=>1
theorem accC_le {f:Nat→Nat}(j:Nat):f j≤accC f j:=by cases j<;>simp only [accC]<;>omega
theorem accC_mono {f g:Nat→Nat}(h:∀j,f j≤g j):∀j,accC f j≤accC g j:=by
 intro j
 induction j with
 | zero=>exact h 0
 | succ j ih=>have:=h (j+1);simp only [accC];omega
theorem accS_mono {f g:Nat→Nat}(h:∀j,f j≤g j):∀j,accS f j≤accS g j:=by
 have:∀j,accS f j≤accS g j∧accS f (j+1)≤accS g (j+1):=by
  intro j
  induction j with
  | zero=>have:=h 0;simp only [accS];omega
  | succ j ih=>have:=h (j+1);simp only [accS];omega
 exact fun j=>(this j).1
theorem accS_C (g f:Nat→Nat)(hf:∀j,f j=1+g j+accS g j):∀j,accC f j=accS g (j+1):=by
 intro j
 induction j with
 | zero=>simp only [accC,accS,hf];omega
 | succ j ih=>simp only [accC,accS,ih,hf]
theorem F_len (r:RX):(flat r).length=F r 0:=by
 induction r with
 | no | ep | an | as n=>rfl
 | cat a b iha ihb=>simp only [flat,F,accC,List.length_cons,List.length_append];omega
 | alt a b iha ihb=>simp only [flat,F,List.length_cons,List.length_append];omega
 | st a iha=>simp only [flat,F,accS,List.length_cons];omega
theorem F_mkCat (a b:RX)(j:Nat):F (mkCat a b) j≤F (.cat a b) j:=by
 have:=accC_le (f:=F b) j;unfold mkCat;split
 · simp only [F];omega
 split
 · simp only [F];omega
 split
 · simp only [F];omega
 · exact Nat.le_refl _
theorem F_mkAlt (a b:RX)(j:Nat):F (mkAlt a b) j≤F (.alt a b) j:=by
 unfold mkAlt;split
 · simp only [F];omega
 split
 · simp only [F];omega
 · exact Nat.le_refl _
theorem F_mkSt (a:RX)(j:Nat):F (mkSt a) j≤F (.st a) j:=by
 cases a with
 | no=>simp only [mkSt,F];omega
 | ep=>simp only [mkSt,F];omega
 | st a=>simp only [mkSt];show _≤1+F (.st a) j+_;omega
 | _=>exact Nat.le_refl _
theorem F_td (r:RX):∀j,F (td r) j≤F r j:=by
 induction r with
 | no | ep | an | as n=>intro j;exact Nat.le_refl _
 | cat a b iha ihb=>intro j;have:=iha j;have:=accC_mono ihb j;refine Nat.le_trans (F_mkCat _ _ j) ?_;simp only [F];omega
 | alt a b iha ihb=>intro j;have:=iha j;have:=ihb j;refine Nat.le_trans (F_mkAlt _ _ j) ?_;simp only [F];omega
 | st a iha=>intro j;have:=iha j;have:=accS_mono iha j;refine Nat.le_trans (F_mkSt _ j) ?_;simp only [F];omega
theorem F_der (x:Int)(r:RX):∀j,F (der x r) j≤F r (j+1):=by
 induction r with
 | no | ep | an=>intro j;exact Nat.le_refl _
 | as n=>intro j;simp only [der];split<;>exact Nat.le_refl _
 | cat a b iha ihb =>
  intro j;have h1:=iha j;have h2:=ihb j
  have h3:1+F (.cat (der x a) b) j+F (der x b) j≤F (.cat a b) (j+1):=by simp only [F,accC];omega
  simp only [der];split
  · exact h3
  · omega
 | alt a b iha ihb=>intro j;have:=iha j;have:=ihb j;simp only [der,F];omega
 | st a iha =>
  intro j;have:=iha j;simp only [der];show 1+F (der x a) j+accC (F (.st a)) j≤1+F a (j+1)+accS (F a) (j+1)
  rw [accS_C (F a) (F (.st a)) (fun j=>rfl)]
  omega
def tabU:List (List Nat):=[[],
 [1,1,1,1,1,1,1,1,1,1,1],
 [2,4,9,19,39,79,159,319,639,1279,2559],
 [3,8,22,55,131,303,687,1535,3391,7423,16127],
 [4,13,41,116,309,791,1967,4783,11423,26879,62463],
 [5,19,67,210,614,1711,4599,12015,30671,76799,189183],
 [6,26,101,346,1097,3292,9473,26363,71383,188895,490175],
 [7,34,144,534,1820,5836,17854,52599,150219,417951,1137183],
 [8,43,197,785,2857,9731,31481,97708,293037,853807,2426847],
 [9,53,261,1111,4295,15465,52681,171590,538510,1637791,4848623],
 [10,64,337,1525,6235,23641,84499,287908,942737,2984756,9180345],
 [11,76,426,2041,8793,34993,130845,465100,1585030,5212080,16619750],
 [12,89,529,2674,12101,50403,196659,727574,2575079,8777209,28962089],
 [13,103,647,3440,16308,70919,288095,1107106,4061718,14325567,48836015],
 [14,118,781,4356,21581,97774,412725,1644462,6243537,22750924,80012297],
 [15,134,932,5440,28106,132406,579764,2391266,9381608,35270604,127802582],
 [16,151,1101,6711,36089,176479,800317,3412137,13814617,53518231,199568441],
 [17,169,1289,8189,45757,231905,1087649,4787119,19976719,79657053,305364317],
 [18,188,1497,9895,57359,300867,1457479,6614429,28418459,116517253,458741771],
 [19,208,1726,11851,71167,385843,1928299,9013549,39831129,167761053,677746625],
 [20,229,1977,14080,87477,489631,2521719,12128689,55074959,238079843,986145259],
 [21,251,2251,16606,106610,615375,3262839,16132649,75211569,333428023,1414921463],
 [22,274,2549,19454,128913,766592,4180649,21231109,101541139,461298733,2004090907],
 [23,298,2872,22650,154760,947200,5308458,27667377,135644785,631047165,2804886505],
 [24,323,3221,26221,184553,1161547,6684353,35727626,179432661,854267703,3882374747],
 [25,349,3597,30195,218723,1414441,8351689,45746652,235198340,1145231723,5318570491],
 [26,376,4001,34601,257731,1711181,10359611,58114186,305680061,1521393506,7216125781],
 [27,404,4434,39469,302069,2057589,12763609,73281794,394129464,2003972374,9702677024],
 [28,433,4897,44830,352261,2460043,15626107,91770400,504388471,2618619853,12935944357],
 [29,463,5391,50716,408864,2925511,19017087,114178468,640975008,3396181399,17109687303],
 [30,494,5917,57160,472469,3461586,23014749,141190880,809178301,4373562994,22460631893]]
def U (n j:Nat):Nat:=(tabU.getD n []).getD j 0
theorem U_ok:∀n<31,1≤n→∀j<11,1≤U n j∧U n j≤30000000000:=by decide +kernel
theorem U_st:∀n<30,1≤n→∀j<11,1+U n j+accS (U n) j≤U (n+1) j:=by decide +kernel
def catOk (n m j:Nat):Bool:=decide (1+U n j+accC (U m) j≤U (n+m+1) j)&&decide (1+U n j+U m j≤U (n+m+1) j)
theorem U_cat':∀n<30,∀m<30,(1≤n∧1≤m∧n+m<30)→∀j<11,catOk n m j=true:=by decide +kernel
theorem U_cat (n:Nat)(h:n<30)(h1:1≤n)(m:Nat)(g:m<30)(g1:1≤m)(hg:n+m<30)(j:Nat)(hj:j<11):1+U n j+accC (U m) j≤U (n+m+1) j∧1+U n j+U m j≤U (n+m+1) j:=by
 have:=U_cat' n h m g ⟨h1,g1,hg⟩ j hj;simpa only [catOk,Bool.and_eq_true,decide_eq_true_eq] using this
theorem accC_mono' {f g:Nat→Nat}(N:Nat)(h:∀j<N,f j≤g j):∀j<N,accC f j≤accC g j:=by
 intro j
 induction j with
 | zero=>exact h 0
 | succ j ih=>intro hj;have:=h (j+1) hj;have:=ih (by omega);simp only [accC];omega
theorem accS_mono' {f g:Nat→Nat}(N:Nat)(h:∀j<N,f j≤g j):∀j,j<N→accS f j≤accS g j:=by
 have:∀j,(j<N→accS f j≤accS g j)∧(j+1<N→accS f (j+1)≤accS g (j+1)):=by
  intro j
  induction j with
  | zero=>exact ⟨fun _=>Nat.le_refl _,fun hj=>by have:=h 0 (by omega);simp only [accS];omega⟩
  | succ j ih=>exact ⟨ih.2,fun hj=>by have:=h (j+1) (by omega);have:=ih.2 (by omega);simp only [accS];omega⟩
 exact fun j=>(this j).1
theorem flat_pos' (r:RX):1≤(flat r).length:=by cases r<;>simp [flat]
theorem F_U (r:RX):(flat r).length≤30→∀j<11,F r j≤U (flat r).length j:=by
 induction r with
 | no | ep | an | as n=>intro _ j hj;exact (U_ok 1 (by omega) (by omega) j hj).1
 | st a iha =>
  intro h j hj;simp only [flat,List.length_cons] at h ⊢
  have h1:=iha (by omega)
  have h2:=U_st (flat a).length (by omega) (flat_pos' a) j hj
  have h3:=accS_mono' 11 h1 j hj;have h4:=h1 j hj;simp only [F];omega
 | cat a b iha ihb =>
  intro h j hj;simp only [flat,List.length_cons,List.length_append] at h ⊢
  have h1:=iha (by omega)
  have h2:=ihb (by omega)
  have h3:=(U_cat (flat a).length (by omega) (flat_pos' a) (flat b).length (by omega) (flat_pos' b) (by omega) j hj).1
  have h4:=accC_mono' 11 h2 j hj;have h5:=h1 j hj;simp only [F];omega
 | alt a b iha ihb =>
  intro h j hj;simp only [flat,List.length_cons,List.length_append] at h ⊢
  have h1:=iha (by omega) j hj
  have h2:=ihb (by omega) j hj
  have h3:=(U_cat (flat a).length (by omega) (flat_pos' a) (flat b).length (by omega) (flat_pos' b) (by omega) j hj).2
  simp only [F];omega
theorem F_max (r:RX)(h:(flat r).length≤30)(j:Nat)(hj:j<11):F r j≤30000000000:=Nat.le_trans (F_U r h j hj) (U_ok _ (by omega) (flat_pos' r) j hj).2
def putF:List Int→Int→List Int
 | [],n=>[n]
 | x::l,n=>if x<n then x::putF l n else if x=n then x::l else n::x::l
theorem putF_mem (n y:Int):∀l:List Int,y∈putF l n↔y∈l∨y=n:=by
 intro l
 induction l with
 | nil=>simp [putF]
 | cons x l ih =>
  simp only [putF];split
  · simp only [List.mem_cons,ih,or_assoc]
  split
  · rename_i h;subst h;simp only [List.mem_cons]
    constructor
    · intro h;exact .inl h
    · rintro (h | h)
      · exact h
      · exact .inl h
  · simp only [List.mem_cons]
    constructor
    · rintro (h | h)
      · exact .inr h
      · exact .inl h
    · rintro (h | h)
      · exact .inr h
      · exact .inl h
theorem putF_srt (n:Int):∀l:List Int,l.Pairwise (·<·)→(putF l n).Pairwise (·<·):=by
 intro l
 induction l with
 | nil=>intro _;simp [putF]
 | cons x l ih =>
  intro h;obtain ⟨h1,h2⟩:=List.pairwise_cons.1 h;simp only [putF];split
  · rename_i c
    refine List.pairwise_cons.2 ⟨fun y hy=>?_,ih h2⟩
    rcases (putF_mem n y l).1 hy with h|h
    · exact h1 y h
    · rw [h];exact c
  split
  · exact h
  · refine List.pairwise_cons.2 ⟨fun y hy=>?_,h⟩
    rcases List.mem_cons.1 hy with h|h
    · omega
    · have:=h1 y h;omega
theorem putF_len (n:Int):∀l:List Int,l.length≤(putF l n).length∧(putF l n).length≤l.length+1∧((putF l n).length=l.length→putF l n=l):=by
 intro l
 induction l with
 | nil=>simp [putF]
 | cons x l ih =>
  simp only [putF];split
  · obtain ⟨h1,h2,h3⟩:=ih;simp only [List.length_cons]
    exact ⟨by omega,by omega,fun h=>by rw [h3 (by omega)]⟩
  split
  · exact ⟨Nat.le_refl _,by omega,fun _=>rfl⟩
  · simp only [List.length_cons];exact ⟨by omega,by omega,fun h=>by omega⟩
theorem putF_split (n:Int):∀l:List Int,∃t d,l=t++d∧(∀y∈t,y<n)∧(∀x r,d=x::r→¬x<n)∧putF l n=if d.head?=some n then l else t++n::d:=by
 intro l
 induction l with
 | nil=>exact ⟨[],[],rfl,by simp,by simp,rfl⟩
 | cons x l ih =>
  simp only [putF];split
  · rename_i c;obtain ⟨t,d,h1,h2,h3,h4⟩:=ih
    refine ⟨x::t,d,by rw [h1];rfl,?_,h3,?_⟩
    · intro y hy
      rcases List.mem_cons.1 hy with h|h
      · rw [h];exact c
      · exact h2 y h
    · rw [h4];split<;>rfl
  · rename_i c
    refine ⟨[],x::l,rfl,by simp,fun a b h=>by cases h;exact c,?_⟩
    simp only [List.head?_cons,Option.some.injEq];rfl
theorem p80 (l:List Int)(n:Int)(hl:l.length≤1000000):m80 l n=some (putF l n):=by
 obtain ⟨t,d,e,ht,hd,hp⟩:=putF_split n l
 have hlen:l.length=t.length+d.length:=by rw [e,List.length_append]
 have lp:∀(t2 t1:List Int),t=t1++t2→loopP (m80_1b n l) (t1.length:Int)=some (t.length:Int):=by
  intro t2
  induction t2 with
  | nil =>
   intro t1 h;rw [List.append_nil] at h;subst h;refine loopP_out ?_;simp only [m80_1b,m80_3]
   cases d with
   | nil=>rw [(ltI_not _ _).2 (by simp at hlen;omega)];rfl
   | cons x r =>
    have hx:=hd x r rfl
    rw [(ltI_iff _ _).2 (by simp at hlen;omega),br_true,idx_nat,e,List.getElem?_append_right (Nat.le_refl _),Nat.sub_self,List.getElem?_cons_zero,bnd_ok,(ltI_not x n).2 (by omega),bnd_ok,br_false]
  | cons y r ih =>
   intro t1 h
   have h1:t.length=t1.length+(r.length+1):=by rw [h];simp
   have hy:=ht y (by rw [h];simp)
   have hlt:t1.length<l.length:=by omega
   have hget:l[t1.length]=y:=by simp [e,h]
   have hs:=wsucc (i:=t1.length) (n:=l.length) hlt (by omega)
   rw [loopP_nxt (s':=(((t1++[y]).length:Nat):Int))]
   · exact ih (t1++[y]) (by simp [h])
   · simp only [m80_1b,m80_3]
     rw [(ltI_iff _ _).2 (by omega),br_true,idx_get hlt,bnd_ok,hget,(ltI_iff y n).2 hy,bnd_ok,br_true,hs]
     simp
 have l0:loopP (m80_1b n l) 0=some (t.length:Int):=lp t [] rfl
 have e4:m80_4 n (t.length:Int) l=some (decide (d.head?=some n)):=by
  unfold m80_4
  cases d with
  | nil=>rw [(ltI_not _ _).2 (by simp at hlen;omega)];rfl
  | cons x r =>
   rw [(ltI_iff _ _).2 (by simp at hlen;omega),br_true,idx_nat,e,List.getElem?_append_right (Nat.le_refl _),Nat.sub_self,List.getElem?_cons_zero,bnd_ok]
   simp [eqI]
 have tk:l.take t.length=t:=by rw [e];simp
 have dr:l.drop t.length=d:=by rw [e];simp
 unfold m80;rw [l0,bnd_ok,e4,bnd_ok,hp]
 by_cases c:d.head?=some n
 · rw [decide_eq_true c,br_true,if_pos c]
 · rw [decide_eq_false c,br_false,if_neg c];rw [Int.toNat_natCast,tk,dr]
   rw [ck_ok (by omega),ck_ok (by omega),ck_ok (by omega),ck_ok (by omega),ck_ok (by simp;omega)]
   rw [List.take_of_length_le (by omega)]
   simp
def putAll (l ks:List Int):List Int:=ks.foldl putF l
theorem putAll_mem (y:Int):∀ks l:List Int,y∈putAll l ks↔y∈l∨y∈ks:=by
 intro ks
 induction ks with
 | nil=>intro l;simp [putAll]
 | cons k ks ih=>intro l;show y∈putAll (putF l k) ks↔_;rw [ih,putF_mem,List.mem_cons,or_assoc]
theorem putAll_srt:∀ks l:List Int,l.Pairwise (·<·)→(putAll l ks).Pairwise (·<·):=by
 intro ks
 induction ks with
 | nil=>intro l h;exact h
 | cons k ks ih=>intro l h;exact ih _ (putF_srt k l h)
theorem putAll_len:∀ks l:List Int,l.length≤(putAll l ks).length∧(putAll l ks).length≤l.length+ks.length∧((putAll l ks).length=l.length→putAll l ks=l):=by
 intro ks
 induction ks with
 | nil=>intro l;exact ⟨Nat.le_refl _,Nat.le_refl _,fun _=>rfl⟩
 | cons k ks ih =>
  intro l;obtain ⟨a1,a2,a3⟩:=putF_len k l;obtain ⟨b1,b2,b3⟩:=ih (putF l k);show _≤(putAll (putF l k) ks).length∧(putAll (putF l k) ks).length≤l.length+(ks.length+1)∧((putAll (putF l k) ks).length=l.length→putAll (putF l k) ks=l)
  exact ⟨by omega,by omega,fun h=>by rw [b3 (by omega),a3 (by omega)]⟩
theorem putLoop {body:Int×List Int→Option (Ctl (Int×List Int) (List Int))}(ks l:List Int)(h:l.length+ks.length≤1000000)
    (hb:∀p,body p=sel2 p fun s46 s47=>br (ltI s46 (ks.length:Int)) (bnd (idx ks s46) fun x49=>bnd (m80 s47 x49) fun r56=>some (.nxt (wadd .i64 s46 1,r56))) (some (.out s47))) :
    loopP body (0,l)=some (putAll l ks):=by
 refine loop_fold ks putF id (fun k a=>a.length≤l.length+k) (fun k hk a ha=>⟨?_,?_⟩) (fun a ha=>?_) l (Nat.le_refl _)
 · rw [hb,sel2_ok,(ltI_iff _ _).2 (by omega),br_true,idx_get hk,bnd_ok,p80 a _ (by omega),bnd_ok,wsucc hk (by omega)]
 · have:=(putF_len ks[k] a).2.1;omega
 · rw [hb,sel2_ok,(ltI_not _ _).2 (by omega),br_false];rfl
def putEach (g:Int→List Int)(l ks:List Int):List Int:=ks.foldl (fun a k=>putAll a (g k)) l
theorem putEach_mem (g:Int→List Int)(y:Int):∀ks l:List Int,y∈putEach g l ks↔y∈l∨∃k∈ks,y∈g k:=by
 intro ks
 induction ks with
 | nil=>intro l;simp [putEach]
 | cons k ks ih =>
  intro l;show y∈putEach g (putAll l (g k)) ks↔_;rw [ih,putAll_mem,or_assoc];simp
theorem putEach_srt (g:Int→List Int):∀ks l:List Int,l.Pairwise (·<·)→(putEach g l ks).Pairwise (·<·):=by
 intro ks
 induction ks with
 | nil=>intro l h;exact h
 | cons k ks ih=>intro l h;exact ih _ (putAll_srt _ l h)
theorem putEach_len (g:Int→List Int):∀ks l:List Int,l.length≤(putEach g l ks).length∧((putEach g l ks).length=l.length→putEach g l ks=l):=by
 intro ks
 induction ks with
 | nil=>intro l;exact ⟨Nat.le_refl _,fun _=>rfl⟩
 | cons k ks ih =>
  intro l;obtain ⟨a1,a2,a3⟩:=putAll_len (g k) l;obtain ⟨b1,b3⟩:=ih (putAll l (g k));show _≤(putEach g (putAll l (g k)) ks).length∧((putEach g (putAll l (g k)) ks).length=l.length→putEach g (putAll l (g k)) ks=l)
  exact ⟨by omega,fun h=>by rw [b3 (by omega),a3 (by omega)]⟩
def Srt (S:Nat→Prop)(l:List Int):Prop:=l.Pairwise (·<·)∧∀x,x∈l↔∃j:Nat,x=(j:Int)∧S j
theorem sorted_uniq:∀l l':List Int,l.Pairwise (·<·)→l'.Pairwise (·<·)→(∀x,x∈l↔x∈l')→l=l':=by
 intro l
 induction l with
 | nil =>
  intro l' _ _ h
  cases l' with
  | nil=>rfl
  | cons y r=>exact absurd ((h y).2 (by simp)) (by simp)
 | cons x r ih =>
  intro l' h1 h2 h
  cases l' with
  | nil=>exact absurd ((h x).1 (by simp)) (by simp)
  | cons y r' =>
   obtain ⟨a1,a2⟩:=List.pairwise_cons.1 h1;obtain ⟨b1,b2⟩:=List.pairwise_cons.1 h2
   have hxy:x=y:=by
    have hx:=(h x).1 (by simp)
    have hy:=(h y).2 (by simp)
    rcases List.mem_cons.1 hx with hx|hx
    · exact hx
    · rcases List.mem_cons.1 hy with hy|hy
      · exact hy.symm
      · have:=b1 x hx;have:=a1 y hy;omega
   subst hxy
   rw [ih r' a2 b2 fun z=>?_]
   have hz:=h z;simp only [List.mem_cons] at hz
   constructor
   · intro g;rcases hz.1 (.inr g) with e | e
     · have:=a1 z g;omega
     · exact e
   · intro g;rcases hz.2 (.inr g) with e | e
     · have:=b1 z g;omega
     · exact e
theorem Srt.uniq {S:Nat→Prop}{l l':List Int}(h:Srt S l)(h':Srt S l'):l=l':=sorted_uniq l l' h.1 h'.1 fun x=>by rw [h.2,h'.2]
theorem sorted_len (b:Int):∀(l:List Int) (a:Int),l.Pairwise (·<·)→(∀x∈l,a≤x∧x≤b)→a≤b+1→(l.length:Int)≤b-a+1:=by
 intro l
 induction l with
 | nil=>intro a _ _ h;simp;omega
 | cons x r ih =>
  intro a h1 h2 h;obtain ⟨a1,a2⟩:=List.pairwise_cons.1 h1
  have hx:=h2 x (by simp)
  have:=ih (x+1) a2 (fun y hy=>⟨by have:=a1 y hy;omega,(h2 y (by simp [hy])).2⟩) (by omega)
  simp only [List.length_cons];omega
theorem sorted_len' (n:Nat)(l:List Int)(h:l.Pairwise (·<·))(g:∀x∈l,∃j:Nat,x=(j:Int)∧j≤n):l.length≤n+1:=by
 have:=sorted_len (n:Int) l 0 h (fun x hx=>by obtain ⟨j,rfl,hj⟩:=g x hx;omega) (by omega)
 omega
theorem endsS (p:List Int)(hp:p.length≤10)(r:RX):∃N,∀j,N≤j→∀i:Nat,i≤p.length→∃l,m112k j (toS r) p (i:Int)=some l∧Srt (In p r i) l:=by
 have succ:∀(r:RX) (N:Nat),(∀j,N≤j→∀i:Nat,i≤p.length→∃l,m112r (m112k j) (toS r) p (i:Int)=some l∧Srt (In p r i) l)→∃N,∀j,N≤j→∀i:Nat,i≤p.length→∃l,m112k j (toS r) p (i:Int)=some l∧Srt (In p r i) l:=fun r N h =>
  ⟨N+1,fun j hj i hi=>by obtain ⟨j',rfl⟩:∃j',j=j'+1:=⟨j-1,by omega⟩;exact h j' (by omega) i hi⟩
 have lenOf:∀ {r:RX} {i:Nat} {l:List Int},i≤p.length→Srt (In p r i) l→l.length≤11:=fun {r i l} hi h=>by
  have:=sorted_len' p.length l h.1 fun x hx=>by obtain ⟨j,e,hj⟩:=(h.2 x).1 hx;exact ⟨j,e,In.len r _ _ hj hi⟩
  omega
 have w1:∀i:Nat,i≤p.length→wadd .i64 (i:Int) 1=((i+1:Nat):Int):=fun i hi=>by rw [wadd64 (by omega) (by omega)];omega
 induction r with
 | no=>exact succ _ 0 fun j _ i hi=>⟨[],by simp [m112r,m112_1,m112_2,toS,l6T.kind_,eqI,br,bnd,selS],by simp [Srt,In]⟩
 | ep=>exact succ _ 0 fun j _ i hi=>⟨[(i:Int)],by simp [m112r,toS,l6T.kind_,eqI,br],by simp [Srt,In]⟩
 | as n =>
  refine succ _ 0 fun j _ i hi=>?_
  by_cases c:p[i]?=some n
  · have hlt:i<p.length:=(List.getElem?_eq_some_iff.1 c).1
    refine ⟨[((i+1:Nat):Int)],?_,by simp [Srt,In,c]⟩
    simp [m112r,m112_1,m112_2,m112_3,toS,l6T.kind_,l6T.n_,eqI,br,bnd,selS,(ltI_iff (i:Int) (p.length:Int)).2 (by omega),idx_nat,c,w1 i hi]
  · refine ⟨[],?_,by simp [Srt,In,c]⟩
    by_cases hlt:i<p.length
    · rw [List.getElem?_eq_getElem hlt,Option.some.injEq] at c
      simp [m112r,m112_1,m112_2,m112_3,toS,l6T.kind_,l6T.n_,eqI,br,bnd,selS,(ltI_iff (i:Int) (p.length:Int)).2 (by omega),idx_nat,List.getElem?_eq_getElem hlt,c]
    · simp [m112r,m112_1,m112_2,m112_3,toS,l6T.kind_,l6T.n_,eqI,br,bnd,selS,(ltI_not (i:Int) (p.length:Int)).2 (by omega)]
 | an =>
  refine succ _ 0 fun j _ i hi=>?_
  by_cases c:i<p.length
  · refine ⟨[((i+1:Nat):Int)],?_,by simp [Srt,In,c]⟩
    simp [m112r,m112_1,m112_2,m112_3,toS,l6T.kind_,l6T.n_,eqI,br,bnd,selS,(ltI_iff (i:Int) (p.length:Int)).2 (by omega),w1 i hi]
  · refine ⟨[],?_,by simp [Srt,In,c]⟩
    simp [m112r,m112_1,m112_2,m112_3,toS,l6T.kind_,l6T.n_,eqI,br,bnd,selS,(ltI_not (i:Int) (p.length:Int)).2 (by omega)]
 | alt a b iha ihb =>
  obtain ⟨N,ha⟩:=iha;obtain ⟨M,hb⟩:=ihb
  refine succ _ (max N M) fun j hj i hi=>?_
  obtain ⟨la,e1,s1⟩:=ha j (by omega) i hi
  obtain ⟨lb,e2,s2⟩:=hb j (by omega) i hi
  have h1:=lenOf hi s1;have h2:=lenOf hi s2
  refine ⟨putAll la lb,?_,putAll_srt _ _ s1.1,fun x=>?_⟩
  · have hl:=putLoop (body:=m112_4b (m112k j) (lb.length:Int) lb) lb la (by omega) (fun p=>rfl)
    simp [m112r,m112_1,m112_2,toS,l6T.kind_,l6T.kids_,eqI,br,bnd,selS,idx0,idx1,e1,e2,hl]
  · rw [putAll_mem,s1.2,s2.2];simp only [In]
    constructor
    · rintro (⟨j,h1,h2⟩ | ⟨j,h1,h2⟩)
      · exact ⟨j,h1,.inl h2⟩
      · exact ⟨j,h1,.inr h2⟩
    · rintro ⟨j,h1,h2 | h2⟩
      · exact .inl ⟨j,h1,h2⟩
      · exact .inr ⟨j,h1,h2⟩
 | cat a b iha ihb =>
  obtain ⟨N,ha⟩:=iha;obtain ⟨M,hb⟩:=ihb
  refine succ _ (max N M) fun j hj i hi=>?_
  obtain ⟨la,e1,s1⟩:=ha j (by omega) i hi
  have hb':=hb j (by omega)
  obtain ⟨g,hg⟩:=Classical.axiomOfChoice (r:=fun (x:Int) (l:List Int)=>∀i:Nat,x=(i:Int)→i≤p.length→m112k j (toS b) p x=some l∧Srt (In p b i) l) (fun x=>by
   by_cases c:∃i:Nat,x=(i:Int)∧i≤p.length
   · obtain ⟨i,rfl,hi⟩:=c;obtain ⟨l,h1,h2⟩:=hb' i hi
     exact ⟨l, fun k hk _ => by obtain rfl : i = k := by omega
                                exact ⟨h1,h2⟩⟩
   · exact ⟨[],fun i h1 h2=>absurd ⟨i,h1,h2⟩ c⟩)
  have inr:∀x∈la,∃k:Nat,x=(k:Int)∧k≤p.length∧In p a i k:=fun x hx=>by
   obtain ⟨k,h1,h2⟩:=(s1.2 x).1 hx;exact ⟨k,h1,In.len a _ _ h2 hi,h2⟩
  have h1:=lenOf hi s1
  refine ⟨putEach g [] la,?_,putEach_srt _ _ _ List.Pairwise.nil,fun x=>?_⟩
  · have hl : loopP (m112_5b (m112k j) p (la.length : Int) (toS (.cat a b)) la) (0, []) = some (putEach g [] la) := by
      refine loop_fold la (fun a k=>putAll a (g k)) id (fun k a=>a.length≤11*k) (fun k hk acc hacc=>?_) (fun acc hacc=>?_) [] (Nat.zero_le _)
      · obtain ⟨q,hq,hq2,_⟩:=inr la[k] (List.getElem_mem hk);obtain ⟨g1,g2⟩:=hg la[k] q hq hq2;have g3:=lenOf hq2 g2
        have hl:=putLoop (body:=m112_7b (m112k j) ((g la[k]).length:Int) (g la[k])) (g la[k]) acc (by omega) (fun p=>rfl)
        refine ⟨?_,?_⟩
        · simp only [m112_5b,sel2_ok,(ltI_iff (k:Int) (la.length:Int)).2 (by omega),br_true,idx_get hk,bnd_ok,show (toS (.cat a b)).kids_=[toS a,toS b] from rfl,idx1,g1,hl,wsucc hk (by omega)]
        · have:=(putAll_len (g la[k]) acc).2.1;omega
      · simp only [m112_5b,sel2_ok,(ltI_not (la.length:Int) (la.length:Int)).2 (by omega),br_false];rfl
    have hl':=hl;simp only [toS] at hl';simp [m112r,m112_1,m112_2,toS,l6T.kind_,l6T.kids_,eqI,br,bnd,selS,idx0,idx1,e1,hl']
  · rw [putEach_mem];simp only [In]
    constructor
    · rintro (h | ⟨k,hk,hx⟩)
      · exact absurd h (by simp)
      · obtain ⟨q,hq,hq2,hq3⟩:=inr k hk;obtain ⟨g1,g2⟩:=hg k q hq hq2;obtain ⟨m,hm,hm2⟩:=(g2.2 x).1 hx;exact ⟨m,hm,q,hq3,hm2⟩
    · rintro ⟨m,hm,q,hq,hq2⟩
      refine .inr ⟨(q:Int),(s1.2 _).2 ⟨q,rfl,hq⟩,?_⟩;obtain ⟨g1,g2⟩:=hg (q:Int) q rfl (In.len a _ _ hq hi);exact (g2.2 x).2 ⟨m,hm,hq2⟩
 | st a iha =>
  obtain ⟨N,ha⟩:=iha
  refine succ _ N fun j hj i hi=>?_
  have hb':=ha j (by omega)
  obtain ⟨g,hg⟩:=Classical.axiomOfChoice (r:=fun (x:Int) (l:List Int)=>∀i:Nat,x=(i:Int)→i≤p.length→m112k j (toS a) p x=some l∧Srt (In p a i) l) (fun x=>by
   by_cases c:∃i:Nat,x=(i:Int)∧i≤p.length
   · obtain ⟨i,rfl,hi⟩:=c;obtain ⟨l,h1,h2⟩:=hb' i hi
     exact ⟨l, fun k hk _ => by obtain rfl : i = k := by omega
                                exact ⟨h1,h2⟩⟩
   · exact ⟨[],fun i h1 h2=>absurd ⟨i,h1,h2⟩ c⟩)
  obtain ⟨l,e1,s1⟩:=loopP_inv (body:=m112_8b (m112k j) p (toS (.st a))) (fun s=>s.Pairwise (·<·)∧(i:Int)∈s∧∀x∈s,∃q:Nat,x=(q:Int)∧In p (.st a) i q) (Srt (In p (.st a) i)) (fun s=>11-s.length)
   (fun s ⟨h1,h2,h3⟩=>by
    have inr:∀x∈s,∃k:Nat,x=(k:Int)∧k≤p.length∧In p (.st a) i k:=fun x hx=>by
     obtain ⟨k,a1,a2⟩:=h3 x hx;exact ⟨k,a1,In.len _ _ _ a2 hi,a2⟩
    have hs:s.length≤p.length+1:=sorted_len' p.length s h1 fun x hx=>by obtain ⟨k,a1,a2,_⟩:=inr x hx;exact ⟨k,a1,a2⟩
    have hl:loopP (m112_12b (m112k j) p (s.length:Int) (toS (.st a)) s) (0,s)=some (putEach g s s):=by
     refine loop_fold s (fun a k=>putAll a (g k)) id (fun k a=>a.length≤11*k+11) (fun k hk acc hacc=>?_) (fun acc hacc=>?_) s (by omega)
     · obtain ⟨q,hq,hq2,_⟩:=inr s[k] (List.getElem_mem hk);obtain ⟨g1,g2⟩:=hg s[k] q hq hq2;have g3:=lenOf hq2 g2
       have hl:=putLoop (body:=m112_14b (m112k j) ((g s[k]).length:Int) (g s[k])) (g s[k]) acc (by omega) (fun p=>rfl)
       refine ⟨?_,?_⟩
       · simp only [m112_12b,sel2_ok,(ltI_iff (k:Int) (s.length:Int)).2 (by omega),br_true,idx_get hk,bnd_ok,show (toS (.st a)).kids_=[toS a] from rfl,idx0,g1,hl,wsucc hk (by omega)]
       · have:=(putAll_len (g s[k]) acc).2.1;omega
     · simp only [m112_12b,sel2_ok,(ltI_not (s.length:Int) (s.length:Int)).2 (by omega),br_false];rfl
    have mem:∀x∈putEach g s s,∃q:Nat,x=(q:Int)∧In p (.st a) i q:=fun x hx=>by
     rcases (putEach_mem g x s s).1 hx with h|⟨k,hk,hx⟩
     · exact h3 x h
     · obtain ⟨q,hq,hq2,hq3⟩:=inr k hk;obtain ⟨g1,g2⟩:=hg k q hq hq2;obtain ⟨m,hm,hm2⟩:=(g2.2 x).1 hx;exact ⟨m,hm,Rtc.trans hq3 (.head hm2 (.refl _))⟩
    have srt:=putEach_srt g s s h1;obtain ⟨b1,b2⟩:=putEach_len g s s
    have hl2:(putEach g s s).length≤p.length+1:=sorted_len' p.length _ srt fun x hx=>by
     obtain ⟨q,a1,a2⟩:=mem x hx;exact ⟨q,a1,In.len _ _ _ a2 hi⟩
    unfold m112_8b
    rw [ck_ok (by omega),hl,bnd_ok]
    by_cases c:(putEach g s s).length=s.length
    · rw [(eqI_iff _ _).2 (by omega),br_true]
      refine ⟨_,rfl,?_⟩;have e:=b2 c;show Srt _ (putEach g s s);rw [e]
      refine ⟨h1,fun x=>⟨fun hx=>h3 x hx,fun ⟨q,hq,hq2⟩=>?_⟩⟩
      have clos:∀u v:Nat,Rtc (In p a) u v→(u:Int)∈s→(v:Int)∈s:=by
       intro u v h
       induction h with
       | refl=>exact id
       | head h _ ih =>
        intro hu;rename_i x y z _;refine ih ?_;rw [←e];refine (putEach_mem _ _ _ _).2 (.inr ⟨_,hu,?_⟩);obtain ⟨k',k1,k2,_⟩:=inr _ hu
        have g2:=(hg (x:Int) x rfl (by omega)).2
        exact (g2.2 _).2 ⟨_,rfl,h⟩
      rw [hq];exact clos i q hq2 h2
    · rw [(eqI_not _ _).2 (by omega),br_false]
      refine ⟨_,rfl,⟨srt,(putEach_mem _ _ _ _).2 (.inl h2),mem⟩,?_⟩;show 11-(putEach g s s).length<11-s.length
      omega) [(i:Int)] ⟨by simp,by simp,fun x hx=>⟨i,by simpa using hx,.refl _⟩⟩
  refine ⟨l,?_,s1⟩;have e1':=e1;simp only [toS] at e1';simp [m112r,m112_1,m112_2,toS,l6T.kind_,l6T.kids_,eqI,br,bnd,selS,e1']
theorem p112 (p:List Int)(hp:p.length≤10)(r:RX):∃l,m112 (toS r) p 0=some l∧Srt (In p r 0) l:=by
 obtain ⟨N,h⟩:=endsS p hp r;obtain ⟨l,e,s⟩:=h N (Nat.le_refl _) 0 (Nat.zero_le _)
 refine ⟨l,limO_iff.2 ⟨N,fun j hj=>?_⟩,s⟩
 obtain ⟨l',e',s'⟩:=h j hj 0 (Nat.zero_le _);rw [Srt.uniq s s'];exact e'
def okPath (p:List Int):Bool:=decide (p.length≤10)&&p.all fun x=>decide (1≤x∧x≤65535)
theorem p111 (p:List Int)(hl:p.length≤1048576):m111 p=some (okPath p):=by
 unfold m111
 have h:=loop_all (body:=m111_1b p (p.length:Int)) p.length (atB p fun x=>decide (1≤x∧x≤65535)) (.inl ()) (.inr ()) (fun k hk=>by
  rw [m111_1b,(ltI_iff _ _).2 (by omega),br_true,idx_get hk,bnd_ok,p72,bnd_ok,atB_get hk,wsucc hk (by omega)]
  cases decide (1≤p[k]∧p[k]≤65535)<;>rfl) (by rw [m111_1b,(ltI_not _ _).2 (by omega),br_false])
 rw [h,allN_list,bnd_ok]
 cases hc:p.all fun x=>decide (1≤x∧x≤65535)
 · simp only [okPath,hc,Bool.and_false];rfl
 · simp only [okPath,hc,Bool.and_true,if_true,selS_inl,Option.some.injEq];rw [Bool.eq_iff_iff,leI_iff,decide_eq_true_eq];omega
theorem p79 (l:List Int)(n:Int)(hl:l.length≤1048576):m79 l n=some (decide (n∈l)):=by
 unfold m79
 have h:=loop_all (body:=m79_1b n l (l.length:Int)) l.length (atB l fun x=>!eqI x n) (.inl ()) (.inr ()) (fun k hk=>by
  rw [m79_1b,(ltI_iff _ _).2 (by omega),br_true,idx_get hk,bnd_ok,atB_get hk,wsucc hk (by omega)]
  cases eqI l[k] n<;>rfl) (by rw [m79_1b,(ltI_not _ _).2 (by omega),br_false])
 rw [h,allN_list,bnd_ok]
 by_cases c:n∈l
 · have : (l.all fun x => !eqI x n) = false := by
     rw [List.all_eq_false]
     exact ⟨n,c,by simp [eqI]⟩
   rw [this,decide_eq_true c];rfl
 · have : (l.all fun x => !eqI x n) = true := by
     rw [List.all_eq_true];intro x hx;simp only [eqI,Bool.not_eq_true',decide_eq_false_iff_not];intro e;rw [e] at hx;exact c hx
   rw [this,decide_eq_false c];rfl
theorem p100 (r:RX)(hr:(flat r).length≤30)(p:List Int)(hp:p.length≤10):∃b,m100 (flat r) p=some b∧(b=true↔In p r 0 p.length):=by
 have key : ∀ (n k : Nat) (q : RX), n + k = p.length → (∀ j, F q j ≤ F r (j + k)) → (In p q k p.length ↔ In p r 0 p.length) →
     ∃z,loopP (m100_1b p (p.length:Int)) (toI q,(k:Int))=some (toI z)∧(In p z p.length p.length↔In p r 0 p.length):=by
  intro n
  induction n with
  | zero =>
   intro k q hk _ hq
   obtain rfl:k=p.length:=by omega
   exact ⟨q,loopP_out (by simp only [m100_1b,sel2_ok,(ltI_not (p.length:Int) (p.length:Int)).2 (by omega),br_false]),hq⟩
  | succ n ih =>
   intro k q hk hF hq
   have hlt:k<p.length:=by omega
   have hsz:(flat (der p[k] q)).length≤68719476736:=by
    rw [F_len];have h1:=F_der p[k] q 0;have h2:=hF (0+1)
    have h3:=F_max r hr (0+1+k) (by omega)
    omega
   obtain ⟨z,z1,z2⟩:=ih (k+1) (td (der p[k] q)) (by omega) (fun j=>by
    have h1:=F_td (der p[k] q) j;have h2:=F_der p[k] q j;have h3:=hF (j+1)
    rw [show j+(k+1)=j+1+k by omega]
    omega) (by
    rw [In_td,In_der (List.getElem?_eq_getElem hlt)]
    exact ⟨fun h=>hq.1 h.2,fun h=>⟨hlt,hq.2 h⟩⟩)
   refine ⟨z,?_,z2⟩;rw [←z1];refine loopP_nxt ?_
   simp only [m100_1b,sel2_ok,(ltI_iff (k:Int) (p.length:Int)).2 (by omega),br_true,idx_get hlt,bnd_ok,p127,p128 _ hsz,wsucc hlt (by omega)]
 obtain ⟨z,z1,z2⟩:=key p.length 0 r (by omega) (fun j=>Nat.le_refl _) Iff.rfl
 have z1':loopP (m100_1b p (p.length:Int)) (toI r,0)=some (toI z):=z1;refine ⟨nul z,?_,(In_nul p z p.length).trans z2⟩;unfold m100;rw [p126,bnd_ok,sel2_ok,z1',bnd_ok,p129,bnd_ok]
theorem fits (l:List ReCell)(hl:okRe l=true)(p:List Int)(hp:p.length≤10):∃t s b,m109 l=some (t,true)∧m112 t p 0=some s∧m79 s (p.length:Int)=some b∧m100 l p=some b:=by
 obtain ⟨h30,r,ok,rfl⟩:=rx_good hl;obtain ⟨s,e1,s1⟩:=p112 p hp r;obtain ⟨b,e2,hb⟩:=p100 r h30 p hp
 have hs:s.length≤11:=by
  have:=sorted_len' p.length s s1.1 fun x hx=>by obtain ⟨j,e,hj⟩:=(s1.2 x).1 hx;exact ⟨j,e,In.len r _ _ hj (Nat.zero_le _)⟩
  omega
 refine ⟨_,s,b,p28g r ok h30,e1,?_,e2⟩
 rw [p79 s _ (by omega),Option.some.injEq,Bool.eq_iff_iff,decide_eq_true_eq,hb,s1.2]
 exact ⟨fun ⟨j, h1, h2⟩ => by obtain rfl : p.length = j := by omega
                              exact h2,fun h=>⟨_,rfl,h⟩⟩
def inB (x lo hi:Int):Bool:=leI lo x&&leI x hi
theorem p71B (x lo hi:Int):m72 x lo hi=some (inB x lo hi):=by simp [m72,m72_1,inB]
theorem p75B (x lo hi:Int):m87 x lo hi=some (inB x lo hi):=by simp [m87,m87_1,inB]
def pathB (xs:List Int):Bool:=allN xs.length (atB xs (fun x=>inB x 1 65535))
def commsB (xs:List Int):Bool:=allN xs.length (fun k=>match xs[k]? with | some x=>inB x 0 1000000&&!(ltI 0 k&&leI x (xs.getD (k-1) 0)) | none=>false)
theorem loop49_1 (a:Attrs)(h:smLInt a.path):loopP (m49_1b a (a.path.length:Int)) 0=some (if pathB a.path=true then .inl () else .inr ()):=by
 unfold smLInt at h
 refine loop_all _ _ _ _ (fun k hk=>?_) ?_
 · simp only [m49_1b,(ltI_iff _ _).2 (Int.ofNat_lt.2 hk),br_true,idx_get hk,bnd_ok,p71B,wsucc hk (by omega),atB_get hk,br_some,if_true]
 · simp only [m49_1b,(ltI_not _ _).2 (Int.le_refl _),br_false]
theorem p49_4 (k:Nat)(x:Int)(a:Attrs)(hk:k<a.comms.length)(h:smLInt a.comms):m49_4 (k:Int) x a=some (!(inB x 0 1000000&&!(ltI 0 k&&leI x (a.comms.getD (k-1) 0)))):=by
 unfold smLInt at h;simp only [m49_4,p71B,bnd_ok]
 cases inB x 0 1000000 with
 | false=>rfl
 | true =>
  by_cases h0:0<k
  · have hp:k-1<a.comms.length:=by omega
    simp [(ltI_iff 0 (k:Int)).2 (by omega),wpred hk h0 (by omega),idx_get hp,List.getElem?_eq_getElem hp]
  · obtain rfl:k=0:=by omega
    rfl
theorem loop49_2 (a:Attrs)(h:smLInt a.comms):loopP (m49_2b a (a.comms.length:Int)) 0=some (if commsB a.comms=true then .inl () else .inr ()):=by
 have h':=h;unfold smLInt at h
 refine loop_all _ _ _ _ (fun k hk=>?_) ?_
 · simp only [m49_2b,(ltI_iff _ _).2 (Int.ofNat_lt.2 hk),br_true,idx_get hk,bnd_ok,p49_4 k _ a hk h',wsucc hk (by omega),List.getElem?_eq_getElem hk,br_some,if_true,ite_bnot]
 · simp only [m49_2b,(ltI_not _ _).2 (Int.le_refl _),br_false]
def attrsB (a:Attrs):Bool:=inB a.origin 0 2&&leI (a.path.length:Int) 10&&inB a.next 0 4294967295&&inB a.med 0 1000000&&inB a.pref 0 1000000&&leI (a.comms.length:Int) 6&&pathB a.path&&commsB a.comms
theorem p49 (a:Attrs)(h:smAttrs a):m49 a=some (attrsB a):=by
 obtain ⟨_,h1,_,_,_,h5⟩:=h;simp only [m49,loop49_1 a h1,loop49_2 a h5,bnd_ok,m49_5,m75,p71B,attrsB]
 cases pathB a.path with
 | false=>simp
 | true =>
  cases commsB a.comms with
  | false=>simp
  | true=>simp [br_and,Bool.and_assoc]
theorem p96_3 (k:Nat)(x:Int)(xs:List Int)(hk:k<xs.length)(h:smLInt xs):m96_3 xs (k:Int) x=some (!(inB x 0 1000000&&!(ltI 0 k&&leI x (xs.getD (k-1) 0)))):=by
 unfold smLInt at h;simp only [m96_3,m86,p75B,bnd_ok]
 cases inB x 0 1000000 with
 | false=>rfl
 | true =>
  by_cases h0:0<k
  · have hp:k-1<xs.length:=by omega
    simp [(ltI_iff 0 (k:Int)).2 (by omega),wpred hk h0 (by omega),idx_get hp,List.getElem?_eq_getElem hp]
  · obtain rfl:k=0:=by omega
    rfl
theorem p96 (xs:List Int)(h:smLInt xs):m96 xs=some (leI (xs.length:Int) 6&&commsB xs):=by
 have h':=h;unfold smLInt at h
 have hl:loopP (m96_1b xs (xs.length:Int)) 0=some (if commsB xs=true then .inl () else .inr ()):=by
  refine loop_all _ _ _ _ (fun k hk=>?_) ?_
  · simp only [m96_1b,(ltI_iff _ _).2 (Int.ofNat_lt.2 hk),br_true,idx_get hk,bnd_ok,p96_3 k _ xs hk h',wsucc hk (by omega),List.getElem?_eq_getElem hk,br_some,if_true,ite_bnot]
  · simp only [m96_1b,(ltI_not _ _).2 (Int.le_refl _),br_false]
 simp only [m96,hl,bnd_ok]
 cases commsB xs<;>simp
theorem p135 (xs:List Int)(h:smLInt xs)(f:Int→Option Bool)(p:Int→Bool)(hf:∀x,f x=some (!p x)):m135 xs f=some (if xs.all p=true then -1 else ((xs.findIdx (fun x=>!p x):Nat):Int)):=by
 have h':=h;unfold smLInt at h
 have key:∀(n k:Nat),n+k=xs.length→(∀i,i<k→∀x,xs[i]?=some x→p x=true)→loopP (m135_1b xs (xs.length:Int) f) (k:Int)=some (if xs.all p=true then .inl () else .inr ((xs.findIdx (fun x=>!p x):Nat):Int)):=by
  intro n
  induction n with
  | zero =>
   intro k hk hp
   obtain rfl:k=xs.length:=by omega
   have:xs.all p=true:=List.all_eq_true.2 fun x hx=>by
    obtain ⟨i,hi,rfl⟩:=List.mem_iff_getElem.1 hx;exact hp i hi _ (List.getElem?_eq_getElem hi)
   rw [loopP_out (b:=.inl ()) (by simp only [m135_1b,(ltI_not _ _).2 (Int.le_refl _),br_false]),if_pos this]
  | succ n ih =>
   intro k hk hp
   have hl:k<xs.length:=by omega
   cases hq:p xs[k] with
   | true =>
    rw [loopP_nxt (s':=((k+1:Nat):Int)) (by simp only [m135_1b,(ltI_iff _ _).2 (Int.ofNat_lt.2 hl),br_true,idx_get hl,bnd_ok,hf,hq,Bool.not_true,br_false,wsucc hl (by omega)])]
    refine ih (k+1) (by omega) fun i hi x hx=>?_
    by_cases hik:i=k
    · subst hik;rw [List.getElem?_eq_getElem hl] at hx;cases hx;exact hq
    · exact hp i (by omega) x hx
   | false =>
    rw [loopP_out (b:=.inr (k:Int)) (by simp only [m135_1b,(ltI_iff _ _).2 (Int.ofNat_lt.2 hl),br_true,idx_get hl,bnd_ok,hf,hq,Bool.not_false,br_true])]
    have h1:¬xs.all p=true:=fun ha=>by have:=List.all_eq_true.1 ha _ (List.getElem_mem hl);rw [hq] at this;cases this
    have h2:xs.findIdx (fun x=>!p x)=k:=by
     refine (List.findIdx_eq hl).2 ⟨by simp [hq],fun j hj=>?_⟩
     have:=hp j hj _ (List.getElem?_eq_getElem (by omega))
     simp [this]
    rw [if_neg h1,h2]
 have:=key xs.length 0 (by omega) (fun i hi=>by omega)
 simp only [m135,Int.ofNat_zero] at this ⊢;rw [this,bnd_ok]
 split<;>rfl
theorem p78B (xs:List Int)(h:smLInt xs):m95 xs=some (leI (xs.length:Int) 10&&pathB xs):=by
 have hp:pathB xs=xs.all (fun x=>inB x 1 65535):=allN_list xs (fun x=>inB x 1 65535)
 simp only [m95,m95_1,m122,p135 xs h (fun y0=>m123 y0) (fun x=>inB x 1 65535) (fun x=>by simp only [m123,m119,p75B,bnd_ok]),bnd_ok,hp]
 cases xs.all (fun x=>inB x 1 65535) with
 | true=>simp [leI]
 | false=>simp [leI]
theorem p59 (a:Attrs)(h:smAttrs a):m59 a=some (attrsB a):=by
 obtain ⟨_,h1,_,_,_,h5⟩:=h;simp only [m59,m59_1,p75B,p78B _ h1,p96 _ h5,m93,m86,bnd_ok,attrsB,br_and]
 congr 1
 simp only [Bool.and_assoc]
 ac_rfl
noncomputable def okR (r:Route):Bool:=okP r.prefix_&&attrsB r.attrs
theorem p26 (r:Route)(h:smRoute r):m26 r=some (okR r):=by
 simp only [m26,m26_1,(p48' r.prefix_).1,p49 _ h.2,bnd_ok,okR]
 cases okP r.prefix_<;>rfl
theorem p33 (r:Route)(h:smRoute r):m33 r=some (okR r):=by
 simp only [m33,m33_1,(p48' r.prefix_).2,p59 _ h.2,bnd_ok,okR]
 cases okP r.prefix_<;>rfl
theorem okP_facts {p:Prefix}(h:okP p=true):∃k:Nat,k≤32∧p.len=32-(k:Int)∧m76 p=some ((2 ^ k:Nat):Int)∧m94 p.len=some ((2 ^ k:Nat):Int)∧0≤p.addr∧p.addr≤4294967295∧p.addr % ((2 ^ k:Nat):Int)=0:=by
 have h1:=(p48' p).1;rw [h] at h1;simp only [m48,m48_1,m75,m76,p72,bnd_ok] at h1
 by_cases c:0≤p.len∧p.len≤32
 · have e1:wsub .i64 32 p.len=32-p.len:=wsub64 (by omega) (by omega)
   have e2:wcv .u64 (32-p.len)=32-p.len:=by simp [wcv,IntKind.wrap,IntKind.bits,IntKind.signed];omega
   obtain ⟨k,hk⟩:∃k:Nat,32-p.len=(k:Int):=⟨(32-p.len).toNat,by omega⟩
   have hk2:k≤32:=by omega
   have e3:wshl .i64 1 (k:Int)=((2 ^ k:Nat):Int):=by
    have h2:(2 ^ k:Nat)≤4294967296:=by have:=Nat.pow_le_pow_right (n:=2) (by omega) hk2;simpa using this
    unfold wshl
    have:min (k:Int).toNat IntKind.i64.bits=k:=by simp [IntKind.bits];omega
    rw [this,Int.one_mul]
    have e:((2:Int) ^ k)=((2 ^ k:Nat):Int):=by simp
    rw [e];generalize (2 ^ k:Nat)=z at h2
    exact w64 (by omega) (by omega)
   have h3:¬((2 ^ k:Nat):Int)=0:=by
    have:=Nat.pow_pos (n:=k) (show 0<2 by omega)
    generalize (2 ^ k:Nat)=z at this;omega
   have hm1:m76 p=some ((2 ^ k:Nat):Int):=by unfold m76;rw [e1,e2,hk,ck_ok (show ¬(k:Int)<0 by omega),e3]
   have hm2:m94 p.len=some ((2 ^ k:Nat):Int):=by unfold m94;rw [e1,hk,ck_ok (show ¬(k:Int)<0 by omega),e3]
   rw [decide_eq_true c,br_true,e1,e2,hk,ck_ok (show ¬(k:Int)<0 by omega),bnd_ok,e3,ck_ok h3] at h1
   by_cases c2:0≤p.addr∧p.addr≤4294967295
   · rw [decide_eq_true c2,br_true,bnd_ok,Option.some.injEq,eqI_iff] at h1
     refine ⟨k,hk2,by omega,hm1,hm2,c2.1,c2.2,?_⟩
     rw [←h1];exact (Int.tmod_eq_emod_of_nonneg c2.1).symm
   · rw [decide_eq_false c2] at h1;cases h1
 · rw [decide_eq_false c] at h1;cases h1
noncomputable def cov (p q:Prefix):Bool:=(m77 p q).getD false
theorem inBlock (s A a:Int)(hs:0<s)(hA:A % s=0):a-a % s=A↔A≤a∧a≤A+s-1:=by
 have h1:=Int.mul_ediv_add_emod a s
 have h2:=Int.emod_nonneg a (show s≠0 by omega)
 have h3:=Int.emod_lt_of_pos a hs;have h4:=Int.mul_ediv_add_emod A s;generalize a / s=q at *;generalize A / s=t at *;generalize a % s=r at *;rw [hA] at h4
 have lem:∀x y:Int,x<y→s*x+s≤s*y:=fun x y h=>by
  have:=Int.mul_le_mul_of_nonneg_left (show x+1≤y by omega) (show 0≤s by omega)
  rw [Int.mul_add,Int.mul_one] at this;exact this
 rcases Int.lt_trichotomy q t with h|h|h
 · have:=lem _ _ h;constructor<;>intro g<;>omega
 · subst h;constructor<;>intro g<;>omega
 · have:=lem _ _ h;constructor<;>intro g<;>omega
theorem p77 (p q:Prefix)(hp:okP p=true)(hq:okP q=true):m77 p q=some (cov p q)∧m99 p q=some (cov p q):=by
 obtain ⟨k,k1,k2,k3,k4,k5,k6,k7⟩:=okP_facts hp;obtain ⟨_,_,_,_,_,q5,q6,_⟩:=okP_facts hq
 have hs:(0:Int)<((2 ^ k:Nat):Int):=by
  have:=Nat.pow_pos (n:=k) (show 0<2 by omega)
  generalize (2 ^ k:Nat)=z at this;omega
 have hs2:((2 ^ k:Nat):Int)≤4294967296:=by
  have h2:(2 ^ k:Nat)≤4294967296:=by have:=Nat.pow_le_pow_right (n:=2) (by omega) k1;simpa using this
  generalize (2 ^ k:Nat)=z at h2;omega
 generalize ((2 ^ k:Nat):Int)=s at *
 have h1:m110 p q.addr=some (decide (p.addr≤q.addr∧q.addr≤p.addr+s-1)):=by
  unfold m110
  rw [k3,bnd_ok,ck_ok (by omega)]
  have e:wrem .i64 q.addr s=q.addr % s:=Int.tmod_eq_emod_of_nonneg q5
  have e2:=Int.emod_nonneg q.addr (show s≠0 by omega)
  have e3:=Int.emod_lt_of_pos q.addr hs
  rw [e,wsub64 (by omega) (by omega),Option.some.injEq,Bool.eq_iff_iff,eqI_iff,decide_eq_true_eq]
  exact inBlock s p.addr q.addr hs k7
 have h2:m125 p q.addr=some (decide (p.addr≤q.addr∧q.addr≤p.addr+s-1)):=by
  unfold m125 m142
  rw [k4,bnd_ok,wadd64 (by omega) (by omega),wsub64 (by omega) (by omega),bnd_ok,p87,bnd_ok]
 have h3:m77 p q=m99 p q:=by
  unfold m77 m77_1 m99 m99_1;rw [h1,h2]
 have h4:m77 p q=some (cov p q):=by
  unfold cov;unfold m77 m77_1;rw [h1]
  cases leI p.len q.len<;>rfl
 exact ⟨h4,by rw [←h3];exact h4⟩
noncomputable def fit1 (r:Route)(x:Range):Bool:=cov x.prefix_ r.prefix_&&decide (x.lo≤r.prefix_.len∧r.prefix_.len≤x.hi)
theorem p50_4 (s:Bool)(r:Route)(x:Range)(hx:okRange x=true)(hr:okP r.prefix_=true):m50_4 s r x=some (s||fit1 r x):=by
 have h1:okP x.prefix_=true:=by unfold okRange at hx;rw [Bool.and_eq_true] at hx;exact hx.1
 unfold m50_4 fit1;rw [(p77 _ _ h1 hr).1,bnd_ok,p72,bnd_ok]
 cases s<;>cases cov x.prefix_ r.prefix_<;>rfl
theorem p98 (r:Route)(x:Range)(hx:okRange x=true)(hr:okP r.prefix_=true):m98 x r=some (fit1 r x):=by
 have h1:okP x.prefix_=true:=by unfold okRange at hx;rw [Bool.and_eq_true] at hx;exact hx.1
 unfold m98 m98_1 fit1;rw [(p77 _ _ h1 hr).2,bnd_ok,p87,bnd_ok]
 cases cov x.prefix_ r.prefix_<;>rfl
theorem p101 (l:List Int)(n:Int)(hl:l.length≤1048576):m101 l n=some (decide (n∈l)):=by
 have e:=indexFunc (body:=m130_1b l n (l.length:Int)) (f:=fun x=>some (eqI n x)) l (fun x=>eqI n x) (fun x _=>rfl) (by omega) (fun s=>rfl)
 have h2:(l.any fun x=>eqI n x)=decide (n∈l):=by
  rw [Bool.eq_iff_iff,List.any_eq_true,decide_eq_true_eq]
  constructor
  · intro ⟨x,hx,e⟩;rw [eqI_iff] at e;rw [e];exact hx
  · intro h;exact ⟨n,h,eqI_self n⟩
 simp only [m101,m130,e,bnd_ok,containsFunc,h2]
theorem path_ok {a:Attrs}(h:attrsB a=true):okPath a.path=true∧a.path.length≤10:=by
 simp only [attrsB,Bool.and_eq_true] at h;obtain ⟨⟨⟨⟨⟨⟨⟨_,h2⟩,_⟩,_⟩,_⟩,_⟩,h7⟩,_⟩:=h
 have h3:a.path.length≤10:=by have:=(leI_iff _ _).1 h2;omega
 refine ⟨?_,h3⟩;unfold okPath;rw [decide_eq_true h3,Bool.true_and,←allN_list]
 have e:(fun x=>inB x 1 65535)=fun x=>decide (1≤x∧x≤65535):=by
  funext x
  simp only [inB];rw [Bool.eq_iff_iff,Bool.and_eq_true,leI_iff,leI_iff,decide_eq_true_eq]
 unfold pathB at h7;rw [e] at h7;exact h7
theorem fit2 (t:Term)(r:Route)(st:t.ranges.length≤1048576)(sr:smRoute r)(ht:okT t=true)(hr:okR r=true):∃b,m50 t r=some b∧m61 t r=some b:=by
 unfold okR at hr;rw [Bool.and_eq_true] at hr
 have htr:t.ranges.all okRange=true:=by simp only [okT,Bool.and_eq_true] at ht;exact ht.1.1
 have htp:(decide (t.path.length=0)||okRe t.path)=true:=by simp only [okT,Bool.and_eq_true] at ht;exact ht.2.1.1.2
 have each:∀x∈t.ranges,okRange x=true:=List.all_eq_true.1 htr;obtain ⟨pk,pl⟩:=path_ok hr.2;have sc:r.attrs.comms.length≤1048576:=sr.2.2.2.2.2.2
 have spp:r.attrs.path.length≤1048576:=by omega
 have l1:∀(n k:Nat) (b:Bool),n+k=t.ranges.length→loopP (m50_2b t (t.ranges.length:Int) r) (b,(k:Int))=some (b||(t.ranges.drop k).any (fit1 r)):=by
  intro n
  induction n with
  | zero =>
   intro k b hk
   rw [List.drop_eq_nil_of_le (by omega)]
   refine loopP_out ?_
   simp only [m50_2b,sel2_ok,(ltI_not (k:Int) (t.ranges.length:Int)).2 (by omega),br_false,List.any_nil,Bool.or_false]
  | succ n ih =>
   intro k b hk
   have hlt:k<t.ranges.length:=by omega
   rw [loopP_nxt (s':=(b||fit1 r t.ranges[k],((k+1:Nat):Int))) (by simp only [m50_2b,sel2_ok,(ltI_iff (k:Int) (t.ranges.length:Int)).2 (by omega),br_true,idx_get hlt,bnd_ok,p50_4 b r _ (each _ (List.getElem_mem hlt)) hr.1,wsucc hlt (by omega)])]
   rw [ih (k+1) _ (by omega),List.drop_eq_getElem_cons hlt,List.any_cons,Bool.or_assoc]
 have l1':loopP (m50_2b t (t.ranges.length:Int) r) (false,0)=some (t.ranges.any (fit1 r)):=by
  have:=l1 t.ranges.length 0 false (by omega)
  simpa using this
 have l2:m88 t.ranges (fun y0=>m98 y0 r)=some (t.ranges.any (fit1 r)):=by
  simp only [m88,m120,indexFunc (body:=m120_1b t.ranges (t.ranges.length:Int) (fun y0=>m98 y0 r)) (f:=fun y0=>m98 y0 r) t.ranges (fit1 r) (fun x hx=>p98 r x (each x hx) hr.1) (by omega) (fun s=>rfl),bnd_ok,containsFunc]
 obtain ⟨M,hM1,hM2⟩:∃M,(t.path.length≠0→∃g,m78 t.path r.attrs.path=some (M,g))∧(t.path.length≠0→m100 t.path r.attrs.path=some M):=by
  by_cases c:t.path.length=0
  · exact ⟨true,fun h=>absurd c h,fun h=>absurd c h⟩
  · rw [decide_eq_false c,Bool.false_or] at htp;obtain ⟨t',s,b,f1,f2,f3,f4⟩:=fits t.path htp r.attrs.path pl
    refine ⟨b,fun _=>⟨true,?_⟩,fun _=>f4⟩
    have c1:m78_1 r.attrs.path true=some false:=by unfold m78_1;rw [br_true,p111 _ spp,bnd_ok,pk];rfl
    unfold m78;rw [f1,bnd_ok,sel2_ok,c1,bnd_ok,br_false,f2,bnd_ok,f3,bnd_ok]
 have e1:m50_1 (ltI 0 (t.ranges.length:Int)) t r=some (if (decide (t.ranges.length=0)||t.ranges.any (fit1 r))=true then .inl () else .inr ()):=by
  unfold m50_1
  by_cases c:t.ranges.length=0
  · rw [(ltI_not _ _).2 (by omega),br_false,decide_eq_true c];rfl
  · rw [(ltI_iff _ _).2 (by omega),br_true,l1',bnd_ok,decide_eq_false c,Bool.false_or]
    cases t.ranges.any (fit1 r)<;>rfl
 have e5:m50_5 (ltI 0 (t.path.length:Int)) t r=some (if (decide (t.path.length=0)||M)=true then .inl () else .inr ()):=by
  unfold m50_5
  by_cases c:t.path.length=0
  · rw [(ltI_not _ _).2 (by omega),br_false,decide_eq_true c];rfl
  · obtain ⟨g,hg⟩:=hM1 c
    rw [(ltI_iff _ _).2 (by omega),br_true,hg,bnd_ok,sel2_ok,decide_eq_false c,Bool.false_or]
    cases M<;>rfl
 have e6:m50_6 t r=some (eqI t.comm (-1)||decide (t.comm∈r.attrs.comms)):=by
  unfold m50_6;rw [p79 _ _ sc,bnd_ok]
  cases eqI t.comm (-1)<;>rfl
 refine ⟨(decide (t.ranges.length=0)||t.ranges.any (fit1 r))&&((decide (t.path.length=0)||M)&&(eqI t.comm (-1)||decide (t.comm∈r.attrs.comms))),?_,?_⟩
 · unfold m50;rw [e1,bnd_ok]
   cases (decide (t.ranges.length=0)||t.ranges.any (fit1 r)) with
   | false=>rfl
   | true =>
    rw [if_pos rfl,selS_inl,e5,bnd_ok]
    cases (decide (t.path.length=0)||M) with
    | false=>rfl
    | true=>rw [if_pos rfl,selS_inl,e6,bnd_ok];rfl
 · unfold m61 m61_1;rw [l2,p101 _ _ sc];simp only [bnd_ok]
   have a1:eqI (t.ranges.length:Int) 0=decide (t.ranges.length=0):=by rw [Bool.eq_iff_iff,eqI_iff,decide_eq_true_eq];omega
   have a2:eqI (t.path.length:Int) 0=decide (t.path.length=0):=by rw [Bool.eq_iff_iff,eqI_iff,decide_eq_true_eq];omega
   rw [a1,a2]
   by_cases c:t.path.length=0
   · rw [decide_eq_true c];simp only [br_true]
     cases decide (t.ranges.length=0)<;>cases t.ranges.any (fit1 r)<;>cases eqI t.comm (-1)<;>rfl
   · rw [decide_eq_false c,hM2 c];simp only [br_false,bnd_ok]
     cases decide (t.ranges.length=0)<;>cases t.ranges.any (fit1 r)<;>cases M<;>cases eqI t.comm (-1)<;>rfl
noncomputable def okPol (a:Policy):Bool:=decide (a.terms.length≤8)&&a.terms.all okT
theorem sm_terms {a:Policy}(se:smPolicy a):a.terms.length≤1048576∧∀t∈a.terms,t.ranges.length≤1048576∧t.path.length≤1048576∧t.acts.length≤1048576 :=
 ⟨se.1.1,fun t ht=>by have:=se.1.2 t ht;exact ⟨this.1,this.2.1,this.2.2.2.1⟩⟩
theorem p25 (a:Policy)(se:smPolicy a):m25 a=some (okPol a):=by
 obtain ⟨sl,st⟩:=sm_terms se
 have l1:=loop_all (body:=m25_1b a (a.terms.length:Int)) a.terms.length (atB a.terms okT) (.inl ()) (.inr ()) (fun k h=>by
  obtain ⟨q1,q2,q3⟩:=st _ (List.getElem_mem h)
  simp only [m25_1b,(ltI_iff (k:Int) (a.terms.length:Int)).2 (by omega),br_true,idx_get h,bnd_ok,p47 a.terms[k] q1 q2 q3,wsucc h (by omega),atB_get h]
  cases okT a.terms[k]<;>rfl) (by simp only [m25_1b,(ltI_not (a.terms.length:Int) (a.terms.length:Int)).2 (by omega),br_false])
 rw [allN_list] at l1
 have a1:leI (a.terms.length:Int) 8=decide (a.terms.length≤8):=by rw [Bool.eq_iff_iff,leI_iff,decide_eq_true_eq];omega
 simp only [m25,l1,bnd_ok,a1,okPol]
 cases a.terms.all okT<;>cases decide (a.terms.length≤8)<;>rfl
theorem p55 (l:List Term)(hl:l.length≤1048576)(f:Term→Option Bool)(p:Term→Bool)(hf:∀x∈l,f x=some (p x)):m55 l f=some (l.any p):=by
 simp only [m55,m84,indexFunc (body:=m84_1b l (l.length:Int) f) (f:=f) l p hf (by omega) (fun s=>rfl),bnd_ok,containsFunc]
theorem p32 (a:Policy)(se:smPolicy a):m32 a=some (okPol a):=by
 obtain ⟨sl,st⟩:=sm_terms se
 have l2:m55 a.terms (fun y0=>m56 y0)=some (a.terms.any fun x=>!okT x):=p55 _ sl _ _ (fun x hx=>by obtain ⟨q1,q2,q3⟩:=st _ hx;simp only [m56,p57 x q1 q2 q3,bnd_ok])
 have a1:leI (a.terms.length:Int) 8=decide (a.terms.length≤8):=by rw [Bool.eq_iff_iff,leI_iff,decide_eq_true_eq];omega
 simp only [m32,m32_1,l2,bnd_ok,a1,okPol];rw [←any_not okT]
 cases a.terms.any fun x=>!okT x<;>cases decide (a.terms.length≤8)<;>rfl
theorem comms_sorted {xs:List Int}(h:commsB xs=true):xs.Pairwise (·<·)∧∀x∈xs,0≤x∧x≤1000000:=by
 have h:=allN_iff.1 h
 have one:∀k,(hk:k<xs.length)→(0≤xs[k]∧xs[k]≤1000000)∧(0<k→xs[k-1]'(by omega)<xs[k]):=by
  intro k hk;have:=h k hk;rw [List.getElem?_eq_getElem hk] at this;simp only [inB,Bool.and_eq_true,leI_iff,Bool.not_eq_true',Bool.and_eq_false_iff] at this
  refine ⟨this.1,fun h0=>?_⟩
  rcases this.2 with g|g
  · rw [ltI_not] at g;omega
  · rw [leI_not] at g
    rw [List.getD_eq_getElem?_getD,List.getElem?_eq_getElem (by omega)] at g
    simpa using g
 refine ⟨List.pairwise_iff_getElem.2 fun i j hi hj hij=>?_,fun x hx=>?_⟩
 · induction j with
   | zero=>omega
   | succ j ih =>
    have h1:=(one (j+1) hj).2 (by omega)
    simp only [Nat.add_sub_cancel] at h1
    by_cases c:i=j
    · subst c;exact h1
    · have:=ih (by omega) (by omega)
      omega
 · obtain ⟨k,hk,rfl⟩:=List.mem_iff_getElem.1 hx;exact (one k hk).1
theorem putF_at (n:Int):∀(l:List Int) (i:Nat),i≤l.length→(∀k (hk:k<l.length),k<i→l[k]<n)→(∀k (hk:k<l.length),i≤k→¬l[k]<n) →
    putF l n=if l[i]?=some n then l else l.take i++[n]++l.drop i:=by
 intro l
 induction l with
 | nil =>
  intro i hi _ _
  have:i=0:=by simpa using hi
  subst this;rfl
 | cons x l ih =>
  intro i hi h1 h2;simp only [putF]
  cases i with
  | zero =>
   have h3:=h2 0 (by simp) (Nat.le_refl _)
   simp only [List.getElem_cons_zero] at h3;rw [if_neg h3];simp only [List.getElem?_cons_zero,Option.some.injEq,List.take_zero,List.nil_append,List.drop_zero];rfl
  | succ i =>
   have h3:=h1 0 (by simp) (by omega)
   simp only [List.getElem_cons_zero] at h3
   rw [if_pos h3,ih i (by simpa using hi) (fun k hk hki=>h1 (k+1) (by simpa using hk) (by omega)) (fun k hk hki=>h2 (k+1) (by simpa using hk) (by omega))]
   simp only [List.getElem?_cons_succ,List.take_succ_cons,List.drop_succ_cons]
   split<;>rfl
theorem half {i j:Nat}(h:i+j≤4611686018427387904):wcv .i64 (wshr .u64 (wcv .u64 (wadd .i64 (i:Int) (j:Int))) 1)=(((i+j) / 2:Nat):Int):=by
 have e1:wadd .i64 (i:Int) (j:Int)=((i+j:Nat):Int):=by rw [wadd64 (by omega) (by omega)];omega
 have e2:wcv .u64 ((i+j:Nat):Int)=((i+j:Nat):Int):=by simp [wcv,IntKind.wrap,IntKind.bits,IntKind.signed];omega
 have e3:wshr .u64 ((i+j:Nat):Int) 1=(((i+j) / 2:Nat):Int):=by
  unfold wshr
  have:min (1:Int).toNat IntKind.u64.bits=1:=by decide
  rw [this]
  rw [Int.fdiv_eq_ediv_of_nonneg _ (by decide)]
  have:((2:Int) ^ 1)=2:=by decide
  rw [this];omega
 have e4:wcv .i64 (((i+j) / 2:Nat):Int)=(((i+j) / 2:Nat):Int):=by simp [wcv,IntKind.wrap,IntKind.bits,IntKind.signed];omega
 rw [e1,e2,e3,e4]
theorem p131 (a b:Int):m131 a b=some (ltI a b):=by
 simp only [m131,m131_1,m147,eqI_self,Bool.not_true,bnd_ok,br_false]
theorem p102 (l:List Int)(n:Int)(hl:l.length≤1000000)(hs:l.Pairwise (·<·)):∃i:Nat,i≤l.length∧m102 l n=some ((i:Int),decide (l[i]?=some n))∧putF l n=if l[i]?=some n then l else l.take i++[n]++l.drop i:=by
 have srt:=List.pairwise_iff_getElem.1 hs
 obtain ⟨b,hb,i,rfl,hi,h1,h2⟩:=loopP_inv (body:=m102_1b l n) (fun p=>∃i j:Nat,p=((i:Int),(j:Int))∧i≤j∧j≤l.length∧(∀k (hk:k<l.length),k<i→l[k]<n)∧(∀k (hk:k<l.length),j≤k→¬l[k]<n))
  (fun b=>∃i:Nat,b=(i:Int)∧i≤l.length∧(∀k (hk:k<l.length),k<i→l[k]<n)∧(∀k (hk:k<l.length),i≤k→¬l[k]<n)) (fun p=>(p.2-p.1).toNat)
  (fun p hp=>by
   obtain ⟨i,j,rfl,hij,hj,h1,h2⟩:=hp
   by_cases c:i<j
   · have hh:(i+j) / 2<l.length:=by omega
     simp only [m102_1b,sel2_ok,(ltI_iff (i:Int) (j:Int)).2 (by omega),br_true]
     rw [half (by omega),idx_get hh,bnd_ok,p131,bnd_ok]
     by_cases d:l[(i+j) / 2]<n
     · rw [(ltI_iff _ _).2 d];simp only [m102_3,br_true,bnd_ok,sel2_ok]
       refine ⟨_,rfl,⟨(i+j) / 2+1,j,?_,by omega,hj,fun k hk hki=>?_,h2⟩,?_⟩
       · rw [wadd64 (by omega) (by omega)];rfl
       · by_cases ck:k=(i+j) / 2
         · subst ck;exact d
         · have:=srt k _ hk hh (by omega);omega
       · rw [wadd64 (by omega) (by omega)];show (((j:Int))-_).toNat<((j:Int)-(i:Int)).toNat;omega
     · rw [(ltI_not _ _).2 (by omega)]
       simp only [m102_3,br_false,bnd_ok,sel2_ok]
       refine ⟨_,rfl,⟨i,(i+j) / 2,rfl,by omega,by omega,h1,fun k hk hki=>?_⟩,?_⟩
       · by_cases ck:k=(i+j) / 2
         · subst ck;exact d
         · have:=srt _ k hh hk (by omega);omega
       · show (((((i+j) / 2:Nat):Int))-(i:Int)).toNat<((j:Int)-(i:Int)).toNat;omega
   · simp only [m102_1b,sel2_ok,(ltI_not (i:Int) (j:Int)).2 (by omega),br_false]
     refine ⟨_,rfl,i,rfl,by omega,h1,fun k hk hki=>h2 k hk (by omega)⟩) (0,(l.length:Int)) ⟨0,l.length,rfl,by omega,by omega,fun k hk h=>by omega,fun k hk h=>by omega⟩
 refine ⟨i,hi,?_,putF_at n l i hi h1 h2⟩
 have e4:m102_4 l n (l.length:Int) (i:Int)=some (decide (l[i]?=some n)):=by
  unfold m102_4
  by_cases c:i<l.length
  · rw [(ltI_iff _ _).2 (by omega),br_true,idx_get c,bnd_ok,List.getElem?_eq_getElem c]
    by_cases d:l[i]=n
    · rw [(eqI_iff _ _).2 d,br_true,d];simp
    · rw [(eqI_not _ _).2 d,br_false,m132,eqI_self,bnd_ok,Bool.not_true,br_false];simp [d]
  · rw [(ltI_not _ _).2 (by omega),br_false,List.getElem?_eq_none (by omega)];rfl
 unfold m102;rw [hb,bnd_ok,e4,bnd_ok]
theorem p104 (l:List Int)(a:Acn)(hl:l.length≤1000000):m104 l (fun y0=>m105 y0 a)=some (l.filter fun x=>!eqI x a.n):=by
 have h:=deleteFunc (body:=m104_1b (fun y0=>m105 y0 a)) (f:=fun y0=>m105 y0 a) (fun x=>eqI x a.n) l (fun x _=>rfl) hl (fun i j l=>rfl)
 have e:m135 l (fun y0=>m105 y0 a)=some (match findI (fun x=>eqI x a.n) l with | none=>(-1:Int) | some i=>(i:Int)):=by
  unfold m135
  exact indexFunc (body:=m135_1b l (l.length:Int) (fun y0=>m105 y0 a)) (f:=fun y0=>m105 y0 a) l (fun x=>eqI x a.n) (fun x _=>rfl) (by omega) (fun s=>rfl)
 unfold m104;rw [e,bnd_ok];exact h
def doF (a:Acn)(r:Route):Route :=
 if a.kind=1 then ⟨r.prefix_,⟨r.attrs.origin,r.attrs.path,r.attrs.next,r.attrs.med,a.n,r.attrs.comms⟩⟩
 else if a.kind=2 then ⟨r.prefix_,⟨r.attrs.origin,r.attrs.path,r.attrs.next,a.n,r.attrs.pref,r.attrs.comms⟩⟩
 else if a.kind=3 then ⟨r.prefix_,⟨r.attrs.origin,r.attrs.path,r.attrs.next,r.attrs.med,r.attrs.pref,putF r.attrs.comms a.n⟩⟩
 else if a.kind=4 then ⟨r.prefix_,⟨r.attrs.origin,r.attrs.path,r.attrs.next,r.attrs.med,r.attrs.pref,r.attrs.comms.filter fun x=>!eqI x a.n⟩⟩
 else if a.kind=5 then ⟨r.prefix_,⟨r.attrs.origin,a.n::r.attrs.path,r.attrs.next,r.attrs.med,r.attrs.pref,r.attrs.comms⟩⟩
 else r
theorem doF_small (a:Acn)(r:Route)(h1:r.attrs.path.length≤1000)(h2:r.attrs.comms.length≤1000):(doF a r).attrs.path.length≤1001∧(doF a r).attrs.comms.length≤1001:=by
 have h3:=(putF_len a.n r.attrs.comms).2.1
 have h4:=List.length_filter_le (fun x=>!eqI x a.n) r.attrs.comms
 unfold doF
 repeat' split
 all_goals (try simp only [List.length_cons])
 all_goals omega
theorem doF_sm (a:Acn)(r:Route)(h1:r.attrs.path.length≤1000)(h2:r.attrs.comms.length≤1000):smRoute (doF a r):=by
 obtain ⟨k1,k2⟩:=doF_small a r h1 h2
 exact ⟨⟨trivial,trivial⟩,trivial,by unfold smLInt;omega,trivial,trivial,trivial,by unfold smLInt;omega⟩
theorem good_small {r:Route}(h:okR r=true):r.attrs.path.length≤10∧r.attrs.comms.length≤6∧r.attrs.comms.Pairwise (·<·):=by
 unfold okR at h;rw [Bool.and_eq_true] at h;have h2:=h.2;simp only [attrsB,Bool.and_eq_true] at h2;obtain ⟨⟨⟨⟨⟨⟨⟨_,g1⟩,_⟩,_⟩,_⟩,g2⟩,_⟩,g3⟩:=h2;have a1:=(leI_iff _ _).1 g1;have a2:=(leI_iff _ _).1 g2
 exact ⟨by omega,by omega,(comms_sorted g3).1⟩
theorem p51 (a:Acn)(r:Route)(h1:r.attrs.path.length≤1000)(h2:r.attrs.comms.length≤1000):m51 a r=some (doF a r):=by
 have e89:m52 r.attrs=some r.attrs:=by unfold m52;rw [ck_ok (by omega),ck_ok (by omega)]
 have e5:loopP (m51_5b r (r.attrs.comms.length:Int) a) (0,[])=some (r.attrs.comms.filter fun x=>!eqI x a.n):=by
  have:=loop_fold (body:=m51_5b r (r.attrs.comms.length:Int) a) r.attrs.comms (fun acc x=>if (!eqI x a.n)=true then acc++[x] else acc) id (fun k acc=>acc.length≤k) (fun k hk acc hacc=>by
   refine ⟨?_,?_⟩
   · simp only [m51_5b,sel2_ok,(ltI_iff (k:Int) (r.attrs.comms.length:Int)).2 (by omega),br_true,idx_get hk,bnd_ok,m51_7,wsucc hk (by omega)]
     cases !eqI r.attrs.comms[k] a.n
     · rfl
     · rw [br_true,ck_ok (by omega),bnd_ok,if_pos rfl]
   · split
     · simp;omega
     · omega) (fun acc hacc=>by simp only [m51_5b,sel2_ok,(ltI_not (r.attrs.comms.length:Int) (r.attrs.comms.length:Int)).2 (by omega),br_false];rfl) [] (Nat.zero_le _)
  rw [this]
  have key:∀(l acc:List Int),l.foldl (fun acc x=>if (!eqI x a.n)=true then acc++[x] else acc) acc=acc++l.filter fun x=>!eqI x a.n:=by
   intro l
   induction l with
   | nil=>intro acc;simp
   | cons x l ih =>
    intro acc;rw [List.foldl_cons,ih,List.filter_cons]
    split<;>simp
  rw [key];rfl
 have e90:=p80 r.attrs.comms a.n (by omega)
 unfold m51;rw [e89,bnd_ok]
 simp only [m51_1,m51_2,m51_3,m51_4,m51_8,e5,e90,bnd_ok,doF,ck_ok (show 1+r.attrs.path.length≤68719476736 by omega)]
 by_cases c1:a.kind=1
 · simp [c1,eqI]
 by_cases c2:a.kind=2
 · simp [c2,eqI]
 by_cases c3:a.kind=3
 · simp [c3,eqI]
 by_cases c4:a.kind=4
 · simp [c4,eqI]
 by_cases c5:a.kind=5
 · simp [c5,eqI]
 · simp [c1,c2,c3,c4,c5,eqI]
theorem p60 (r:Route)(h1:r.attrs.path.length≤1000)(h2:r.attrs.comms.length≤1000):m60 r=some r:=by
 unfold m60 m97 m124
 rw [ck_ok (by omega),bnd_ok,ck_ok (by omega),bnd_ok,bnd_ok]
theorem p62 (a:Acn)(r:Route)(h1:r.attrs.path.length≤1000)(h2:r.attrs.comms.length≤1000)(hs:r.attrs.comms.Pairwise (·<·)):m62 a r=some (doF a r,okR (doF a r)):=by
 obtain ⟨i,hi,e93,hp⟩:=p102 r.attrs.comms a.n (by omega) hs
 have e95:=p104 r.attrs.comms a (by omega)
 have e11:=p33 (doF a r) (doF_sm a r h1 h2)
 have e4:m62_4 (i:Int) (!decide (r.attrs.comms[i]?=some a.n)) a r=some (putF r.attrs.comms a.n):=by
  unfold m62_4;rw [hp]
  by_cases c:r.attrs.comms[i]?=some a.n
  · rw [decide_eq_true c,Bool.not_true,br_false,if_pos c]
  · rw [decide_eq_false c,Bool.not_false,br_true,if_neg c];unfold insP;rw [ck_ok (by simp;omega),bnd_ok,Int.toNat_natCast]
 have e6:(bnd (insP r.attrs.path 0 [a.n]) fun v33=>some v33)=some (a.n::r.attrs.path):=by
  unfold insP;rw [ck_ok (by simp;omega)];simp
 unfold m62;rw [p60 r h1 h2,bnd_ok];simp only [m62_1,m62_2,m62_3,m62_5,m62_6,e93,e95,e6,e4,bnd_ok,sel2_ok]
 by_cases c1:a.kind=1
 · have hd:doF a r=⟨r.prefix_,⟨r.attrs.origin,r.attrs.path,r.attrs.next,r.attrs.med,a.n,r.attrs.comms⟩⟩:=by simp [doF,c1]
   rw [hd] at e11 ⊢;simp [c1,eqI,e11]
 by_cases c2:a.kind=2
 · have hd:doF a r=⟨r.prefix_,⟨r.attrs.origin,r.attrs.path,r.attrs.next,a.n,r.attrs.pref,r.attrs.comms⟩⟩:=by simp [doF,c2]
   rw [hd] at e11 ⊢;simp [c2,eqI,e11]
 by_cases c3:a.kind=3
 · have hd:doF a r=⟨r.prefix_,⟨r.attrs.origin,r.attrs.path,r.attrs.next,r.attrs.med,r.attrs.pref,putF r.attrs.comms a.n⟩⟩:=by simp [doF,c3]
   rw [hd] at e11 ⊢;simp [c3,eqI,e11]
 by_cases c4:a.kind=4
 · have hd:doF a r=⟨r.prefix_,⟨r.attrs.origin,r.attrs.path,r.attrs.next,r.attrs.med,r.attrs.pref,r.attrs.comms.filter fun x=>!eqI x a.n⟩⟩:=by simp [doF,c4]
   rw [hd] at e11 ⊢
   simp only [c4,eqI,decide_true,decide_false,br_true,br_false,bnd_ok,sel2_ok,sel3_ok,sel4_ok,show ¬((4:Int)=1) by decide,show ¬((4:Int)=2) by decide,show ¬((4:Int)=3) by decide]
   simp only [eqI] at e11;rw [e11,bnd_ok]
 by_cases c5:a.kind=5
 · have hd:doF a r=⟨r.prefix_,⟨r.attrs.origin,a.n::r.attrs.path,r.attrs.next,r.attrs.med,r.attrs.pref,r.attrs.comms⟩⟩:=by simp [doF,c5]
   rw [hd] at e11 ⊢;simp [c5,eqI,e11]
 · have hd:doF a r=r:=by simp [doF,c1,c2,c3,c4,c5]
   rw [hd] at e11 ⊢;simp [c1,c2,c3,c4,c5,eqI,e11]
def tup (r:Route):Prefix×Int×Int×Int×Int×List Int×List Int:=(r.prefix_,r.attrs.origin,r.attrs.next,r.attrs.med,r.attrs.pref,r.attrs.path,r.attrs.comms)
def rte (t:Prefix×Int×Int×Int×Int×List Int×List Int):Route:=⟨t.1,⟨t.2.1,t.2.2.2.2.2.1,t.2.2.1,t.2.2.2.1,t.2.2.2.2.1,t.2.2.2.2.2.2⟩⟩
noncomputable def stepA (r:Route)(a:Acn):Route:=if okR (doF a r)=true then doF a r else r
theorem stepA_ok {r:Route}(h:okR r=true)(a:Acn):okR (stepA r a)=true:=by
 unfold stepA;split
 · assumption
 · exact h
noncomputable def actsF (r:Route)(l:List Acn):Route:=l.foldl stepA r
theorem actsF_ok:∀(l:List Acn) (r:Route),okR r=true→okR (actsF r l)=true:=by
 intro l
 induction l with
 | nil=>intro r h;exact h
 | cons a l ih=>intro r h;exact ih _ (stepA_ok h a)
theorem fold_tup:∀(l:List Acn) (r:Route),l.foldl (fun t a=>tup (stepA (rte t) a)) (tup r)=tup (actsF r l):=by
 intro l
 induction l with
 | nil=>intro r;rfl
 | cons a l ih=>intro r;exact ih (stepA r a)
theorem actsS (t:Term)(r:Route)(hr:okR r=true)(hl:t.acts.length≤1048576):loopP (m27_7b t (t.acts.length:Int)) ((0:Int),tup r)=some (tup (actsF r t.acts)):=by
 have:=loop_fold (body:=m27_7b t (t.acts.length:Int)) t.acts (fun u a=>tup (stepA (rte u) a)) id (fun _ u=>okR (rte u)=true) (fun k hk u hu=>by
  obtain ⟨g1,g2,g3⟩:=good_small hu;obtain ⟨p,o,nx,me,pf,pa,co⟩:=u
  have e1:=p51 t.acts[k] (rte (p,o,nx,me,pf,pa,co)) (by omega) (by omega)
  have e2:=p26 (doF t.acts[k] (rte (p,o,nx,me,pf,pa,co))) (doF_sm _ _ (by omega) (by omega))
  refine ⟨?_,stepA_ok hu _⟩
  simp only [m27_7b,sel8,(ltI_iff (k:Int) (t.acts.length:Int)).2 (by omega),br_true,idx_get hk,bnd_ok]
  show bnd (m51 t.acts[k] (rte (p,o,nx,me,pf,pa,co))) _=_;rw [e1,bnd_ok,e2,bnd_ok]
  cases c:okR (doF t.acts[k] (rte (p,o,nx,me,pf,pa,co))) with
  | true =>
   rw [m27_9,br_true,bnd_ok]
   simp only [sel7,wsucc hk (by omega)]
   have:stepA (rte (p,o,nx,me,pf,pa,co)) t.acts[k]=doF t.acts[k] (rte (p,o,nx,me,pf,pa,co)):=by unfold stepA;rw [if_pos c]
   rw [this];rfl
  | false =>
   rw [m27_9,br_false,bnd_ok]
   simp only [sel7,wsucc hk (by omega)]
   have:stepA (rte (p,o,nx,me,pf,pa,co)) t.acts[k]=rte (p,o,nx,me,pf,pa,co):=by unfold stepA;rw [if_neg (by rw [c];simp)]
   rw [this];rfl) (fun u _=>by
  obtain ⟨p,o,nx,me,pf,pa,co⟩:=u
  simp only [m27_7b,sel8,(ltI_not (t.acts.length:Int) (t.acts.length:Int)).2 (by omega),br_false];rfl) (tup r) hr
 rw [this,fold_tup];rfl
theorem actsI (t:Term)(r:Route)(hr:okR r=true)(hl:t.acts.length≤1048576):loopP (m34_8b t (t.acts.length:Int)) ((0:Int),tup r)=some (tup (actsF r t.acts)):=by
 have:=loop_fold (body:=m34_8b t (t.acts.length:Int)) t.acts (fun u a=>tup (stepA (rte u) a)) id (fun _ u=>okR (rte u)=true) (fun k hk u hu=>by
  obtain ⟨g1,g2,g3⟩:=good_small hu;obtain ⟨p,o,nx,me,pf,pa,co⟩:=u
  have e1:=p62 t.acts[k] (rte (p,o,nx,me,pf,pa,co)) (by omega) (by omega) g3
  refine ⟨?_,stepA_ok hu _⟩
  simp only [m34_8b,sel8,(ltI_iff (k:Int) (t.acts.length:Int)).2 (by omega),br_true,idx_get hk,bnd_ok]
  show bnd (m62 t.acts[k] (rte (p,o,nx,me,pf,pa,co))) _=_;rw [e1,bnd_ok,sel2_ok]
  cases c:okR (doF t.acts[k] (rte (p,o,nx,me,pf,pa,co))) with
  | true =>
   rw [m34_10,br_true,bnd_ok]
   simp only [sel7,wsucc hk (by omega)]
   have:stepA (rte (p,o,nx,me,pf,pa,co)) t.acts[k]=doF t.acts[k] (rte (p,o,nx,me,pf,pa,co)):=by unfold stepA;rw [if_pos c]
   rw [this];rfl
  | false =>
   rw [m34_10,br_false,bnd_ok]
   simp only [sel7,wsucc hk (by omega)]
   have:stepA (rte (p,o,nx,me,pf,pa,co)) t.acts[k]=rte (p,o,nx,me,pf,pa,co):=by unfold stepA;rw [if_neg (by rw [c];simp)]
   rw [this];rfl) (fun u _=>by
  obtain ⟨p,o,nx,me,pf,pa,co⟩:=u
  simp only [m34_8b,sel8,(ltI_not (t.acts.length:Int) (t.acts.length:Int)).2 (by omega),br_false];rfl) (tup r) hr
 rw [this,fold_tup];rfl
noncomputable def fitB (t:Term)(r:Route):Bool:=(m50 t r).getD false
noncomputable def runF:List Term→Route→Route×Option Int
 | [],r=>(r,none)
 | t::l,r=>if fitB t r=true then (if t.verdict=0 then runF l (actsF r t.acts) else (actsF r t.acts,some t.verdict)) else runF l r
theorem runF_ok:∀(l:List Term) (r:Route),okR r=true→okR (runF l r).1=true:=by
 intro l
 induction l with
 | nil=>intro r h;exact h
 | cons t l ih =>
  intro r h;simp only [runF];split
  · split
    · exact ih _ (actsF_ok _ _ h)
    · exact actsF_ok _ _ h
  · exact ih _ h
theorem good_sm {r:Route}(h:okR r=true):smRoute r:=by
 obtain ⟨g1,g2,_⟩:=good_small h
 exact ⟨⟨trivial,trivial⟩,trivial,by unfold smLInt;omega,trivial,trivial,trivial,by unfold smLInt;omega⟩
theorem runs (a:Policy)(v8:Int)(hl:a.terms.length≤1048576)(hs:∀t∈a.terms,t.ranges.length≤1048576∧t.acts.length≤1048576)(hk:∀t∈a.terms,okT t=true):∀(n k:Nat) (r:Route),n+k=a.terms.length→okR r=true →
    loopP (m27_1b a (a.terms.length:Int)) ((k:Int),tup r)=some (match runF (a.terms.drop k) r with | (x,none)=>.inl (tup x) | (x,some v)=>.inr (if v=1 then (v,tup x) else (v,(⟨0,0⟩:Prefix),0,0,0,0,[],[]))) ∧
    loopP (m34_2b v8 a (a.terms.length:Int)) ((k:Int),tup r)=some (match runF (a.terms.drop k) r with | (x,none)=>(v8,tup x) | (x,some v)=>(v,tup x))∧(∀x v,runF (a.terms.drop k) r=(x,some v)→v=1∨v=2):=by
 intro n
 induction n with
 | zero =>
  intro k r hkn hr
  rw [List.drop_eq_nil_of_le (by omega)]
  refine ⟨loopP_out ?_,loopP_out ?_,fun x v h=>by cases h⟩
  · simp only [m27_1b,tup,sel8,(ltI_not (k:Int) (a.terms.length:Int)).2 (by omega),br_false,runF]
  · simp only [m34_2b,tup,sel8,(ltI_not (k:Int) (a.terms.length:Int)).2 (by omega),br_false,runF]
 | succ n ih =>
  intro k r hkn hr
  have hlt:k<a.terms.length:=by omega
  obtain ⟨s1,s2⟩:=hs _ (List.getElem_mem hlt);have ht:=hk _ (List.getElem_mem hlt);obtain ⟨b,b1,b2⟩:=fit2 a.terms[k] r s1 (good_sm hr) ht hr
  have hb:fitB a.terms[k] r=b:=by unfold fitB;rw [b1];rfl
  have hv:a.terms[k].verdict=0∨a.terms[k].verdict=1∨a.terms[k].verdict=2:=by
   simp only [okT,Bool.and_eq_true,decide_eq_true_eq] at ht;have:=ht.2.2;omega
  have aS:=actsS a.terms[k] r hr s2;have aI:=actsI a.terms[k] r hr s2;rw [List.drop_eq_getElem_cons hlt,runF,hb]
  have w:=wsucc (i:=k) (n:=a.terms.length) hlt (by omega)
  cases b with
  | false =>
   rw [if_neg (by simp)]
   obtain ⟨i1,i2,i3⟩:=ih (k+1) r (by omega) hr
   refine ⟨?_,?_,i3⟩
   · rw [←i1];refine loopP_nxt ?_
     simp only [m27_1b,tup,sel8,(ltI_iff (k:Int) (a.terms.length:Int)).2 (by omega),br_true,m27_6,idx_get hlt,bnd_ok]
     show bnd (bnd (m50 a.terms[k] r) _) _=_;rw [b1,bnd_ok,br_false,bnd_ok];simp only [selS_inl,sel7,w]
   · rw [←i2];refine loopP_nxt ?_
     simp only [m34_2b,tup,sel8,(ltI_iff (k:Int) (a.terms.length:Int)).2 (by omega),br_true,m34_7,idx_get hlt,bnd_ok]
     show bnd (bnd (m61 a.terms[k] r) _) _=_;rw [b2,bnd_ok,br_false,bnd_ok];simp only [selS_inl,sel7,w]
  | true =>
   rw [if_pos rfl]
   have hS : m27_1b a (a.terms.length : Int) ((k : Int), tup r) = bnd (bnd (loopP (m27_7b a.terms[k] (a.terms[k].acts.length : Int)) ((0 : Int), tup r)) fun p => sel7 p fun v167 v168 v169 v170 v171 v172 v173 =>
       br (eqI a.terms[k].verdict 1) (some (.inr (a.terms[k].verdict,v167,v168,v169,v170,v171,v172,v173))) (br (eqI a.terms[k].verdict 2) (some (.inr (a.terms[k].verdict,(⟨0,0⟩:Prefix),0,0,0,0,[],[]))) (some (.inl (v167,v168,v169,v170,v171,v172,v173))))) fun o=>selS o (fun p=>sel7 p fun v178 v179 v180 v181 v182 v183 v184=>some (.nxt (((k+1:Nat):Int),v178,v179,v180,v181,v182,v183,v184))) (fun p=>sel8 p fun v185 v186 v187 v188 v189 v190 v191 v192=>some (.out (.inr (v185,v186,v187,v188,v189,v190,v191,v192)))):=by
    simp only [m27_1b,tup,sel8,(ltI_iff (k:Int) (a.terms.length:Int)).2 (by omega),br_true,m27_6,idx_get hlt,bnd_ok,w]
    show bnd (bnd (m50 a.terms[k] r) _) _=_;rw [b1,bnd_ok,br_true]
   have hI : m34_2b v8 a (a.terms.length : Int) ((k : Int), tup r) = bnd (bnd (loopP (m34_8b a.terms[k] (a.terms[k].acts.length : Int)) ((0 : Int), tup r)) fun p => sel7 p fun v166 v167 v168 v169 v170 v171 v172 =>
       br (eqI a.terms[k].verdict 0) (some (.inl (v166,v167,v168,v169,v170,v171,v172))) (some (.inr (a.terms[k].verdict,v166,v167,v168,v169,v170,v171,v172)))) fun o=>selS o (fun p=>sel7 p fun v176 v177 v178 v179 v180 v181 v182=>some (.nxt (((k+1:Nat):Int),v176,v177,v178,v179,v180,v181,v182))) (fun p=>sel8 p fun v183 v184 v185 v186 v187 v188 v189 v190=>some (.out (v183,v184,v185,v186,v187,v188,v189,v190))):=by
    simp only [m34_2b,tup,sel8,(ltI_iff (k:Int) (a.terms.length:Int)).2 (by omega),br_true,m34_7,idx_get hlt,bnd_ok,w]
    show bnd (bnd (m61 a.terms[k] r) _) _=_;rw [b2,bnd_ok,br_true]
   rw [aS,bnd_ok] at hS;rw [aI,bnd_ok] at hI
   rcases hv with hv|hv|hv
   · rw [hv] at hS hI ⊢;rw [if_pos rfl]
     obtain ⟨i1,i2,i3⟩:=ih (k+1) (actsF r a.terms[k].acts) (by omega) (actsF_ok _ _ hr)
     refine ⟨?_,?_,i3⟩
     · rw [←i1]
       exact loopP_nxt (hS.trans (by simp [tup,sel7,sel8,eqI,br,bnd,selS]))
     · rw [←i2]
       exact loopP_nxt (hI.trans (by simp [tup,sel7,sel8,eqI,br,bnd,selS]))
   · rw [hv] at hS hI ⊢
     rw [if_neg (by decide)]
     refine ⟨loopP_out (hS.trans (by simp [tup,sel7,sel8,eqI,br,bnd,selS])),loopP_out (hI.trans (by simp [tup,sel7,sel8,eqI,br,bnd,selS])),fun x v h=>by cases h;exact .inl rfl⟩
   · rw [hv] at hS hI ⊢
     rw [if_neg (by decide)]
     refine ⟨loopP_out (hS.trans (by simp [tup,sel7,sel8,eqI,br,bnd,selS])),loopP_out (hI.trans (by simp [tup,sel7,sel8,eqI,br,bnd,selS])),fun x v h=>by cases h;exact .inr rfl⟩
theorem p28 (r:Route)(h1:r.attrs.path.length≤1000)(h2:r.attrs.comms.length≤1000):m28 r=some r:=by
 unfold m28 m52
 rw [ck_ok (by omega),ck_ok (by omega),bnd_ok]
theorem apply2 (a:Policy)(r:Route)(hl:a.terms.length≤1048576)(hs:∀t∈a.terms,t.ranges.length≤1048576∧t.acts.length≤1048576)(hk:∀t∈a.terms,okT t=true)(hr:okR r=true) :
    ∃X V,m27 a r=some (V,tup X)∧m34 a r=some (X,V)∧X.attrs.path.length≤1000∧X.attrs.comms.length≤1000∧(V=1∧okR X=true∨V=2):=by
 obtain ⟨g1,g2,_⟩:=good_small hr
 have e1:m34_1 a=some (if a.accept=true then 1 else 2):=by unfold m34_1;cases a.accept<;>rfl
 obtain ⟨i1,i2,i3⟩:=runs a (if a.accept=true then 1 else 2) hl hs hk a.terms.length 0 r (by omega) hr
 rw [List.drop_zero] at i1 i2 i3;have hok:=runF_ok a.terms r hr;generalize runF a.terms r=R at *;obtain ⟨x,ov⟩:=R;obtain ⟨q1,q2,_⟩:=good_small hok;have j1:loopP (m27_1b a (a.terms.length:Int)) (0,r.prefix_,r.attrs.origin,r.attrs.next,r.attrs.med,r.attrs.pref,r.attrs.path,r.attrs.comms)=_:=i1
 have j2:loopP (m34_2b (if a.accept=true then 1 else 2) a (a.terms.length:Int)) (0,r.prefix_,r.attrs.origin,r.attrs.next,r.attrs.med,r.attrs.pref,r.attrs.path,r.attrs.comms)=_:=i2
 have e60:=p60 r (by omega) (by omega)
 unfold m27 m34;rw [e60,bnd_ok,e1,bnd_ok,j1,j2];simp only at q1 q2 hok
 cases ov with
 | none =>
  cases ha:a.accept
  · refine ⟨⟨⟨0,0⟩,⟨0,[],0,0,0,[]⟩⟩,2,?_,?_,by simp,by simp,.inr rfl⟩<;>simp [tup,sel7,sel8,eqI,br,bnd,selS]
  · refine ⟨x,1,?_,?_,by omega,by omega,.inl ⟨rfl,hok⟩⟩<;>simp [tup,sel7,sel8,eqI,br,bnd,selS]
 | some v =>
  rcases i3 x v rfl with hv|hv<;>subst hv
  · refine ⟨x,1,?_,?_,by omega,by omega,.inl ⟨rfl,hok⟩⟩<;>simp [tup,sel7,sel8,eqI,br,bnd,selS]
  · refine ⟨⟨⟨0,0⟩,⟨0,[],0,0,0,[]⟩⟩,2,?_,?_,by simp,by simp,.inr rfl⟩<;>simp [tup,sel7,sel8,eqI,br,bnd,selS]
theorem kTerms (l:List Term)(hl:l.length≤1048576)(hs:∀t∈l,t.ranges.length≤1048576∧t.path.length≤1048576∧t.acts.length≤1048576):∃k' ys,m38 l 1=some (k',ys)∧ys.length=l.length∧0≤k'∧k'≤8796097216513:=by
 obtain ⟨b,hb,h1,h2,h3⟩:=loopP_inv (body:=m38_1b) (fun p=>∃i:Nat,p.2.1=(i:Int)∧i≤l.length∧p.2.2.length=l.length∧0≤p.1∧p.1≤1+(i:Int)*8388612∧∀j (hj:j<p.2.2.length),i≤j→p.2.2[j]∈l)
  (fun b=>b.2.length=l.length∧0≤b.1∧b.1≤8796097216513) (fun p=>((l.length:Int)-p.2.1).toNat)
  (fun p hp=>by
   obtain ⟨k,z,m⟩:=p;obtain ⟨i,rfl,hi,hm,k0,k1,hrest⟩:=hp;simp only at hm k0 k1 hrest;simp only [m38_1b,sel3_ok]
   by_cases c:i<m.length
   · have hx:=hs _ (hrest i c (Nat.le_refl _))
     obtain ⟨y1,a1,b1⟩:=k65 m[i].ranges k hx.1 k0 (by omega)
     obtain ⟨y2,a2,b2⟩:=k66 m[i].path (k+(4:Nat)*m[i].ranges.length) hx.2.1 (by omega) (by omega)
     have w1:wadd .i64 (k+(4:Nat)*m[i].ranges.length+(2:Nat)*m[i].path.length) 1=k+(4:Nat)*m[i].ranges.length+(2:Nat)*m[i].path.length+1:=wadd64 (by omega) (by omega)
     obtain ⟨y3,a3,b3⟩:=k67 m[i].acts (k+(4:Nat)*m[i].ranges.length+(2:Nat)*m[i].path.length+1) hx.2.2 (by omega) (by omega)
     have w2:wadd .i64 (k+(4:Nat)*m[i].ranges.length+(2:Nat)*m[i].path.length+1+(2:Nat)*m[i].acts.length) 1=k+(4:Nat)*m[i].ranges.length+(2:Nat)*m[i].path.length+1+(2:Nat)*m[i].acts.length+1:=wadd64 (by omega) (by omega)
     rw [(ltI_iff _ _).2 (by omega),br_true,idx_get c,bnd_ok,a1,bnd_ok,sel2_ok,ck_ok b1,a2,bnd_ok,sel2_ok,ck_ok b2,w1,a3,bnd_ok,sel2_ok,ck_ok b3,w2,wsucc c (by omega)]
     refine ⟨_,rfl,⟨i+1,rfl,by omega,by simpa using hm,by show 0≤_;omega,by show _≤1+((i+1:Nat):Int)*8388612;omega,fun j hj hij=>?_⟩,?_⟩
     · simp only [Int.toNat_natCast,List.set_set,List.length_set] at hj ⊢
       rw [List.getElem_set_ne (by omega)]
       exact hrest j hj (by omega)
     · show ((l.length:Int)-((i+1:Nat):Int)).toNat<((l.length:Int)-(i:Int)).toNat;omega
   · rw [(ltI_not _ _).2 (by omega),br_false]
     exact ⟨_,rfl,hm,k0,by show k≤_;omega⟩) (1,0,l) ⟨0,rfl,by omega,rfl,by show (0:Int)≤1;omega,by show (1:Int)≤_;omega,fun j hj _=>List.getElem_mem hj⟩
 obtain ⟨k',ys⟩:=b
 exact ⟨k',ys,by unfold m38;rw [hb,bnd_ok,sel2_ok],h1,h2,h3⟩
noncomputable def apX (a:Policy)(r:Route):Route×Int:=(m34 a r).getD (r,0)
noncomputable def outF (a:Policy)(acc:List Route)(r:Route):List Route:=if (apX a r).2=1 then acc++[(apX a r).1] else acc
theorem outF_len (a:Policy):∀(l acc:List Route),(l.foldl (outF a) acc).length≤acc.length+l.length:=by
 intro l
 induction l with
 | nil=>intro acc;exact Nat.le_refl _
 | cons r l ih =>
  intro acc;have:=ih (outF a acc r)
  have h2:(outF a acc r).length≤acc.length+1:=by unfold outF;split<;>simp
  simp only [List.foldl_cons,List.length_cons];omega
theorem outF_mem (a:Policy)(Q:Route→Prop):∀(l acc:List Route),(∀x∈acc,Q x)→(∀r∈l,Q (apX a r).1)→∀x∈l.foldl (outF a) acc,Q x:=by
 intro l
 induction l with
 | nil=>intro acc h _;exact h
 | cons r l ih =>
  intro acc h1 h2
  refine ih _ (fun x hx=>?_) (fun r' hr'=>h2 r' (List.mem_cons_of_mem _ hr'))
  unfold outF at hx;split at hx
  · rcases List.mem_append.1 hx with h|h
    · exact h1 x h
    · rw [List.mem_singleton.1 h];exact h2 r (List.mem_cons_self ..)
  · exact h1 x hx
theorem filt (a:Policy)(l:List Route)(hl:l.length≤1048576)(h1:a.terms.length≤1048576)(h2:∀t∈a.terms,t.ranges.length≤1048576∧t.acts.length≤1048576)(h3:∀t∈a.terms,okT t=true)(h4:∀r∈l,okR r=true) :
    loopP (m17_2b l (l.length:Int) a) (0,[])=some (.inl (l.foldl (outF a) []))∧loopP (m19_2b l (l.length:Int) a) (0,[])=some (l.foldl (outF a) [])∧(l.foldl (outF a) []).length≤l.length∧∀x∈l.foldl (outF a) [],x.attrs.path.length≤1000∧x.attrs.comms.length≤1000:=by
 have ap:∀r∈l,∃X V,apX a r=(X,V)∧m27 a r=some (V,tup X)∧m34 a r=some (X,V)∧X.attrs.path.length≤1000∧X.attrs.comms.length≤1000:=fun r hr=>by
  obtain ⟨X,V,b1,b2,b3,b4,_⟩:=apply2 a r h1 h2 h3 (h4 r hr)
  exact ⟨X,V,by unfold apX;rw [b2];rfl,b1,b2,b3,b4⟩
 refine ⟨?_,?_,by simpa using outF_len a l [],outF_mem a (fun x=>x.attrs.path.length≤1000∧x.attrs.comms.length≤1000) l [] (by simp) (fun r hr=>by obtain ⟨X,V,b0,_,_,b3,b4⟩:=ap r hr;rw [b0];exact ⟨b3,b4⟩)⟩
 · refine loop_fold (body:=m17_2b l (l.length:Int) a) l (outF a) .inl (fun k acc=>acc.length≤k) (fun k hk acc hacc=>?_) (fun acc hacc=>?_) [] (Nat.zero_le _)
   · have hr:=h4 _ (List.getElem_mem hk);obtain ⟨X,V,b0,b1,b2,b3,b4⟩:=ap _ (List.getElem_mem hk);obtain ⟨g1,g2,_⟩:=good_small hr
     have e4:m17_4 (eqI V 1) acc X.prefix_ X.attrs.origin X.attrs.next X.attrs.med X.attrs.pref X.attrs.path X.attrs.comms=some (outF a acc l[k]):=by
      unfold m17_4 outF;rw [b0]
      by_cases c:V=1
      · rw [(eqI_iff _ _).2 c,br_true,if_pos c];show bnd (m28 X) _=_
        rw [p28 X b3 b4,bnd_ok,ck_ok (by omega)]
      · rw [(eqI_not _ _).2 c,br_false,if_neg c]
     refine ⟨?_,by unfold outF;split<;>(try simp only [List.length_append,List.length_cons,List.length_nil])<;>omega⟩
     simp only [m17_2b,sel2_ok,(ltI_iff (k:Int) (l.length:Int)).2 (by omega),br_true,idx_get hk,bnd_ok,p26 _ (good_sm hr),hr,p28 _ (show l[k].attrs.path.length≤1000 by omega) (show l[k].attrs.comms.length≤1000 by omega),b1]
     show bnd (m17_4 (eqI V 1) acc X.prefix_ X.attrs.origin X.attrs.next X.attrs.med X.attrs.pref X.attrs.path X.attrs.comms) _=_
     rw [e4,bnd_ok,wsucc hk (by omega)]
   · simp only [m17_2b,sel2_ok,(ltI_not (l.length:Int) (l.length:Int)).2 (by omega),br_false]
 · refine loop_fold (body:=m19_2b l (l.length:Int) a) l (outF a) id (fun k acc=>acc.length≤k) (fun k hk acc hacc=>?_) (fun acc hacc=>?_) [] (Nat.zero_le _)
   · obtain ⟨X,V,b0,b1,b2,b3,b4⟩:=ap _ (List.getElem_mem hk)
     have e4:m19_4 (eqI V 1) acc X=some (outF a acc l[k]):=by
      unfold m19_4 outF;rw [b0]
      by_cases c:V=1
      · rw [(eqI_iff _ _).2 c,br_true,if_pos c,ck_ok (by omega)]
      · rw [(eqI_not _ _).2 c,br_false,if_neg c]
     refine ⟨?_,by unfold outF;split<;>(try simp only [List.length_append,List.length_cons,List.length_nil])<;>omega⟩
     simp only [m19_2b,sel2_ok,(ltI_iff (k:Int) (l.length:Int)).2 (by omega),br_true,idx_get hk,bnd_ok,b2,e4,wsucc hk (by omega)]
   · simp only [m19_2b,sel2_ok,(ltI_not (l.length:Int) (l.length:Int)).2 (by omega),br_false];rfl
theorem filtBad (a:Policy)(l:List Route)(hl:smLRoute l)(h1:a.terms.length≤1048576)(h2:∀t∈a.terms,t.ranges.length≤1048576∧t.acts.length≤1048576)(h3:∀t∈a.terms,okT t=true)(h4:∃r∈l,okR r=false) :
    loopP (m17_2b l (l.length:Int) a) (0,[])=some (.inr ()):=by
 have hll:=hl.1;obtain ⟨r,hr,hb⟩:=h4;obtain ⟨j,hj,rfl⟩:=List.mem_iff_getElem.1 hr
 obtain ⟨b,hb1,hb2⟩:=loopP_inv (body:=m17_2b l (l.length:Int) a) (fun p=>∃k:Nat,p.1=(k:Int)∧k≤j∧p.2.length≤k) (fun b=>b=.inr ()) (fun p=>((l.length:Int)-p.1).toNat)
  (fun p hp=>by
   obtain ⟨z,acc⟩:=p;obtain ⟨k,hk0,hkj,hacc⟩:=hp;simp only at hk0 hacc;subst hk0
   have hk:k<l.length:=by omega
   simp only [m17_2b,sel2_ok,(ltI_iff (k:Int) (l.length:Int)).2 (by omega),br_true,idx_get hk,bnd_ok,p26 _ (hl.2 _ (List.getElem_mem hk))]
   cases hg:okR l[k] with
   | false=>rw [br_false];exact ⟨_,rfl,rfl⟩
   | true =>
    obtain ⟨g1,g2,_⟩:=good_small hg;obtain ⟨X,V,b1,b2,b3,b4,_⟩:=apply2 a l[k] h1 h2 h3 hg
    rw [br_true,p28 _ (by omega) (by omega),bnd_ok,b1,bnd_ok]
    show ∃c,bnd (m17_4 (eqI V 1) acc X.prefix_ X.attrs.origin X.attrs.next X.attrs.med X.attrs.pref X.attrs.path X.attrs.comms) _=some c∧_
    obtain ⟨acc',e4,ha⟩:∃acc',m17_4 (eqI V 1) acc X.prefix_ X.attrs.origin X.attrs.next X.attrs.med X.attrs.pref X.attrs.path X.attrs.comms=some acc'∧acc'.length≤k+1:=by
     unfold m17_4;cases eqI V 1
     · exact ⟨acc,rfl,by omega⟩
     · rw [br_true];show ∃acc',bnd (m28 X) _=some acc'∧_
       rw [p28 X b3 b4,bnd_ok,ck_ok (by omega)]
       exact ⟨_,rfl,by simp;omega⟩
    rw [e4,bnd_ok,wsucc hk (by omega)]
    have hne:k≠j:=by rintro rfl;rw [hg] at hb;cases hb
    exact ⟨_,rfl,⟨k+1,rfl,by omega,ha⟩,by show ((l.length:Int)-((k+1:Nat):Int)).toNat<((l.length:Int)-(k:Int)).toNat;omega⟩) (0,[]) ⟨0,rfl,by omega,by simp⟩
 rw [hb1,hb2]
theorem p41 (l:List Route)(hl:smLRoute l):m41 l (fun y0=>m42 y0)=some (l.any fun x=>!okR x):=by
 have hll:=hl.1
 simp only [m41,m68,indexFunc (body:=m68_1b l (l.length:Int) (fun y0=>m42 y0)) (f:=fun y0=>m42 y0) l (fun x=>!okR x) (fun x hx=>by simp only [m42,p33 x (hl.2 x hx),bnd_ok]) (by omega) (fun s=>rfl),bnd_ok,containsFunc]
def RR (x:Route)(k k':Int)(y:Route):Prop :=
 y=⟨⟨k,k+1⟩,⟨k+2,ramp (k+3) x.attrs.path.length,k+3+x.attrs.path.length,k+4+x.attrs.path.length,k+5+x.attrs.path.length,ramp (k+6+x.attrs.path.length) x.attrs.comms.length⟩⟩∧k'=k+6+x.attrs.path.length+x.attrs.comms.length∧x.attrs.path.length≤1048576∧x.attrs.comms.length≤1048576
theorem kRoutes (l:List Route)(k:Int)(hl:smLRoute l)(h0:0≤k)(h1:k≤8796097216513):∃k' ys,m21 l k=some (k',ys)∧ys.length=l.length∧k≤k'∧m22 ys k=some k':=by
 obtain ⟨k',ys,e1,e2,e3,e4,e5⟩:=mark_rel (good:=smRoute) (W:=2097158) (B:=4611686018427387904) (by omega) RR
  (fun x k h h0 h1=>by
   have a1:x.attrs.path.length≤1048576:=h.2.2.1;have a2:x.attrs.comms.length≤1048576:=h.2.2.2.2.2.2
   exact ⟨_,_,⟨rfl,rfl,a1,a2⟩,by omega,by omega⟩) (body:=m21_1b) (fun i l k k' y h hl hr h0 h1=>by
   obtain ⟨rfl,rfl,a1,a2⟩:=hr
   have w1:wadd .i64 k 1=k+1:=wadd64 (by omega) (by omega)
   have w2:wadd .i64 (k+1) 1=k+2:=by rw [wadd64 (by omega) (by omega)];omega
   have w2':wadd .i64 (k+2) 1=k+3:=by rw [wadd64 (by omega) (by omega)];omega
   have w3:∀p:Nat,p≤1048576→wadd .i64 (k+3+p) 1=k+4+p:=fun p hp=>by rw [wadd64 (by omega) (by omega)];omega
   have w4:∀p:Nat,p≤1048576→wadd .i64 (k+4+p) 1=k+5+p:=fun p hp=>by rw [wadd64 (by omega) (by omega)];omega
   have w5:∀p:Nat,p≤1048576→wadd .i64 (k+5+p) 1=k+6+p:=fun p hp=>by rw [wadd64 (by omega) (by omega)];omega
   simp only [m21_1b,sel3_ok,(ltI_iff (i:Int) (l.length:Int)).2 (by omega),br_true,idx_get h,bnd_ok,w1,w2,w2',k43 _ (k+3) a1 (by omega) (by omega),sel2_ok,ck_ok (ramp_length _ _),w3 _ a1,w4 _ a1,w5 _ a1,k43 _ (k+6+(l[i].attrs.path.length:Int)) a2 (by omega) (by omega),wsucc h (by omega),Int.toNat_natCast,List.set_set])
  (fun l k=>by simp only [m21_1b,sel3_ok,(ltI_not (l.length:Int) (l.length:Int)).2 (by omega),br_false])
  (hbody:=m22_1b) (fun l i k k' x h hl hr h0 h1=>by
   obtain ⟨hy,rfl,a1,a2⟩:=hr
   have w1:wadd .i64 k 1=k+1:=wadd64 (by omega) (by omega)
   have w2:wadd .i64 (k+1) 1=k+2:=by rw [wadd64 (by omega) (by omega)];omega
   have w2':wadd .i64 (k+2) 1=k+3:=by rw [wadd64 (by omega) (by omega)];omega
   have w3:wadd .i64 (k+3+(x.attrs.path.length:Int)) 1=k+4+x.attrs.path.length:=by rw [wadd64 (by omega) (by omega)];omega
   have w4:wadd .i64 (k+4+(x.attrs.path.length:Int)) 1=k+5+x.attrs.path.length:=by rw [wadd64 (by omega) (by omega)];omega
   have w5:wadd .i64 (k+5+(x.attrs.path.length:Int)) 1=k+6+x.attrs.path.length:=by rw [wadd64 (by omega) (by omega)];omega
   simp only [m22_1b,sel2_ok,(ltI_iff (i:Int) (l.length:Int)).2 (by omega),br_true,idx_get h,bnd_ok,hy,w1,w2,w2',eqI_self,d44 _ (k+3) a1 (by omega) (by omega),(ltI_not (k+3+(x.attrs.path.length:Int)) 0).2 (by omega),br_false,w3,w4,w5,d44 _ (k+6+(x.attrs.path.length:Int)) a2 (by omega) (by omega),(ltI_not (k+6+(x.attrs.path.length:Int)+(x.attrs.comms.length:Int)) 0).2 (by omega),wsucc h (by omega)])
  (fun l k=>by simp only [m22_1b,sel2_ok,(ltI_not (l.length:Int) (l.length:Int)).2 (by omega),br_false])
  l k hl.1 hl.2 h0 (by have:=hl.1;have:(l.length:Int)*2097158≤1048576*2097158:=Int.mul_le_mul_of_nonneg_right (by omega) (by omega);omega)
 exact ⟨k',ys,by unfold m21;rw [e1,bnd_ok,sel2_ok],e2,e3,by unfold m22;rw [e5,bnd_ok,selS_inl]⟩
theorem law (a0:Policy)(a1:List Route)(w0:wfPolicy a0)(w1:wfLRoute a1):m4 a0 a1=some true:=by
 unfold m4
 obtain ⟨v,hv,v1,v2,hsv⟩:=z5 a0 1048576 w0 (by omega) (by omega)
 rw [hv,bnd_ok]
 by_cases c0:v<0
 · rw [(ltI_iff _ _).2 c0,br_true]
 rw [(ltI_not _ _).2 (by omega),br_false]
 obtain ⟨u,hu,u1,u2,hsu⟩:=z16 a1 v w1 (by omega) (by omega)
 rw [hu,bnd_ok]
 by_cases c1:u<0
 · rw [(ltI_iff _ _).2 c1,br_true]
 rw [(ltI_not _ _).2 (by omega),br_false]
 have sa:smPolicy a0:=hsv (by omega)
 have sb:smLRoute a1:=hsu (by omega)
 obtain ⟨st1,st2⟩:=sm_terms sa
 have st3:∀t∈a0.terms,t.ranges.length≤1048576∧t.acts.length≤1048576:=fun t ht=>⟨(st2 t ht).1,(st2 t ht).2.2⟩
 have sbl:=sb.1;rw [t8 a0 sa,bnd_ok,t18 a1 sb,bnd_ok]
 obtain ⟨X,B,e1,e2,sX⟩:∃X B,m17 a0 a1=some (X,B)∧m19 a0 a1=some (X,B)∧smLRoute X:=by
  have c1:m17_1 a1 a0=some (!(okPol a0&&decide (a1.length≤30))):=by
   unfold m17_1;rw [p25 a0 sa,bnd_ok];cases okPol a0
   · rfl
   · rw [br_true,Bool.true_and,Option.some.injEq,Bool.eq_iff_iff,ltI_iff,Bool.not_eq_true',decide_eq_false_iff_not];omega
  have c2:m19_1 a1 a0=some (!(okPol a0&&decide (a1.length≤30)&&a1.all okR)):=by
   unfold m19_1;rw [p32 a0 sa,bnd_ok,p41 a1 sb,bnd_ok,←any_not okR,Bool.and_assoc]
   by_cases c:a1.length≤30
   · rw [(ltI_not _ _).2 (by omega),br_false,decide_eq_true c]
     cases okPol a0<;>cases a1.any fun x=>!okR x<;>rfl
   · rw [(ltI_iff _ _).2 (by omega),br_true,decide_eq_false c]
     cases okPol a0<;>rfl
  unfold m17 m19;rw [c1,c2,bnd_ok,bnd_ok]
  cases c:okPol a0&&decide (a1.length≤30) with
  | false=>exact ⟨[],false,rfl,rfl,by simp,by simp⟩
  | true =>
   rw [Bool.and_eq_true] at c
   have hall:∀t∈a0.terms,okT t=true:=by
    have:=c.1;simp only [okPol,Bool.and_eq_true] at this;exact List.all_eq_true.1 this.2
   rw [Bool.not_true,br_false,Bool.true_and]
   cases d:a1.all okR with
   | true =>
    obtain ⟨r1,r2,r3,r4⟩:=filt a0 a1 sbl st1 st3 hall (List.all_eq_true.1 d);rw [Bool.not_true,br_false,r1,bnd_ok,selS_inl,r2,bnd_ok]
    exact ⟨_,true,rfl,rfl,by omega,fun x hx=>by
     have:=r4 x hx
     exact ⟨⟨trivial,trivial⟩,trivial,by unfold smLInt;omega,trivial,trivial,trivial,by unfold smLInt;omega⟩⟩
   | false =>
    obtain ⟨r,hr,hb⟩:=List.all_eq_false.1 d
    rw [filtBad a0 a1 sb st1 st3 hall ⟨r,hr,by simpa using hb⟩,bnd_ok,Bool.not_false,br_true]
    exact ⟨[],false,rfl,rfl,by simp,by simp⟩
 have qX:=q20 X sX;have qa:=q12 a0 sa;have qb:=q20 a1 sb;obtain ⟨k1,ya,f1,f2,f3,f4⟩:=kTerms a0.terms st1 st2
 have e13:m13 a0 1=some (k1,ya):=by unfold m13;rw [f1,bnd_ok,sel2_ok,ck_ok f2]
 obtain ⟨k2,yb,g1,g2,g3,_⟩:=kRoutes a1 k1 sb f3 f4
 obtain ⟨k3,yc,h1,h2,h3,h4⟩:=kRoutes X 1 sX (by omega) (by omega)
 have d1:m4_1 B B X X=some false:=by simp only [m4_1,qX,bnd_ok,br_true,eqB_self,Bool.not_true]
 have d2:m4_2 B B k2 X X=some false:=by simp only [m4_2,(ltI_not k2 0).2 (by omega),br_false,qX,bnd_ok,br_true,eqB_self,Bool.not_true]
 have d3:m4_3 B B X X=some false:=by simp only [m4_3,qX,bnd_ok,br_true,eqB_self,Bool.not_true]
 rw [e1,bnd_ok,sel2_ok,e2,bnd_ok,sel2_ok,d1,bnd_ok,br_false,qa,bnd_ok,br_true,qb,bnd_ok,br_true,e13,bnd_ok,sel2_ok,ck_ok f2,g1,bnd_ok,sel2_ok,ck_ok g2,d2,bnd_ok,br_false,
  h1,bnd_ok,sel2_ok,ck_ok h2,h4,bnd_ok,(ltI_not k3 0).2 (by omega),br_false,eqI_self,br_true,d3,bnd_ok,br_false]
end Go.Pi.YthidbgihjhkjaaaGreat.FilterRoutes
