/- no condition -/
import Derived.Test.YthidbgihjhkjaaaGreatFilterRoutesModFilterRoutes
import Derived.Test.YthidbgihjhkjaaaGreatPiD
set_option linter.all false
namespace Go.Pi.YthidbgihjhkjaaaGreat.FilterRoutes
open Go Go.Pi
set_option linter.all false
def smInt (x:Int):Prop:=True
def smPrefix (x:Prefix):Prop:=smInt x.addr∧smInt x.len
def smRange (x:Range):Prop:=smPrefix x.prefix_∧smInt x.lo∧smInt x.hi
def smLRange (x:(List Range)):Prop:=x.length≤1048576
def smReCell (x:ReCell):Prop:=smInt x.kind∧smInt x.n
def smLReCell (x:(List ReCell)):Prop:=x.length≤1048576
def smAcn (x:Acn):Prop:=smInt x.kind∧smInt x.n
def smLAcn (x:(List Acn)):Prop:=x.length≤1048576
def smTerm (x:Term):Prop:=smLRange x.ranges∧smLReCell x.path∧smInt x.comm∧smLAcn x.acts∧smInt x.verdict
def smLTerm (x:(List Term)):Prop:=x.length≤1048576∧∀y∈x,smTerm y
def smBool (x:Bool):Prop:=True
def smPolicy (x:Policy):Prop:=smLTerm x.terms∧smBool x.accept
def smLInt (x:(List Int)):Prop:=x.length≤1048576
def smAttrs (x:Attrs):Prop:=smInt x.origin∧smLInt x.path∧smInt x.next∧smInt x.med∧smInt x.pref∧smLInt x.comms
def smRoute (x:Route):Prop:=smPrefix x.prefix_∧smAttrs x.attrs
def smLRoute (x:(List Route)):Prop:=x.length≤1048576∧∀y∈x,smRoute y
def sml6T (x:l6T):Prop:=True
def smLl6T (x:(List l6T)):Prop:=x.length≤1048576∧∀y∈x,sml6T y
def smpattern (x:pattern):Prop:=True
def smPpattern (x:pattern):Prop:=True
def smLPpattern (x:(List pattern)):Prop:=x.length≤1048576∧∀y∈x,smPpattern y
theorem z69 (a0:(List Range))(a1:Int)(hw:wfLRange a0)(h0:0≤a1)(h1:a1≤1048576):SzOk smLRange a0 a1 (m69 a0 a1):=sz_flat a0 a1 hw.1 h0 h1
theorem z70 (a0:(List ReCell))(a1:Int)(hw:wfLReCell a0)(h0:0≤a1)(h1:a1≤1048576):SzOk smLReCell a0 a1 (m70 a0 a1):=sz_flat a0 a1 hw.1 h0 h1
theorem z71 (a0:(List Acn))(a1:Int)(hw:wfLAcn a0)(h0:0≤a1)(h1:a1≤1048576):SzOk smLAcn a0 a1 (m71 a0 a1):=sz_flat a0 a1 hw.1 h0 h1
theorem z45 (a0:Term)(a1:Int)(hw:wfTerm a0)(h0:0≤a1)(h1:a1≤1048576):SzOk smTerm a0 a1 (m45 a0 a1):=by
 obtain ⟨w0,w1,w2,w3,w4⟩:=hw;unfold m45;have b1:=h1
 obtain ⟨v0,e0,l0,u0,s0⟩:=z69 a0.ranges a1 w0 (by omega) (by omega)
 rw [e0,bnd_ok]
 by_cases c0:v0<0
 · rw [(ltI_iff _ _).2 c0];exact ⟨-1,rfl,by omega,by omega,by omega⟩
 rw [(ltI_not _ _).2 (by omega),br_false]
 obtain ⟨v1,e1,l1,u1,s1⟩:=z70 a0.path v0 w1 (by omega) (by omega)
 rw [e1,bnd_ok]
 by_cases c1:v1<0
 · rw [(ltI_iff _ _).2 c1];exact ⟨-1,rfl,by omega,by omega,by omega⟩
 rw [(ltI_not _ _).2 (by omega),br_false]
 obtain ⟨v3,e3,l3,u3,s3⟩:=z71 a0.acts v1 w3 (by omega) (by omega)
 rw [e3,bnd_ok]
 by_cases c3:v3<0
 · rw [(ltI_iff _ _).2 c3];exact ⟨-1,rfl,by omega,by omega,by omega⟩
 rw [(ltI_not _ _).2 (by omega),br_false]
 exact ⟨_,rfl,by omega,by omega,fun _=>⟨s0 (by omega),s1 (by omega),trivial,s3 (by omega),trivial⟩⟩
theorem z23 (a0:(List Term))(a1:Int)(hw:wfLTerm a0)(h0:0≤a1)(h1:a1≤1048576):SzOk smLTerm a0 a1 (m23 a0 a1):=sz_slice (sm:=smTerm) (W:=wfTerm) (m:=m45) z45 a0 a1 hw h0 h1 (fun p=>rfl)
theorem z5 (a0:Policy)(a1:Int)(hw:wfPolicy a0)(h0:0≤a1)(h1:a1≤1048576):SzOk smPolicy a0 a1 (m5 a0 a1):=by
 obtain ⟨w0,w1⟩:=hw;unfold m5;have b1:=h1
 obtain ⟨v0,e0,l0,u0,s0⟩:=z23 a0.terms a1 w0 (by omega) (by omega)
 rw [e0,bnd_ok]
 by_cases c0:v0<0
 · rw [(ltI_iff _ _).2 c0];exact ⟨-1,rfl,by omega,by omega,by omega⟩
 rw [(ltI_not _ _).2 (by omega),br_false]
 exact ⟨_,rfl,by omega,by omega,fun _=>⟨s0 (by omega),trivial⟩⟩
theorem z46 (a0:(List Int))(a1:Int)(hw:wfLInt a0)(h0:0≤a1)(h1:a1≤1048576):SzOk smLInt a0 a1 (m46 a0 a1):=sz_flat a0 a1 hw.1 h0 h1
theorem z24 (a0:Attrs)(a1:Int)(hw:wfAttrs a0)(h0:0≤a1)(h1:a1≤1048576):SzOk smAttrs a0 a1 (m24 a0 a1):=by
 obtain ⟨w0,w1,w2,w3,w4,w5⟩:=hw;unfold m24;have b1:=h1
 obtain ⟨v1,e1,l1,u1,s1⟩:=z46 a0.path a1 w1 (by omega) (by omega)
 rw [e1,bnd_ok]
 by_cases c1:v1<0
 · rw [(ltI_iff _ _).2 c1];exact ⟨-1,rfl,by omega,by omega,by omega⟩
 rw [(ltI_not _ _).2 (by omega),br_false]
 obtain ⟨v5,e5,l5,u5,s5⟩:=z46 a0.comms v1 w5 (by omega) (by omega)
 rw [e5,bnd_ok]
 by_cases c5:v5<0
 · rw [(ltI_iff _ _).2 c5];exact ⟨-1,rfl,by omega,by omega,by omega⟩
 rw [(ltI_not _ _).2 (by omega),br_false]
 exact ⟨_,rfl,by omega,by omega,fun _=>⟨trivial,s1 (by omega),trivial,trivial,trivial,s5 (by omega)⟩⟩
theorem z6 (a0:Route)(a1:Int)(hw:wfRoute a0)(h0:0≤a1)(h1:a1≤1048576):SzOk smRoute a0 a1 (m6 a0 a1):=by
 obtain ⟨w0,w1⟩:=hw;unfold m6;have b1:=h1
 obtain ⟨v1,e1,l1,u1,s1⟩:=z24 a0.attrs a1 w1 (by omega) (by omega)
 rw [e1,bnd_ok]
 by_cases c1:v1<0
 · rw [(ltI_iff _ _).2 c1];exact ⟨-1,rfl,by omega,by omega,by omega⟩
 rw [(ltI_not _ _).2 (by omega),br_false]
 exact ⟨_,rfl,by omega,by omega,fun _=>⟨⟨trivial,trivial⟩,s1 (by omega)⟩⟩
theorem z16 (a0:(List Route))(a1:Int)(hw:wfLRoute a0)(h0:0≤a1)(h1:a1≤1048576):SzOk smLRoute a0 a1 (m16 a0 a1):=sz_slice (sm:=smRoute) (W:=wfRoute) (m:=m6) z6 a0 a1 hw h0 h1 (fun p=>rfl)
theorem t30 (a0:Prefix)(h:smPrefix a0):m30 a0=some a0:=by
 obtain ⟨h0,h1⟩:=h;simp only [m30,bnd_ok]
theorem t113 (a0:Range)(h:smRange a0):m113 a0=some a0:=by
 obtain ⟨h0,h1,h2⟩:=h;simp only [m113,bnd_ok,t30 _ h0]
theorem t81 (a0:(List Range))(h:smLRange a0):m81 a0=some a0:=to_slice (sm:=smRange) (m:=m113) t113 _ a0 ⟨h,fun _ _=>⟨⟨trivial,trivial⟩,trivial,trivial⟩⟩ (fun p=>rfl)
theorem t114 (a0:ReCell)(h:smReCell a0):m114 a0=some a0:=by
 obtain ⟨h0,h1⟩:=h;simp only [m114,bnd_ok]
theorem t82 (a0:(List ReCell))(h:smLReCell a0):m82 a0=some a0:=to_slice (sm:=smReCell) (m:=m114) t114 _ a0 ⟨h,fun _ _=>⟨trivial,trivial⟩⟩ (fun p=>rfl)
theorem t115 (a0:Acn)(h:smAcn a0):m115 a0=some a0:=by
 obtain ⟨h0,h1⟩:=h;simp only [m115,bnd_ok]
theorem t83 (a0:(List Acn))(h:smLAcn a0):m83 a0=some a0:=to_slice (sm:=smAcn) (m:=m115) t115 _ a0 ⟨h,fun _ _=>⟨trivial,trivial⟩⟩ (fun p=>rfl)
theorem t53 (a0:Term)(h:smTerm a0):m53 a0=some a0:=by
 obtain ⟨h0,h1,h2,h3,h4⟩:=h;simp only [m53,bnd_ok,t81 _ h0,t82 _ h1,t83 _ h3]
theorem t29 (a0:(List Term))(h:smLTerm a0):m29 a0=some a0:=to_slice (sm:=smTerm) (m:=m53) t53 _ a0 h (fun p=>rfl)
theorem t8 (a0:Policy)(h:smPolicy a0):m8 a0=some a0:=by
 obtain ⟨h0,h1⟩:=h;simp only [m8,bnd_ok,t29 _ h0]
theorem t54 (a0:(List Int))(h:smLInt a0):m54 a0=some a0:=to_flat _ a0 h (fun p=>rfl)
theorem t31 (a0:Attrs)(h:smAttrs a0):m31 a0=some a0:=by
 obtain ⟨h0,h1,h2,h3,h4,h5⟩:=h;simp only [m31,bnd_ok,t54 _ h1,t54 _ h5]
theorem t9 (a0:Route)(h:smRoute a0):m9 a0=some a0:=by
 obtain ⟨h0,h1⟩:=h;simp only [m9,bnd_ok,t30 _ h0,t31 _ h1]
theorem t18 (a0:(List Route))(h:smLRoute a0):m18 a0=some a0:=to_slice (sm:=smRoute) (m:=m9) t9 _ a0 h (fun p=>rfl)
theorem q35 (a0:Prefix)(h:smPrefix a0):m35 a0 a0=some true:=by
 obtain ⟨h0,h1⟩:=h;simp only [m35,bnd_ok,eqI_self,eqB_self,br_true]
theorem q63 (a0:(List Int))(h:smLInt a0):m63 a0 a0=some true:=eq_flat eqI eqI_self a0 (by unfold smLInt at h;omega) (fun s=>rfl)
theorem q36 (a0:Attrs)(h:smAttrs a0):m36 a0 a0=some true:=by
 obtain ⟨h0,h1,h2,h3,h4,h5⟩:=h;simp only [m36,bnd_ok,eqI_self,eqB_self,br_true,q63 _ h1,q63 _ h5]
theorem q11 (a0:Route)(h:smRoute a0):m11 a0 a0=some true:=by
 obtain ⟨h0,h1⟩:=h;simp only [m11,bnd_ok,eqI_self,eqB_self,br_true,q35 _ h0,q36 _ h1]
theorem q20 (a0:(List Route))(h:smLRoute a0):m20 a0 a0=some true:=eq_slice (W:=smRoute) m11 q11 a0 ⟨by have:=h.1;omega,h.2⟩ (fun s=>rfl)
theorem q136 (a0:Range)(h:smRange a0):m136 a0 a0=some true:=by
 obtain ⟨h0,h1,h2⟩:=h;simp only [m136,bnd_ok,eqI_self,eqB_self,br_true,q35 _ h0]
theorem q106 (a0:(List Range))(h:smLRange a0):m106 a0 a0=some true:=eq_slice (W:=smRange) m136 q136 a0 ⟨by unfold smLRange at h;omega,fun _ _=>⟨⟨trivial,trivial⟩,trivial,trivial⟩⟩ (fun s=>rfl)
theorem q137 (a0:ReCell)(h:smReCell a0):m137 a0 a0=some true:=by
 obtain ⟨h0,h1⟩:=h;simp only [m137,bnd_ok,eqI_self,eqB_self,br_true]
theorem q107 (a0:(List ReCell))(h:smLReCell a0):m107 a0 a0=some true:=eq_slice (W:=smReCell) m137 q137 a0 ⟨by unfold smLReCell at h;omega,fun _ _=>⟨trivial,trivial⟩⟩ (fun s=>rfl)
theorem q138 (a0:Acn)(h:smAcn a0):m138 a0 a0=some true:=by
 obtain ⟨h0,h1⟩:=h;simp only [m138,bnd_ok,eqI_self,eqB_self,br_true]
theorem q108 (a0:(List Acn))(h:smLAcn a0):m108 a0 a0=some true:=eq_slice (W:=smAcn) m138 q138 a0 ⟨by unfold smLAcn at h;omega,fun _ _=>⟨trivial,trivial⟩⟩ (fun s=>rfl)
theorem q64 (a0:Term)(h:smTerm a0):m64 a0 a0=some true:=by
 obtain ⟨h0,h1,h2,h3,h4⟩:=h;simp only [m64,bnd_ok,eqI_self,eqB_self,br_true,q106 _ h0,q107 _ h1,q108 _ h3]
theorem q37 (a0:(List Term))(h:smLTerm a0):m37 a0 a0=some true:=eq_slice (W:=smTerm) m64 q64 a0 ⟨by have:=h.1;omega,h.2⟩ (fun s=>rfl)
theorem q12 (a0:Policy)(h:smPolicy a0):m12 a0 a0=some true:=by
 obtain ⟨h0,h1⟩:=h;simp only [m12,bnd_ok,eqI_self,eqB_self,br_true,q37 _ h0]
theorem k65 (a0:(List Range))(a1:Int)(h:smLRange a0)(h0:0≤a1)(h1:a1≤2305843009213693952):∃ys:(List Range),m65 a0 a1=some (a1+(4:Nat)*a0.length,ys)∧ys.length=a0.length:=by
 obtain ⟨ys,e,hy⟩:=mark_any (body:=m65_1b) 4 (fun p=>rfl) (fun v h0 h1=>by rw [wadd64 (a:=v) (b:=1) (by omega) (by omega),wadd64 (a:=v+1) (b:=1) (by omega) (by omega),wadd64 (a:=v+1+1) (b:=1) (by omega) (by omega),wadd64 (a:=v+1+1+1) (b:=1) (by omega) (by omega)];omega) (fun _ _ _ _=>by simp) (by omega) a0 a1 h h0 h1
 exact ⟨ys,by unfold m65;rw [e];rfl,hy⟩
theorem k66 (a0:(List ReCell))(a1:Int)(h:smLReCell a0)(h0:0≤a1)(h1:a1≤2305843009213693952):∃ys:(List ReCell),m66 a0 a1=some (a1+(2:Nat)*a0.length,ys)∧ys.length=a0.length:=by
 obtain ⟨ys,e,hy⟩:=mark_any (body:=m66_1b) 2 (fun p=>rfl) (fun v h0 h1=>by rw [wadd64 (a:=v) (b:=1) (by omega) (by omega),wadd64 (a:=v+1) (b:=1) (by omega) (by omega)];omega) (fun _ _ _ _=>by simp) (by omega) a0 a1 h h0 h1
 exact ⟨ys,by unfold m66;rw [e];rfl,hy⟩
theorem k67 (a0:(List Acn))(a1:Int)(h:smLAcn a0)(h0:0≤a1)(h1:a1≤2305843009213693952):∃ys:(List Acn),m67 a0 a1=some (a1+(2:Nat)*a0.length,ys)∧ys.length=a0.length:=by
 obtain ⟨ys,e,hy⟩:=mark_any (body:=m67_1b) 2 (fun p=>rfl) (fun v h0 h1=>by rw [wadd64 (a:=v) (b:=1) (by omega) (by omega),wadd64 (a:=v+1) (b:=1) (by omega) (by omega)];omega) (fun _ _ _ _=>by simp) (by omega) a0 a1 h h0 h1
 exact ⟨ys,by unfold m67;rw [e];rfl,hy⟩
theorem k43 (a0:List Int)(a1:Int)(h:smLInt a0)(h0:0≤a1)(h1:a1≤4611686018427387904):m43 a0 a1=some (a1+a0.length,ramp a1 a0.length):=by
 unfold m43
 rw [mark_flat (body:=m43_1b) (fun p=>rfl) a0 a1 h h0 h1];rfl
theorem d44 (n:Nat)(a1:Int)(h:n≤1048576)(h0:0≤a1)(h1:a1≤4611686018427387904):m44 (ramp a1 n) a1=some (a1+n):=by
 unfold m44
 rw [held_flat (body:=m44_1b (ramp a1 n)) n a1 (fun p=>rfl) h h0 h1];rfl
end Go.Pi.YthidbgihjhkjaaaGreat.FilterRoutes
