/- no condition -/
import Derived.Test.YtichbkallidkcaaSppOfModSppOf
import Derived.Test.YtichbkallidkcaaPiD
set_option linter.all false
namespace Go.Pi.Ytichbkallidkcaa.SppOf
open Go Go.Pi
set_option linter.all false
def smInt (x:Int):Prop:=True
def smRel (x:Rel):Prop:=smInt x.a∧smInt x.b∧smInt x.kind
def smLRel (x:(List Rel)):Prop:=x.length≤1048576
def smBool (x:Bool):Prop:=True
def smLInt (x:(List Int)):Prop:=x.length≤1048576
def smLLInt (x:(List (List Int))):Prop:=x.length≤1048576∧∀y∈x,smLInt y
def smLLLInt (x:(List (List (List Int)))):Prop:=x.length≤1048576∧∀y∈x,smLLInt y
def smSpp (x:Spp):Prop:=smLLLInt x.ranked
theorem z11 (a0:(List Rel))(a1:Int)(hw:wfLRel a0)(h0:0≤a1)(h1:a1≤1048576):SzOk smLRel a0 a1 (m11 a0 a1):=sz_flat a0 a1 hw.1 h0 h1
theorem t40 (a0:Rel)(h:smRel a0):m40 a0=some a0:=by
 obtain ⟨h0,h1,h2⟩:=h;simp only [m40,bnd_ok]
theorem t13 (a0:(List Rel))(h:smLRel a0):m13 a0=some a0:=to_slice (sm:=smRel) (m:=m40) t40 _ a0 ⟨h,fun _ _=>⟨trivial,trivial,trivial⟩⟩ (fun p=>rfl)
theorem q25 (a0:(List Int))(h:smLInt a0):m25 a0 a0=some true:=eq_flat eqI eqI_self a0 (by unfold smLInt at h;omega) (fun s=>rfl)
theorem q86 (a0:(List (List Int)))(h:smLLInt a0):m86 a0 a0=some true:=eq_slice (W:=smLInt) m25 q25 a0 ⟨by have:=h.1;omega,h.2⟩ (fun s=>rfl)
theorem q65 (a0:(List (List (List Int))))(h:smLLLInt a0):m65 a0 a0=some true:=eq_slice (W:=smLLInt) m86 q86 a0 ⟨by have:=h.1;omega,h.2⟩ (fun s=>rfl)
theorem q31 (a0:Spp)(h:smSpp a0):m31 a0 a0=some true:=by
 have h0:=h;simp only [m31,bnd_ok,eqI_self,eqB_self,br_true,q65 _ h0]
theorem q44 (a0:Rel)(h:smRel a0):m44 a0 a0=some true:=by
 obtain ⟨h0,h1,h2⟩:=h;simp only [m44,bnd_ok,eqI_self,eqB_self,br_true]
theorem q15 (a0:(List Rel))(h:smLRel a0):m15 a0 a0=some true:=eq_slice (W:=smRel) m44 q44 a0 ⟨by unfold smLRel at h;omega,fun _ _=>⟨trivial,trivial,trivial⟩⟩ (fun s=>rfl)
theorem k32 (a0:(List Rel))(a1:Int)(h:smLRel a0)(h0:0≤a1)(h1:a1≤2305843009213693952):∃ys:(List Rel),m32 a0 a1=some (a1+(3:Nat)*a0.length,ys)∧ys.length=a0.length:=by
 obtain ⟨ys,e,hy⟩:=mark_any (body:=m32_1b) 3 (fun p=>rfl) (fun v h0 h1=>by rw [wadd64 (a:=v) (b:=1) (by omega) (by omega),wadd64 (a:=v+1) (b:=1) (by omega) (by omega),wadd64 (a:=v+1+1) (b:=1) (by omega) (by omega)];omega) (fun _ _ _ _=>by simp) (by omega) a0 a1 h h0 h1
 exact ⟨ys,by unfold m32;rw [e];rfl,hy⟩
theorem k37 (a0:List Int)(a1:Int)(h:smLInt a0)(h0:0≤a1)(h1:a1≤4611686018427387904):m37 a0 a1=some (a1+a0.length,ramp a1 a0.length):=by
 unfold m37
 rw [mark_flat (body:=m37_1b) (fun p=>rfl) a0 a1 h h0 h1];rfl
theorem d38 (n:Nat)(a1:Int)(h:n≤1048576)(h0:0≤a1)(h1:a1≤4611686018427387904):m38 (ramp a1 n) a1=some (a1+n):=by
 unfold m38
 rw [held_flat (body:=m38_1b (ramp a1 n)) n a1 (fun p=>rfl) h h0 h1];rfl
theorem k87 (a0:List (List Int))(a1:Int)(h:smLLInt a0)(h0:0≤a1)(h1:a1≤2305843009213693952):∃k ys,m87 a0 a1=some (k,ys)∧ys.length=a0.length∧a1≤k∧k≤a1+1099511627776∧m88 ys a1=some k:=by
 have hl:=h.1
 obtain ⟨k,ys,e1,e2,e3,e4,e5⟩:=mark_nest (mk:=m37) (hd:=m38) (sm:=smLInt) (W:=1048576) (B:=4611686018427387904) (by omega)
  (fun x k hx h0 h1=>⟨k+x.length,ramp k x.length,k37 x k hx h0 (by omega),ramp_length _ _,by omega,by unfold smLInt at hx;omega,d38 x.length k hx h0 (by omega)⟩) (body:=m87_1b) (fun p=>rfl) (hbody:=m88_1b) (fun l p=>rfl) a0 a1 hl h.2 h0 (by omega)
 exact ⟨k,ys,by unfold m87;rw [e1,bnd_ok,sel2_ok],e2,e3,by omega,by unfold m88;rw [e5,bnd_ok,selS_inl]⟩
theorem k66 (a0:List (List (List Int)))(a1:Int)(h:smLLLInt a0)(h0:0≤a1)(h1:a1≤1152921504606846976):∃k ys,m66 a0 a1=some (k,ys)∧ys.length=a0.length∧a1≤k∧k≤a1+1152921504606846976∧m67 ys a1=some k:=by
 have hl:=h.1
 obtain ⟨k,ys,e1,e2,e3,e4,e5⟩:=mark_nest (mk:=m87) (hd:=m88) (sm:=smLLInt) (W:=1099511627776) (B:=2305843009213693952) (by omega)
  (fun x k hx h0 h1=>k87 x k hx h0 (by omega)) (body:=m66_1b) (fun p=>rfl) (hbody:=m67_1b) (fun l p=>rfl) a0 a1 hl h.2 h0 (by omega)
 exact ⟨k,ys,by unfold m66;rw [e1,bnd_ok,sel2_ok],e2,e3,by omega,by unfold m67;rw [e5,bnd_ok,selS_inl]⟩
end Go.Pi.Ytichbkallidkcaa.SppOf
