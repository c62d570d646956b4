/- no condition -/
import Derived.Test.YtlcanbihlfncoaaRankOffersModRankOffers
import Derived.Test.YtlcanbihlfncoaaPiD
set_option linter.all false
namespace Go.Pi.Ytlcanbihlfncoaa.RankOffers
open Go Go.Pi
set_option linter.all false
def smInt (x:Int):Prop:=True
def smLInt (x:(List Int)):Prop:=x.length≤1048576
def smAttrs (x:Attrs):Prop:=smInt x.origin∧smLInt x.path∧smInt x.next∧smInt x.med∧smInt x.pref∧smLInt x.comms
def smOffer (x:Offer):Prop:=smInt x.peer∧smAttrs x.attrs
def smLOffer (x:(List Offer)):Prop:=x.length≤1048576∧∀y∈x,smOffer y
def smBool (x:Bool):Prop:=True
theorem z78 (a0:(List Int))(a1:Int)(hw:wfLInt a0)(h0:0≤a1)(h1:a1≤1048576):SzOk smLInt a0 a1 (m78 a0 a1):=sz_flat a0 a1 hw.1 h0 h1
theorem z51 (a0:Attrs)(a1:Int)(hw:wfAttrs a0)(h0:0≤a1)(h1:a1≤1048576):SzOk smAttrs a0 a1 (m51 a0 a1):=by
 obtain ⟨w0,w1,w2,w3,w4,w5⟩:=hw;unfold m51;have b1:=h1
 obtain ⟨v1,e1,l1,u1,s1⟩:=z78 a0.path a1 w1 (by omega) (by omega)
 rw [e1,bnd_ok]
 by_cases c1:v1<0
 · rw [(ltI_iff _ _).2 c1];exact ⟨-1,rfl,by omega,by omega,by omega⟩
 rw [(ltI_not _ _).2 (by omega),br_false]
 obtain ⟨v5,e5,l5,u5,s5⟩:=z78 a0.comms v1 w5 (by omega) (by omega)
 rw [e5,bnd_ok]
 by_cases c5:v5<0
 · rw [(ltI_iff _ _).2 c5];exact ⟨-1,rfl,by omega,by omega,by omega⟩
 rw [(ltI_not _ _).2 (by omega),br_false]
 exact ⟨_,rfl,by omega,by omega,fun _=>⟨trivial,s1 (by omega),trivial,trivial,trivial,s5 (by omega)⟩⟩
theorem z17 (a0:Offer)(a1:Int)(hw:wfOffer a0)(h0:0≤a1)(h1:a1≤1048576):SzOk smOffer a0 a1 (m17 a0 a1):=by
 obtain ⟨w0,w1⟩:=hw;unfold m17;have b1:=h1
 obtain ⟨v1,e1,l1,u1,s1⟩:=z51 a0.attrs a1 w1 (by omega) (by omega)
 rw [e1,bnd_ok]
 by_cases c1:v1<0
 · rw [(ltI_iff _ _).2 c1];exact ⟨-1,rfl,by omega,by omega,by omega⟩
 rw [(ltI_not _ _).2 (by omega),br_false]
 exact ⟨_,rfl,by omega,by omega,fun _=>⟨trivial,s1 (by omega)⟩⟩
theorem z12 (a0:(List Offer))(a1:Int)(hw:wfLOffer a0)(h0:0≤a1)(h1:a1≤1048576):SzOk smLOffer a0 a1 (m12 a0 a1):=sz_slice (sm:=smOffer) (W:=wfOffer) (m:=m17) z17 a0 a1 hw h0 h1 (fun p=>rfl)
theorem t80 (a0:(List Int))(h:smLInt a0):m80 a0=some a0:=to_flat _ a0 h (fun p=>rfl)
theorem t53 (a0:Attrs)(h:smAttrs a0):m53 a0=some a0:=by
 obtain ⟨h0,h1,h2,h3,h4,h5⟩:=h;simp only [m53,bnd_ok,t80 _ h1,t80 _ h5]
theorem t19 (a0:Offer)(h:smOffer a0):m19 a0=some a0:=by
 obtain ⟨h0,h1⟩:=h;simp only [m19,bnd_ok,t53 _ h1]
theorem t14 (a0:(List Offer))(h:smLOffer a0):m14 a0=some a0:=to_slice (sm:=smOffer) (m:=m19) t19 _ a0 h (fun p=>rfl)
theorem q33 (a0:(List Int))(h:smLInt a0):m33 a0 a0=some true:=eq_flat eqI eqI_self a0 (by unfold smLInt at h;omega) (fun s=>rfl)
theorem q55 (a0:Attrs)(h:smAttrs a0):m55 a0 a0=some true:=by
 obtain ⟨h0,h1,h2,h3,h4,h5⟩:=h;simp only [m55,bnd_ok,eqI_self,eqB_self,br_true,q33 _ h1,q33 _ h5]
theorem q21 (a0:Offer)(h:smOffer a0):m21 a0 a0=some true:=by
 obtain ⟨h0,h1⟩:=h;simp only [m21,bnd_ok,eqI_self,eqB_self,br_true,q55 _ h1]
theorem q16 (a0:(List Offer))(h:smLOffer a0):m16 a0 a0=some true:=eq_slice (W:=smOffer) m21 q21 a0 ⟨by have:=h.1;omega,h.2⟩ (fun s=>rfl)
theorem k34 (a0:List Int)(a1:Int)(h:smLInt a0)(h0:0≤a1)(h1:a1≤4611686018427387904):m34 a0 a1=some (a1+a0.length,ramp a1 a0.length):=by
 unfold m34
 rw [mark_flat (body:=m34_1b) (fun p=>rfl) a0 a1 h h0 h1];rfl
theorem d35 (n:Nat)(a1:Int)(h:n≤1048576)(h0:0≤a1)(h1:a1≤4611686018427387904):m35 (ramp a1 n) a1=some (a1+n):=by
 unfold m35
 rw [held_flat (body:=m35_1b (ramp a1 n)) n a1 (fun p=>rfl) h h0 h1];rfl
end Go.Pi.Ytlcanbihlfncoaa.RankOffers
