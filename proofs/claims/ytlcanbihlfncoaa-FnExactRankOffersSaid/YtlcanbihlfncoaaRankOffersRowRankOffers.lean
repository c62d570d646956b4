/- no condition -/
import Derived.Test.YtlcanbihlfncoaaRows
import Derived.Test.YtlcanbihlfncoaaRankOffersFunRankOffers
import Derived.Test.YtlcanbihlfncoaaRankOffersLawRankOffers
import Derived.Test.YtlcanbihlfncoaaPiD
import Derived.WalkKit
import Derived.OpenShut
import Derived.ShutString
import Derived.ChangeOld
import Derived.Below
import Derived.SizedLaws
set_option linter.all false
namespace Go.Proofs.Ytlcanbihlfncoaa
open Go Go.Proofs Go.Pi Go.ChangeShapes Go.WideShapes Go.ChangeAt Go.RowKit Go.Pi.Ytlcanbihlfncoaa.RankOffers
set_option maxRecDepth 100000
set_option linter.all false
theorem wfi_i64 {n:Int}(h:(Lit.int .i64 n).wf=true):-9223372036854775808≤n∧n≤9223372036854775807:=by simp [Lit.wf,IntKind.min,IntKind.max,IntKind.bits,IntKind.signed] at h;omega
section
variable {H:Type} {enc:TypeId×Value→H} {w:World} {base:Nat} {spare:Nat→Bool} {held:Bool}
theorem op3:Opens enc Try.prog w base spare held 3 (fun x:Int=>wfInt x) nInt:=(opens_int Try.underlying3).map id (fun a h=>⟨wfi_i64 h,rfl⟩)
theorem op29:Opens enc Try.prog w base spare held 29 (fun x:(List Int)=>wfLInt x) (nLIn .imm):=(opens_slice (e:=3) Try.underlying29 (of_decide_eq_true (by kernel_rfl)) op3).map id (fun a ga=>⟨⟨ga.2,ga.1⟩,by rw [(by kernel_rfl:Try.prog.cellsOf 3=1)];rfl⟩)
theorem op31:Opens enc Try.prog w base spare held 31 (fun x:Attrs=>wfAttrs x) (nAtt .imm):=(opens_struct Try.underlying31 (by kernel_rfl) (seg_cons op3 (seg_cons op29 (seg_cons op3 (seg_cons op3 (seg_cons op3 (seg_cons op29 (seg_nil)))))))).map (fun p=>(⟨p.1,p.2.1,p.2.2.1,p.2.2.2.1,p.2.2.2.2.1,p.2.2.2.2.2.1⟩:Attrs)) (fun p hp=>⟨by obtain ⟨h0,h1,h2,h3,h4,h5,_⟩:=hp;exact ⟨h0,h1,h2,h3,h4,h5⟩,rfl⟩)
theorem op33:Opens enc Try.prog w base spare held 33 (fun x:Offer=>wfOffer x) (nOff .imm):=(opens_struct Try.underlying33 (by kernel_rfl) (seg_cons op3 (seg_cons op31 (seg_nil)))).map (fun p=>(⟨p.1,p.2.1⟩:Offer)) (fun p hp=>⟨by obtain ⟨h0,h1,_⟩:=hp;exact ⟨h0,h1⟩,rfl⟩)
theorem op22:Opens enc Try.prog w base spare held 22 (fun x:(List Offer)=>wfLOffer x) (nLOf .imm):=(opens_slice (e:=33) Try.underlying22 (of_decide_eq_true (by kernel_rfl)) op33).map id (fun a ga=>⟨⟨ga.2,ga.1⟩,by rw [(by kernel_rfl:Try.prog.cellsOf 33=7)];rfl⟩)
end
theorem own:ownKnob Try.prog.godebug=none:=by kernel_rfl
theorem laid:laidOutB Try.prog=true:=by kernel_rfl
set_option maxRecDepth 100000 in
theorem lifted8 (os:Os)(started:os.Started)(H:Type)(enc:TypeId×Value→H):ReturnsInHanded {} Try.checked os 8 .any (Rows.fnExactRankOffersSpec.pre6 enc Try.prog Try.f8 Rows.fnExactRankOffersRow.domain false) (Rows.fnExactRankOffersSpec.post enc Try.prog Try.f8 false true false false):=by
 refine returnsInHanded_of_change_sized (C:=Try.checked) own started (by kernel_rfl) Try.func8 (ChangeSpec.witness6 (enc:=enc) (C:=Try.checked) false ⟨#[],#[.slice none 0 0],[]⟩ 8 (by kernel_rfl) (by kernel_rfl) (by kernel_rfl) (by kernel_rfl)) ?_
 intro W base args ds gs before hval0 hW hcnd hsz0 _;have hval:∀(j:Nat) t v,Try.f8.params[j]?=some t→args[j]?=some v→Value.okWide Try.prog W .any base t v:=hval0;have hW1:=hW;obtain ⟨p,q,hA0,hV,rfl,hfz,hnd⟩:=hW
 have hA:DataW.TrodAll enc Try.prog W 0 (fun _=>true) true Try.f8.params.toList args.toList ds p:=hA0
 rw [Try.params8] at hA hval;obtain ⟨v0,vs0,d0,ds0,p0,q0,hargs,rfl,rfl,h0,r0⟩:=trodAll_cons hA;obtain ⟨rfl,rfl,rfl⟩:=trodAll_nil r0
 obtain rfl:args=#[v0]:=by cases args;simp_all
 obtain ⟨rfl,rfl⟩:=trodVars_none hV;obtain ⟨b0,b10,b20,rfl⟩:=okWide_slice Try.underlying22 (hval 0 22 v0 rfl rfl)
 obtain ⟨a0,c0,g0,ec0,k0⟩:=arg_cell1 op22 h0 rfl (fun a=>⟨_,rfl,rfl⟩)
 obtain rfl:_=c0:=(List.cons.inj ec0).1
 have hl:∀x∈p0,x.block<W.heap.size:=fun x hx=>hW1.lt x (by simpa using hx)
 refine (row_calls tab (us:=[_]) (e8 a0 true (law a0 g0)) rfl (fun i hi=>?_)).mono fun e W1 ⟨he,bel⟩=>?_
 · match i,hi with
   | 0,_=>exact k0
   | n+1,h=>exact absurd h (by simp)
 subst he
 exact ⟨_,rfl,_,_,_,[],_,[],hW1,trodAll_mk1 (shut_bool Try.underlying4 _),(trodAll_cons_mk (Below.trod laid (by kernel_rfl) (of_decide_eq_true (by kernel_rfl)) h0 bel (fun x hx=>hl x (by simp [hx]))) trodAll_mk0),rfl,bel.frame _,fun h=>by cases h⟩
theorem over8:Rows.fnExactRankOffersRow.holds Try.pinned (OpenSpec.ofChange Rows.fnExactRankOffersSpec) :=
 OpenClaim.holds_of_wide 8 Try.f8 rfl rfl rfl rfl rfl rfl rfl ⟨rfl,rfl,rfl,rfl,rfl⟩ rfl rfl rfl rfl rfl (by kernel_rfl) Try.func8 (by kernel_rfl)
  (of_decide_eq_true (by kernel_rfl)) (by unfold Func.isWrapper;first | (rw [if_pos (by decide +kernel)];kernel_rfl) | (rw [if_neg (by decide +kernel)];exact ⟨rfl,rfl⟩))
  (fun os started H enc _=>lifted8 os started H enc)
theorem fnExactRankOffers_holds:Rows.FnExactRankOffersSaid:=over8
#print axioms fnExactRankOffers_holds
end Go.Proofs.Ytlcanbihlfncoaa
