/- no condition -/
import Derived.Test.YtichbkallidkcaaRows
import Derived.Test.YtichbkallidkcaaSppOfFunSppOf
import Derived.Test.YtichbkallidkcaaSppOfLawSppOf
import Derived.Test.YtichbkallidkcaaPiD
import Derived.WalkKit
import Derived.OpenShut
import Derived.ShutString
import Derived.ChangeOld
import Derived.Below
import Derived.SizedLaws
set_option linter.all false
namespace Go.Proofs.Ytichbkallidkcaa
open Go Go.Proofs Go.Pi Go.ChangeShapes Go.WideShapes Go.ChangeAt Go.RowKit Go.Pi.Ytichbkallidkcaa.SppOf
set_option maxRecDepth 100000
set_option linter.all false
theorem wfi_i64 {n:Int}(h:(Lit.int .i64 n).wf=true):-9223372036854775808≤n∧n≤9223372036854775807:=by simp [Lit.wf,IntKind.min,IntKind.max,IntKind.bits,IntKind.signed] at h;omega
section
variable {H:Type} {enc:TypeId×Value→H} {w:World} {base:Nat} {spare:Nat→Bool} {held:Bool}
theorem op3:Opens enc Try.prog w base spare held 3 (fun x:Int=>wfInt x) nInt:=(opens_int Try.underlying3).map id (fun a h=>⟨wfi_i64 h,rfl⟩)
theorem op65:Opens enc Try.prog w base spare held 65 (fun x:Rel=>wfRel x) nRel:=(opens_struct Try.underlying65 (by kernel_rfl) (seg_cons op3 (seg_cons op3 (seg_cons op3 (seg_nil))))).map (fun p=>(⟨p.1,p.2.1,p.2.2.1⟩:Rel)) (fun p hp=>⟨by obtain ⟨h0,h1,h2,_⟩:=hp;exact ⟨h0,h1,h2⟩,rfl⟩)
theorem op22:Opens enc Try.prog w base spare held 22 (fun x:(List Rel)=>wfLRel x) (nLRe .imm):=(opens_slice (e:=65) Try.underlying22 (of_decide_eq_true (by kernel_rfl)) op65).map id (fun a ga=>⟨⟨ga.2,ga.1⟩,by rw [(by kernel_rfl:Try.prog.cellsOf 65=3)];rfl⟩)
end
theorem own:ownKnob Try.prog.godebug=none:=by kernel_rfl
theorem laid:laidOutB Try.prog=true:=by kernel_rfl
set_option maxRecDepth 100000 in
theorem lifted9 (os:Os)(started:os.Started)(H:Type)(enc:TypeId×Value→H):ReturnsInHanded {} Try.checked os 9 .any (Rows.fnExactSppOfSpec.pre6 enc Try.prog Try.f9 Rows.fnExactSppOfRow.domain false) (Rows.fnExactSppOfSpec.post enc Try.prog Try.f9 false true false false):=by
 refine returnsInHanded_of_change_sized (C:=Try.checked) own started (by kernel_rfl) Try.func9 (ChangeSpec.witness6 (enc:=enc) (C:=Try.checked) false ⟨#[],#[.int .i64 0,.slice none 0 0],[]⟩ 8 (by kernel_rfl) (by kernel_rfl) (by kernel_rfl) (by kernel_rfl)) ?_
 intro W base args ds gs before hval0 hW hcnd hsz0 _;have hval:∀(j:Nat) t v,Try.f9.params[j]?=some t→args[j]?=some v→Value.okWide Try.prog W .any base t v:=hval0;have hW1:=hW;obtain ⟨p,q,hA0,hV,rfl,hfz,hnd⟩:=hW
 have hA:DataW.TrodAll enc Try.prog W 0 (fun _=>true) true Try.f9.params.toList args.toList ds p:=hA0
 rw [Try.params9] at hA hval;obtain ⟨v0,vs0,d0,ds0,p0,q0,hargs,rfl,rfl,h0,r0⟩:=trodAll_cons hA;obtain ⟨v1,vs1,d1,ds1,p1,q1,rfl,rfl,rfl,h1,r1⟩:=trodAll_cons r0;obtain ⟨rfl,rfl,rfl⟩:=trodAll_nil r1
 obtain rfl:args=#[v0,v1]:=by cases args;simp_all
 obtain ⟨rfl,rfl⟩:=trodVars_none hV;obtain ⟨b0,rfl⟩:=okWide_int Try.underlying3 (hval 0 3 v0 rfl rfl)
 obtain ⟨a0,c0,g0,ec0,k0⟩:=arg_cell1 op3 h0 rfl (fun a=>⟨_,rfl,rfl⟩)
 obtain rfl:_=c0:=(List.cons.inj ec0).1;obtain ⟨b1,b11,b21,rfl⟩:=okWide_slice Try.underlying22 (hval 1 22 v1 rfl rfl)
 obtain ⟨a1,c1,g1,ec1,k1⟩:=arg_cell1 op22 h1 rfl (fun a=>⟨_,rfl,rfl⟩)
 obtain rfl:_=c1:=(List.cons.inj ec1).1
 have hl:∀x∈p0++p1,x.block<W.heap.size:=fun x hx=>hW1.lt x (by simpa using hx)
 refine (row_calls tab (us:=[_,_]) (e9 a0 a1 true (law a0 a1 g0 g1)) rfl (fun i hi=>?_)).mono fun e W1 ⟨he,bel⟩=>?_
 · match i,hi with
   | 0,_=>exact k0
   | 1,_=>exact k1
   | n+2,h=>exact absurd h (by simp)
 subst he
 exact ⟨_,rfl,_,_,_,[],_,[],hW1,trodAll_mk1 (shut_bool Try.underlying4 _),(trodAll_cons_mk (Below.trod laid (by kernel_rfl) (of_decide_eq_true (by kernel_rfl)) h0 bel (fun x hx=>hl x (by simp [hx]))) (trodAll_cons_mk (Below.trod laid (by kernel_rfl) (of_decide_eq_true (by kernel_rfl)) h1 bel (fun x hx=>hl x (by simp [hx]))) trodAll_mk0)),rfl,bel.frame _,fun h=>by cases h⟩
theorem over9:Rows.fnExactSppOfRow.holds Try.pinned (OpenSpec.ofChange Rows.fnExactSppOfSpec) :=
 OpenClaim.holds_of_wide 9 Try.f9 rfl rfl rfl rfl rfl rfl rfl ⟨rfl,rfl,rfl,rfl,rfl⟩ rfl rfl rfl rfl rfl (by kernel_rfl) Try.func9 (by kernel_rfl)
  (of_decide_eq_true (by kernel_rfl)) (by unfold Func.isWrapper;first | (rw [if_pos (by decide +kernel)];kernel_rfl) | (rw [if_neg (by decide +kernel)];exact ⟨rfl,rfl⟩))
  (fun os started H enc _=>lifted9 os started H enc)
theorem fnExactSppOf_holds:Rows.FnExactSppOfSaid:=over9
#print axioms fnExactSppOf_holds
end Go.Proofs.Ytichbkallidkcaa
