/- no condition -/
import Derived.Test.YthidbgihjhkjaaaGreatRows
import Derived.Test.YthidbgihjhkjaaaGreatFilterRoutesFunFilterRoutes
import Derived.Test.YthidbgihjhkjaaaGreatFilterRoutesLawFilterRoutes
import Derived.Test.YthidbgihjhkjaaaGreatPiD
import Derived.WalkKit
import Derived.OpenShut
import Derived.ShutString
import Derived.ChangeOld
import Derived.Below
import Derived.SizedLaws
set_option linter.all false
namespace Go.Proofs.YthidbgihjhkjaaaGreat
open Go Go.Proofs Go.Pi Go.ChangeShapes Go.WideShapes Go.ChangeAt Go.RowKit Go.Pi.YthidbgihjhkjaaaGreat.FilterRoutes
set_option maxRecDepth 100000
set_option linter.all false
theorem wfi_i64 {n:Int}(h:(Lit.int .i64 n).wf=true):-9223372036854775808≤n∧n≤9223372036854775807:=by simp [Lit.wf,IntKind.min,IntKind.max,IntKind.bits,IntKind.signed] at h;omega
section
variable {H:Type} {enc:TypeId×Value→H} {w:World} {base:Nat} {spare:Nat→Bool} {held:Bool}
theorem op3:Opens enc Tryz.prog w base spare held 3 (fun x:Int=>wfInt x) nInt:=(opens_int Tryz.underlying3).map id (fun a h=>⟨wfi_i64 h,rfl⟩)
theorem op26:Opens enc Tryz.prog w base spare held 26 (fun x:Prefix=>wfPrefix x) nPre:=(opens_struct Tryz.underlying26 (by kernel_rfl) (seg_cons op3 (seg_cons op3 (seg_nil)))).map (fun p=>(⟨p.1,p.2.1⟩:Prefix)) (fun p hp=>⟨by obtain ⟨h0,h1,_⟩:=hp;exact ⟨h0,h1⟩,rfl⟩)
theorem op148:Opens enc Tryz.prog w base spare held 148 (fun x:Range=>wfRange x) nRan:=(opens_struct Tryz.underlying148 (by kernel_rfl) (seg_cons op26 (seg_cons op3 (seg_cons op3 (seg_nil))))).map (fun p=>(⟨p.1,p.2.1,p.2.2.1⟩:Range)) (fun p hp=>⟨by obtain ⟨h0,h1,h2,_⟩:=hp;exact ⟨h0,h1,h2⟩,rfl⟩)
theorem op77:Opens enc Tryz.prog w base spare held 77 (fun x:(List Range)=>wfLRange x) (nLRa .imm):=(opens_slice (e:=148) Tryz.underlying77 (of_decide_eq_true (by kernel_rfl)) op148).map id (fun a ga=>⟨⟨ga.2,ga.1⟩,by rw [(by kernel_rfl:Tryz.prog.cellsOf 148=4)];rfl⟩)
theorem op150:Opens enc Tryz.prog w base spare held 150 (fun x:ReCell=>wfReCell x) nReC:=(opens_struct Tryz.underlying150 (by kernel_rfl) (seg_cons op3 (seg_cons op3 (seg_nil)))).map (fun p=>(⟨p.1,p.2.1⟩:ReCell)) (fun p hp=>⟨by obtain ⟨h0,h1,_⟩:=hp;exact ⟨h0,h1⟩,rfl⟩)
theorem op78:Opens enc Tryz.prog w base spare held 78 (fun x:(List ReCell)=>wfLReCell x) (nLRe .imm):=(opens_slice (e:=150) Tryz.underlying78 (of_decide_eq_true (by kernel_rfl)) op150).map id (fun a ga=>⟨⟨ga.2,ga.1⟩,by rw [(by kernel_rfl:Tryz.prog.cellsOf 150=2)];rfl⟩)
theorem op152:Opens enc Tryz.prog w base spare held 152 (fun x:Acn=>wfAcn x) nAcn:=(opens_struct Tryz.underlying152 (by kernel_rfl) (seg_cons op3 (seg_cons op3 (seg_nil)))).map (fun p=>(⟨p.1,p.2.1⟩:Acn)) (fun p hp=>⟨by obtain ⟨h0,h1,_⟩:=hp;exact ⟨h0,h1⟩,rfl⟩)
theorem op79:Opens enc Tryz.prog w base spare held 79 (fun x:(List Acn)=>wfLAcn x) (nLAc .imm):=(opens_slice (e:=152) Tryz.underlying79 (of_decide_eq_true (by kernel_rfl)) op152).map id (fun a ga=>⟨⟨ga.2,ga.1⟩,by rw [(by kernel_rfl:Tryz.prog.cellsOf 152=2)];rfl⟩)
theorem op81:Opens enc Tryz.prog w base spare held 81 (fun x:Term=>wfTerm x) (nTer .imm):=(opens_struct Tryz.underlying81 (by kernel_rfl) (seg_cons op77 (seg_cons op78 (seg_cons op3 (seg_cons op79 (seg_cons op3 (seg_nil))))))).map (fun p=>(⟨p.1,p.2.1,p.2.2.1,p.2.2.2.1,p.2.2.2.2.1⟩:Term)) (fun p hp=>⟨by obtain ⟨h0,h1,h2,h3,h4,_⟩:=hp;exact ⟨h0,h1,h2,h3,h4⟩,rfl⟩)
theorem op22:Opens enc Tryz.prog w base spare held 22 (fun x:(List Term)=>wfLTerm x) (nLTe .imm):=(opens_slice (e:=81) Tryz.underlying22 (of_decide_eq_true (by kernel_rfl)) op81).map id (fun a ga=>⟨⟨ga.2,ga.1⟩,by rw [(by kernel_rfl:Tryz.prog.cellsOf 81=5)];rfl⟩)
theorem op4:Opens enc Tryz.prog w base spare held 4 (fun x:Bool=>wfBool x) nBoo:=(opens_bool Tryz.underlying4).map id (fun a _=>⟨trivial,rfl⟩)
theorem op24:Opens enc Tryz.prog w base spare held 24 (fun x:Policy=>wfPolicy x) (nPol .imm):=(opens_struct Tryz.underlying24 (by kernel_rfl) (seg_cons op22 (seg_cons op4 (seg_nil)))).map (fun p=>(⟨p.1,p.2.1⟩:Policy)) (fun p hp=>⟨by obtain ⟨h0,h1,_⟩:=hp;exact ⟨h0,h1⟩,rfl⟩)
theorem op27:Opens enc Tryz.prog w base spare held 27 (fun x:(List Int)=>wfLInt x) (nLIn .imm):=(opens_slice (e:=3) Tryz.underlying27 (of_decide_eq_true (by kernel_rfl)) op3).map id (fun a ga=>⟨⟨ga.2,ga.1⟩,by rw [(by kernel_rfl:Tryz.prog.cellsOf 3=1)];rfl⟩)
theorem op29:Opens enc Tryz.prog w base spare held 29 (fun x:Attrs=>wfAttrs x) (nAtt .imm):=(opens_struct Tryz.underlying29 (by kernel_rfl) (seg_cons op3 (seg_cons op27 (seg_cons op3 (seg_cons op3 (seg_cons op3 (seg_cons op27 (seg_nil)))))))).map (fun p=>(⟨p.1,p.2.1,p.2.2.1,p.2.2.2.1,p.2.2.2.2.1,p.2.2.2.2.2.1⟩:Attrs)) (fun p hp=>⟨by obtain ⟨h0,h1,h2,h3,h4,h5,_⟩:=hp;exact ⟨h0,h1,h2,h3,h4,h5⟩,rfl⟩)
theorem op31:Opens enc Tryz.prog w base spare held 31 (fun x:Route=>wfRoute x) (nRou .imm):=(opens_struct Tryz.underlying31 (by kernel_rfl) (seg_cons op26 (seg_cons op29 (seg_nil)))).map (fun p=>(⟨p.1,p.2.1⟩:Route)) (fun p hp=>⟨by obtain ⟨h0,h1,_⟩:=hp;exact ⟨h0,h1⟩,rfl⟩)
theorem op50:Opens enc Tryz.prog w base spare held 50 (fun x:(List Route)=>wfLRoute x) (nLRo .imm):=(opens_slice (e:=31) Tryz.underlying50 (of_decide_eq_true (by kernel_rfl)) op31).map id (fun a ga=>⟨⟨ga.2,ga.1⟩,by rw [(by kernel_rfl:Tryz.prog.cellsOf 31=8)];rfl⟩)
end
theorem own:ownKnob Tryz.prog.godebug=none:=by kernel_rfl
theorem laid:laidOutB Tryz.prog=true:=by kernel_rfl
set_option maxRecDepth 100000 in
theorem lifted4 (os:Os)(started:os.Started)(H:Type)(enc:TypeId×Value→H):ReturnsInHanded {} Tryz.checked os 4 .any (Rows.fnExactFilterRoutesSpec.pre6 enc Tryz.prog Tryz.f4 Rows.fnExactFilterRoutesRow.domain false) (Rows.fnExactFilterRoutesSpec.post enc Tryz.prog Tryz.f4 false true false false):=by
 refine returnsInHanded_of_change_sized (C:=Tryz.checked) own started (by kernel_rfl) Tryz.func4 (ChangeSpec.witness6 (enc:=enc) (C:=Tryz.checked) false ⟨#[],#[.agg #[.slice none 0 0,.bool false],.slice none 0 0],[]⟩ 8 (by kernel_rfl) (by kernel_rfl) (by kernel_rfl) (by kernel_rfl)) ?_
 intro W base args ds gs before hval0 hW hcnd hsz0 _;have hval:∀(j:Nat) t v,Tryz.f4.params[j]?=some t→args[j]?=some v→Value.okWide Tryz.prog W .any base t v:=hval0;have hW1:=hW;obtain ⟨p,q,hA0,hV,rfl,hfz,hnd⟩:=hW
 have hA:DataW.TrodAll enc Tryz.prog W 0 (fun _=>true) true Tryz.f4.params.toList args.toList ds p:=hA0
 rw [Tryz.params4] at hA hval;obtain ⟨v0,vs0,d0,ds0,p0,q0,hargs,rfl,rfl,h0,r0⟩:=trodAll_cons hA;obtain ⟨v1,vs1,d1,ds1,p1,q1,rfl,rfl,rfl,h1,r1⟩:=trodAll_cons r0;obtain ⟨rfl,rfl,rfl⟩:=trodAll_nil r1
 obtain rfl:args=#[v0,v1]:=by cases args;simp_all
 obtain ⟨rfl,rfl⟩:=trodVars_none hV;obtain ⟨c0,rfl,_⟩:=okWide_struct Tryz.underlying24 (hval 0 24 v0 rfl rfl)
 obtain ⟨a0,g0,k0⟩:=arg_agg op24 h0 (fun a=>by simp [nPol,immTop])
 obtain ⟨b1,b11,b21,rfl⟩:=okWide_slice Tryz.underlying50 (hval 1 50 v1 rfl rfl)
 obtain ⟨a1,c1,g1,ec1,k1⟩:=arg_cell1 op50 h1 rfl (fun a=>⟨_,rfl,rfl⟩)
 obtain rfl:_=c1:=(List.cons.inj ec1).1
 have hl:∀x∈p0++p1,x.block<W.heap.size:=fun x hx=>hW1.lt x (by simpa using hx)
 refine (row_calls tab (us:=[.agg c0,_]) (e4 a0 a1 true (law a0 a1 g0 g1)) rfl (fun i hi=>?_)).mono fun e W1 ⟨he,bel⟩=>?_
 · match i,hi with
   | 0,_=>exact k0
   | 1,_=>exact k1
   | n+2,h=>exact absurd h (by simp)
 subst he
 exact ⟨_,rfl,_,_,_,[],_,[],hW1,trodAll_mk1 (shut_bool Tryz.underlying4 _),(trodAll_cons_mk (Below.trod laid (by kernel_rfl) (of_decide_eq_true (by kernel_rfl)) h0 bel (fun x hx=>hl x (by simp [hx]))) (trodAll_cons_mk (Below.trod laid (by kernel_rfl) (of_decide_eq_true (by kernel_rfl)) h1 bel (fun x hx=>hl x (by simp [hx]))) trodAll_mk0)),rfl,bel.frame _,fun h=>by cases h⟩
theorem over4:Rows.fnExactFilterRoutesRow.holds Tryz.pinned (OpenSpec.ofChange Rows.fnExactFilterRoutesSpec) :=
 OpenClaim.holds_of_wide 4 Tryz.f4 rfl rfl rfl rfl rfl rfl rfl ⟨rfl,rfl,rfl,rfl,rfl⟩ rfl rfl rfl rfl rfl (by kernel_rfl) Tryz.func4 (by kernel_rfl)
  (of_decide_eq_true (by kernel_rfl)) (by unfold Func.isWrapper;first | (rw [if_pos (by decide +kernel)];kernel_rfl) | (rw [if_neg (by decide +kernel)];exact ⟨rfl,rfl⟩))
  (fun os started H enc _=>lifted4 os started H enc)
theorem fnExactFilterRoutes_holds:Rows.FnExactFilterRoutesSaid:=over4
#print axioms fnExactFilterRoutes_holds
end Go.Proofs.YthidbgihjhkjaaaGreat
