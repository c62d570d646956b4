/- no condition -/
import Derived.Test.YtlcanbihlfncoaaPiB
import Derived.Shelf.SlLaysE0
import Derived.Shelf.RegionOpenPlain
import Derived.WalkKit
import Derived.Deep.LoopGhost
import Derived.Deep.RegionLaw
import Derived.Lib.Walk
set_option linter.all false
namespace Go.Pi
open Go Go.Proofs Go.Shelf Go.RowKit Go.Lib
set_option linter.all false
variable {P:Program} {w w':World}
theorem agg_ofD {t:Nat}{d:TypeDesc}(h:P.underlying t=some d)(hd:isAggD d=false)(w:World):(isAgg t).run P w=.ok false w:=by
 simp only [Go.isAgg,Sem.run_bind,run_underlying h,Result.andThen_ok]
 cases d<;>simp [isAggD] at hd<;>simp
theorem run_clear_row {t ty e:Nat}{zv:Value}(ht:P.underlying t=some (.slice e))(hv:∀w,(zeroValue e).run P w=.ok zv w)(w:World)(g p n c:Nat)(cur:Array Value)(e':TypeId)(hg:w.heap[g]?=some (.cells cur e' (0,0)))
    (vs:List Value) (hvs:(Builtin.zeroCells zv.cells n).toList=vs) (hn:0<n) (h1:∀v∈vs,v.oneCell'=true) (hfit:p+vs.length≤cur.size) :
    (Builtin.clear_ #[t] ty #[.slice (some ⟨g,p,none⟩) n c]).run P w=.ok (.tuple #[]) (w.setRow g (cur.toList.take p++vs++cur.toList.drop (p+vs.length)).toArray):=by
 have hst:=run_storeCells_at P g p e' vs 0 cur w hg (by simpa using hfit) h1
 simp only [Nat.add_zero] at hst
 obtain ⟨m,rfl⟩:∃m,n=m+1:=⟨n-1,by omega⟩
 simp [Builtin.clear_,run_underlying ht,hv,hvs,hst]
theorem step_append_runI {ops:Array Oper}{o:Oper}{a:Act}{w:World}{K:Act→World→Prop}{Q:Exit→Act→World→Prop}{E:Prop}
    (hg:o.guard=none) (d x:Operand) (dT sT:TypeId) (hop:o.op=Op.call { callee:=Callee.builtin Builtin.append,args:=#[d,x],argTypes:=#[dT,sT] })
    (v u:Value) (hd:a.eval d=v) (hx:a.eval x=u) {v':Value} {w':World} (hr:(Builtin.append_ #[dT,sT] o.type #[v,u]).run P w=.ok v' w') (hK:K (a.put o.dst v') w') :
    if Region.wanted o (yielded ops a.tmps)=true then Oper.wp P o a w K Q else E:=by
 have hw:Region.wanted o (yielded ops a.tmps)=true:=by simp [Region.wanted,hg]
 rw [if_pos hw];unfold Oper.wp;simp [execOp,hop,resolve,invoke,builtin,hd,hx,hr,Result.andThen];exact hK
structure DelB (P:Program) (ρ:Ren):Prop where
 mixed:P.follows .mixedOrders=true
 f45:Bears P (ρ.f 45) (SlBodyN.n45 ρ)
 t0:P.underlying (ρ.t 0)=some (TypeDesc.tuple #[])
 t3:P.underlying (ρ.t 3)=some (TypeDesc.int IntKind.i64)
 t4:P.underlying (ρ.t 4)=some (TypeDesc.bool)
variable {ρ:Ren}
set_option maxHeartbeats 4000000 in
set_option maxRecDepth 1000000 in
theorem delOk_of (L:DelB P ρ):DelOk P (ρ.f 45) (ρ.t 22):=by
 intro e i0 zv t22 hie hzz hzs hpos b off n c i j cur eb w hij hjn hnc hc63 hb hbs cs hcl hcs h1c h1z;have t0:=L.t0;have a0:=agg_ofD (P:=P) L.t0 rfl;have t3:=L.t3;have a3:=agg_ofD (P:=P) L.t3 rfl;have t4:=L.t4;have a4:=agg_ofD (P:=P) L.t4 rfl;have a22:=agg_ofD (P:=P) t22 rfl;have u0:=run_underlying L.t0;have u3:=run_underlying L.t3;have u4:=run_underlying L.t4;have u22:=run_underlying t22;have mixed:=L.mixed
 have zsz:∀w,(Go.sizeOf e).run P w=.ok i0.size w:=fun w=>by simp [sizeOf,typeInfo,program,hie,Sem.run]
 have zv0:∀w,(zeroValue e).run P w=.ok zv w:=fun w=>by simp [zeroValue,typeInfo,program,hie,hzz,Sem.run]
 have hdl:(cs.drop (j*i0.size)).length=(n-j)*i0.size:=by rw [List.length_drop,hcl,Nat.sub_mul]
 have m1:n*i0.size≤c*i0.size:=Nat.mul_le_mul_right _ hnc
 have m3:i*i0.size+(n-j)*i0.size=(i+(n-j))*i0.size:=by rw [←Nat.add_mul]
 have m5:(i+(n-j))*i0.size+(j-i)*i0.size=n*i0.size:=by rw [←Nat.add_mul];congr 1;omega
 obtain ⟨A,hA,hsrc⟩:∃A:Addr,(if c=j then (some ⟨b,off,none⟩:Option Addr) else some ⟨b,off+j*i0.size,none⟩)=some A∧Hid (∀t u,(cs.drop (j*i0.size))[t]?=some u→w.drew.cell? (A.add t)=some u):=by
  by_cases h:c=j
  · refine ⟨⟨b,off,none⟩,by simp [h],fun t u hu=>?_⟩
    have h0 : (cs.drop (j * i0.size)).length = 0 := by rw [hdl]; have : n - j = 0 := by omega
                                                       rw [this,Nat.zero_mul]
    rw [List.length_eq_zero_iff.1 h0] at hu;simp at hu
  · refine ⟨⟨b,off+j*i0.size,none⟩,by simp [h],fun t u hu=>?_⟩
    rw [Addr.add_lit,Nat.add_assoc]
    exact hcs (j*i0.size+t) u (by rwa [List.getElem?_drop] at hu)
 have s2:Hid (∀u∈cs.drop (j*i0.size),u.oneCell'=true):=fun u hu=>h1c u (List.mem_of_mem_drop hu)
 obtain ⟨R1,hR1⟩:∃R1,R1=rowB cur off i (n-j) i0.size (cs.drop (j*i0.size)):=⟨_,rfl⟩
 have hap:Hid (∀ty,(Builtin.append_ #[ρ.t 22,ρ.t 22] ty #[.slice (some ⟨b,off,none⟩) i c,.slice (some A) (n-j) (c-j)]).run P w.drew=.ok (.slice (some ⟨b,off,none⟩) (i+(n-j)) c) (w.drew.setRow b R1)):=fun ty=>by
  have:=run_append_in (P:=P) (ty:=ty) (w:=w.drew) t22 hie b off i c cur eb hb A (n-j) (c-j) (cs.drop (j*i0.size)) hdl hsrc.out s2.out (by omega) (by rw [hdl];omega)
  rw [this,hR1];rfl
 have hR1s:R1.size=cur.size:=by rw [hR1];exact rowB_size cur off i (n-j) i0.size _ hdl (by rw [Nat.add_mul];omega)
 obtain ⟨zs,hzl⟩:∃zs,(Builtin.zeroCells zv.cells (j-i)).toList=zs:=⟨_,rfl⟩
 have hzlen:zs.length=(j-i)*i0.size:=by rw [←hzl];simp [Builtin.zeroCells,hzs]
 rw [hzl] at h1z ⊢
 have hnd:n-(i+(n-j))=j-i:=by omega
 obtain ⟨W1,hW1⟩:∃W1,W1=w.drew.setRow b R1:=⟨_,rfl⟩
 have hW1b:W1.heap[b]?=some (.cells R1 eb (0,0)):=by rw [hW1];exact setRow_heap w.drew b cur R1 eb (0,0) hb
 have hclr:∀ty,(Builtin.clear_ #[ρ.t 22] ty #[.slice (some ⟨b,off+(i+(n-j))*i0.size,none⟩) (n-(i+(n-j))) (c-(i+(n-j)))]).run P W1=.ok (.tuple #[]) (W1.setRow b (rowB R1 off (n-(j-i)) (j-i) i0.size zs)):=fun ty=>by
  rw [hnd,run_clear_row t22 zv0 W1 b (off+(i+(n-j))*i0.size) (j-i) _ R1 eb hW1b zs hzl (by omega) h1z (by rw [hzlen,hR1s];omega)]
  rw [show n-(j-i)=i+(n-j) by omega];rfl
 rw [←hW1] at hap;have hW:Hid (W1=w.drew.setRow b R1):=hW1;rw [←hR1,←hW1]
 have hic:i≤c:=by omega
 have hjc:j≤c:=by omega
 have hcne:¬(c=i+(n-j)):=by omega
 have hle1:i+(n-j)≤n:=by omega
 have hle2:((i:Int)+((n-j:Nat):Int))≤(n:Int):=by omega
 clear hW1 hW1b hcs hdl hzlen hzl hR1 hR1s h1z h1c hcl hzs hbs m1 m3 m5 hnd hb hW;obtain ⟨_,_,FG⟩:=L.f45
 go_enter FG,SlBodyN.n45_ntmps ρ
 go_wp2_with fail
 go_region_law_o (refine step_append_runI rfl (.tmp 22) (.tmp 25) (ρ.t 22) (ρ.t 22) rfl _ _ (by simp [Act.eval,Act.put]) (by simp [Act.eval,Act.put]) (hap.out _) ?_)
 go_wp2
 go_ret
 exact ⟨by rw [show n-(j-i)=i+(n-j) by omega];rfl,rfl⟩
def delRen (f45 t0 t3 t4 t22 t23:Nat):Ren where
 f x:=if x=45 then f45 else x
 t x:=if x=0 then t0 else if x=3 then t3 else if x=4 then t4 else if x=22 then t22 else t23
 g x:=x
end Go.Pi
