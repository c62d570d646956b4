/- no condition -/
import Derived.Calls
import Derived.Orders
import Derived.Below
import Derived.Laws.AppendOwn
import Derived.WalkKit
import Derived.Laws.Cells
import Derived.Laws.Tables
import Derived.Laws.CopyRow
set_option linter.all false
namespace Go.Pi
open Go
inductive Ql where
 | own | bor | imm
 deriving DecidableEq
inductive AV where
 | int (k:IntKind) (n:Int)
 | bool (b:Bool)
 | str (s:ByteArray)
 | nil
 | nilp
 | fn (f:Nat) (caps:List AV)
 | agg (cs:List AV)
 | tup (vs:List AV)
 | sl (id lo n:Nat)
 | ptr (id i j:Nat)
 | ts (q:Ql) (sz:Nat) (els:List (List AV))
 | tp (q:Ql) (sz:Nat) (els:List (List AV)) (i j:Nat)
 | any
abbrev AV.undef:AV:=.tup []
inductive Kd where
 | box | arr | lit
 deriving DecidableEq
structure Ob where
 kd:Kd
 sz:Nat
 els:List (List AV)
abbrev St:=List (Option Ob)
abbrev Fr:=List AV
inductive Bs where
 | other | int (k:IntKind) | bool | str
 deriving DecidableEq
structure TyI where
 size:Nat
 bytes:Nat
 agg:Bool
 zero:List AV
 es:List Nat
 elem:Nat
 fields:List (Nat×Nat×Bool)
 base:Bs
 cmp:Bool
structure PO where
 dst:Option Nat
 op:Op
 guard:Option (Nat×Bool)
inductive Org where
 | old (id:Nat)
 | winT (t c:Nat)
 | winB (id c:Nat)
 | nilT (t c e:Nat)
 | nilB (id c e:Nat)
structure Hint where
 keep:List Nat
 rows:List Org
 drop:List Nat
 frz:List (Nat×Nat×Nat)      
structure FxI where
 E:List Nat
 R:List (Option Nat)
 n:Nat
 Ds:List (List Nat)
 G:List (Nat×Nat)
 Q:List (Nat×Nat×Nat)
inductive PC where
 | bad | skip | ret
 | reg (l:List PO)
 | fz (l:List PO)
 | fx (l:List PO) (x:FxI)
 | pre (h:Hint) (a:PC)
 | post (a:PC) (h:Hint)
 | seq (a b:PC)
 | cond (x:Operand) (a b:PC)
 | block (id:Nat) (a:PC)
 | loop (a:PC)
 | exit (id:Nat)
 | nest (l:List PO) (k m:Nat)                  
 | amb (l:List PO) (x:Operand) (a b:PC)      
def slimGuard (ops:List Oper)(o:Oper):Option (Option (Nat×Bool)) :=
 match o.guard with
 | none=>some none
 | some (j,w)=>match ops[j]? with
  | none=>none
  | some oj=>match oj.dst with
   | none=>none
   | some d=>some (some (d,w))
def slimOps (ops:List Oper):List Oper→Option (List PO)
 | []=>some []
 | o::r=>match slimGuard ops o with
  | none=>none
  | some g=>match slimOps ops r with
   | none=>none
   | some l=>some (⟨o.dst,o.op,g⟩::l)
def calm:Op→Bool
 | .move _ | .assign _ | .pick .. | .load .. | .nilCheck _ | .binOp .. | .unOp .. | .convert .. | .makeFunc .. | .slice .. | .fieldAddr .. | .field .. | .indexAddr .. | .index .. | .extract .. | .build ..=>true
 | .call c=>match c.callee with
  | .value _=>true
  | .builtin .len | .builtin .min | .builtin .max=>true
  | _=>false
 | _=>false
def tmpsOf (ops:List Oper)(o:Oper):List Nat :=
 o.op.operands.toList.filterMap (fun | .tmp t=>some t | _=>none)++(match o.guard with
  | none=>[]
  | some (j,_)=>match ops[j]? with
   | some oj=>oj.dst.toList
   | none=>[])
def aheadsGo (acc:List (List Nat)):List Oper→List (List Nat)
 | []=>acc
 | o::r=>aheadsGo (acc++[o.after.toList.flatMap fun e=>if Region.binds .any e then e.on::acc.getD e.on [] else []]) r
def aheads (ops:List Oper):List (List Nat):=aheadsGo [] ops
def markRound (md:Region.Mode)(ops:List Oper)(m:List Bool):List Bool :=
 ops.map fun o=>o.after.toList.all fun e=>!(Region.binds md e)||m.getD e.on false
def marks (md:Region.Mode)(ops:List Oper):Nat→List Bool
 | 0=>[]
 | k+1=>markRound md ops (marks md ops k)
def forwardOk (md:Region.Mode)(ops:List Oper):Bool :=
 ops.zipIdx.all fun (o,i)=>o.after.toList.all fun e=>!(Region.binds md e)||decide (e.on<i)
def acyc (md:Region.Mode)(ops:List Oper):Bool :=
 forwardOk md ops||(marks md ops ops.length).all id
def clashOk (ops:List Oper):Bool :=
 let A:=aheads ops
 ops.zipIdx.all fun (oj,j)=>match oj.dst with
  | none=>true
  | some d=>ops.zipIdx.all fun (oi,i)=>i==j||(!(oi.dst==some d)&&(!(tmpsOf ops oi).contains d||(A.getD i []).contains j||(A.getD j []).contains i))
def drawOk (ops:List Oper):Bool :=
 ops.all (fun o=>calm o.op) &&
 (forwardOk .any ops&&(acyc .text ops&&acyc .gc ops)) &&
 clashOk ops
def looks (o:Op):Bool :=
 calm o&&(match o with
  | .call c=>match c.callee with
   | .value _=>false
   | _=>true
  | _=>true)
def ins (i:Nat):List Nat→List Nat
 | []=>[i]
 | j::r=>if i<j then i::j::r else if i=j then j::r else j::ins i r
def mayAt (A:List (List Nat))(E:List Nat)(D:List Nat)(i:Nat):Bool :=
 E.all (fun e=>!((A.getD i []).contains e)||D.contains e)&&D.all (fun e=>!((A.getD e []).contains i))&&!D.contains i
def setBehind (E:List Nat)(D:List Nat)(i:Nat):List Nat:=if E.contains i then ins i D else D
def preN:List Nat→Nat→Nat
 | [],_=>0
 | e::r,i=>if i≤e then 0 else preN r i+1
def still:Op→Bool
 | .move _ | .assign _ | .pick .. | .binOp .. | .unOp .. | .convert .. | .fieldAddr .. | .field .. | .extract .. | .nilCheck _ | .index ..=>true
 | _=>false
def pairOk (x:FxI)(i k k':Nat):Bool :=
 (k==preN x.E i&&k'==preN x.E (i+1))||x.Q.contains (i,k,k')
def makes:Op→Bool
 | .alloc _ | .box .. | .buildSlice ..=>true
 | _=>false
def fxOk (ops:List Oper)(x:FxI):Bool :=
 let A:=aheads ops
 (forwardOk .any ops&&(acyc .text ops&&acyc .gc ops))&&clashOk ops &&
 (x.R.length==ops.length) &&
 (ops.zipIdx.all fun (o,i)=>(x.E.contains i||looks o.op)&&(match x.R.getD i none with
  | none=>true
  | some r=>makes o.op&&decide (r<x.n)&&x.E.contains i&&decide (∀j,j<ops.length→j≠i→x.R.getD j none≠some r))) &&
 ((List.range (x.E.length+1)).all fun k=>x.Ds.getD k []==x.E.take k) &&
 (decide (x.E.length<x.Ds.length)) &&
 ((List.range x.Ds.length).all fun k=>!(x.E.all fun e=>(x.Ds.getD k []).contains e)||k==x.E.length) &&
 (decide (x.E.Pairwise (·<·))&&x.E.all (fun e=>decide (e<ops.length))) &&
 ((List.range x.Ds.length).all fun k=>(List.range ops.length).all fun i =>
  !(mayAt A x.E (x.Ds.getD k []) i)||(List.range x.Ds.length).any fun k'=>(x.Ds.getD k' []==setBehind x.E (x.Ds.getD k []) i)&&(pairOk x i k k'||(k==k'&&!x.E.contains i&&(match ops[i]? with | some o=>still o.op | none=>false))))
def lay:PC→Code→PC
 | .pre h p,c=>.pre h (lay p c)
 | .post p h,c=>.post (lay p c) h
 | .skip,.skip=>.skip
 | .ret,.ret=>.ret
 | .exit _,.exit id=>.exit id
 | .reg _,.region _ ops false=>match slimOps ops.toList ops.toList with
  | none=>.bad
  | some l=>.reg l
 | .nest _ k m,.region _ ops false=>match slimOps ops.toList ops.toList with
  | none=>.bad
  | some l=>.nest l k m
 | .fz _,.region _ ops true=>match slimOps ops.toList ops.toList with
  | none=>.bad
  | some l=>if drawOk ops.toList then .fz l else .bad
 | .fx _ x,.region _ ops true=>match slimOps ops.toList ops.toList with
  | none=>.bad
  | some l=>if fxOk ops.toList x then .fx l x else .bad
 | .seq p q,.seq a b=>.seq (lay p a) (lay q b)
 | .cond _ p q,.cond x a b=>.cond x (lay p a) (lay q b)
 | .block _ p,.block id a=>.block id (lay p a)
 | .loop p,.loop a=>.loop (lay p a)
 | .amb _ _ (.seq p1 q1) (.seq p2 q2),.seq (.seq (.region _ ops false) (.cond x a b)) c=>match slimOps ops.toList ops.toList with
  | none=>.bad
  | some l=>.amb l x (.seq (lay p1 a) (lay q1 c)) (.seq (lay p2 b) (lay q2 c))
 | _,_=>.bad
structure FnI where
 ntmps:Nat
 results:List ResultVar
 body:PC
 kind:Nat      
 pes:List (List Nat)
 res:List (List Nat)
 tree:Bool
 lf:Bool       
 given:Nat     
 soft:Bool
structure Tab where
 ty:Nat→Option TyI
 fn:Nat→Option FnI
 soft:Bool     
def Tab.at (T:Tab)(b:Bool):Tab:={ T with soft:=b }
def Tab.elemOf (T:Tab)(t:Nat):Option TyI :=
 match T.ty t with
 | some ts=>if ts.elem=0 then none else match T.ty ts.elem with
  | some te=>if 0<te.size∧te.bytes≤1024 then some te else none
  | none=>none
 | none=>none
def Tab.baseOf (T:Tab)(t:Nat):Bs :=
 match T.ty t with
 | some ti=>ti.base
 | none=>.other
inductive Ex where
 | normal
 | exit (id:Nat)
 | ret
def AV.cells:AV→List AV
 | .agg cs=>cs
 | v=>[v]
def AV.ownTop:AV→Bool
 | .ts .own _ _=>true
 | _=>false
def AV.isCell:AV→Bool
 | .agg _ | .tup _=>false
 | _=>true
def setTop (q:Ql):AV→AV
 | .ts _ sz els=>.ts q sz els
 | .tp _ sz els i j=>.tp q sz els i j
 | v=>v
mutual
def setQ (q:Ql):AV→AV
 | .ts _ sz els=>.ts q sz (setQLL q els)
 | .tp _ sz els i j=>.tp q sz (setQLL q els) i j
 | .agg cs=>.agg (setQL q cs)
 | v=>v
def setQL (q:Ql):List AV→List AV
 | []=>[]
 | c::r=>setQ q c::setQL q r
def setQLL (q:Ql):List (List AV)→List (List AV)
 | []=>[]
 | c::r=>setQL q c::setQLL q r
end
mutual
def ownOnly:AV→Bool
 | .int _ _=>true
 | .bool _=>true
 | .str _=>true
 | .nilp=>true
 | .ts q _ els=>(q==.own)&&ownOnlyLL els
 | _=>false
def ownOnlyL:List AV→Bool
 | []=>true
 | c::r=>ownOnly c&&ownOnlyL r
def ownOnlyLL:List (List AV)→Bool
 | []=>true
 | c::r=>ownOnlyL c&&ownOnlyLL r
end
def AV.bool?:AV→Option Bool
 | .bool b=>some b
 | _=>none
def AV.int?:AV→Option Int
 | .int _ n=>some n
 | _=>none
def mapO {α β:Type}(f:α→Option β):List α→Option (List β)
 | []=>some []
 | a::r=>match f a with
  | none=>none
  | some b=>match mapO f r with
   | none=>none
   | some bs=>some (b::bs)
def ofVal:Value→Option AV
 | .int k n=>some (.int k n)
 | .bool b=>some (.bool b)
 | .string s=>some (.str s)
 | .slice none 0 0=>some .nil
 | .pointer none=>some .nilp
 | .tuple ⟨[]⟩=>some (.tup [])
 | _=>none
def evO (fr:Fr):Operand→Option AV
 | .tmp t=>match fr.getD t .undef with
  | .any=>none
  | v=>some v
 | .const v=>ofVal v
 | .func f=>some (.fn f [])
 | .global _=>none
def evOpt (fr:Fr):Option Operand→Option (Option AV)
 | none=>some none
 | some x=>match evO fr x with
  | some v=>some (some v)
  | none=>none
def window (els:List (List AV))(lo n:Nat):List (List AV):=(els.drop lo).take n
def bounds (len:Nat)(lo hi:Option AV):Option (Nat×Nat) :=
 match hi with
 | none=>match lo with
  | none=>some (0,len)
  | some (.int _ l)=>if 0≤l∧l≤(len:Int) then some (l.toNat,len) else none
  | some _=>none
 | some (.int _ h) =>
  if 0≤h∧h≤(len:Int) then
   match lo with
   | none=>some (0,h.toNat)
   | some (.int _ l)=>if 0≤l∧l≤h then some (l.toNat,h.toNat) else none
   | some _=>none
  else none
 | some _=>none
def getOb (S:St)(id:Nat):Option Ob :=
 match S[id]? with
 | some (some ob)=>some ob
 | _=>none
def intBits (op:BinOp)(k:IntKind)(x y:Int):Int :=
 match op with
 | .and=>k.wrap (BitVec.ofInt k.bits x &&& BitVec.ofInt k.bits y).toNat
 | .or=>k.wrap (BitVec.ofInt k.bits x ||| BitVec.ofInt k.bits y).toNat
 | .xor=>k.wrap (BitVec.ofInt k.bits x ^^^ BitVec.ofInt k.bits y).toNat
 | _=>k.wrap (BitVec.ofInt k.bits x &&& ~~~ (BitVec.ofInt k.bits y)).toNat
def evInt (op:BinOp)(k:IntKind)(a b:Int):Option AV :=
 match op with
 | .add=>some (.int k (k.wrap (a+b)))
 | .sub=>some (.int k (k.wrap (a-b)))
 | .mul=>some (.int k (k.wrap (a*b)))
 | .quo=>if b=0 then none else some (.int k (k.wrap (a.tdiv b)))
 | .rem=>if b=0 then none else some (.int k (a.tmod b))
 | .and=>some (.int k (intBits .and k a b))
 | .or=>some (.int k (intBits .or k a b))
 | .xor=>some (.int k (intBits .xor k a b))
 | .andNot=>some (.int k (intBits .andNot k a b))
 | .shl=>if b<0 then none else some (.int k (k.wrap (a*2 ^ (min b.toNat k.bits))))
 | .shr=>if b<0 then none else some (.int k (a.fdiv (2 ^ (min b.toNat k.bits))))
 | .eql=>some (.bool (a==b))
 | .neq=>some (.bool (a != b))
 | .lss=>some (.bool (decide (a<b)))
 | .leq=>some (.bool (decide (a≤b)))
 | .gtr=>some (.bool (decide (a > b)))
 | .geq=>some (.bool (decide (a≥b)))
def isShift:BinOp→Bool
 | .shl | .shr=>true
 | _=>false
def eqCells:List AV→List AV→Option Bool
 | [],[]=>some true
 | .int k a::r,.int k' b::s=>if k=k' then (match eqCells r s with | some e=>some ((a==b)&&e) | none=>none) else none
 | .bool a::r,.bool b::s=>match eqCells r s with | some e=>some ((a==b)&&e) | none=>none
 | .str a::r,.str b::s=>match eqCells r s with | some e=>some ((a==b)&&e) | none=>none
 | _,_=>none
def evStr (op:BinOp)(a b:ByteArray):Option AV :=
 match op with
 | .add=>if a.size+b.size≤4611686018427387904 then some (.str (a++b)) else none
 | .eql=>some (.bool (a.toList==b.toList))
 | .neq=>some (.bool (!(a.toList==b.toList)))
 | .lss=>some (.bool (Op.bytesLess a.toList b.toList))
 | .leq=>some (.bool (Op.bytesLess a.toList b.toList||a.toList==b.toList))
 | .gtr=>some (.bool !(Op.bytesLess a.toList b.toList||a.toList==b.toList))
 | .geq=>some (.bool !(Op.bytesLess a.toList b.toList))
 | _=>none
def evBin (T:Tab)(op:BinOp)(xt:Nat)(x y:AV):Option AV :=
 match x,y with
 | .int k a,.int k' b=>if k=k'∨isShift op=true then evInt op k a b else none
 | .str a,.str b=>evStr op a b
 | .bool a, .bool b => if T.baseOf xt = .bool then
     match op with
     | .eql=>some (.bool (a==b))
     | .neq=>some (.bool (!(a==b)))
     | _=>none
  else none
 | .agg a,.agg b =>
  match T.ty xt with
  | some i => if i.cmp = true ∧ i.agg = true ∧ a.length = i.size ∧ (eqCells i.zero a).isSome = true then
      match op,eqCells a b with
      | .eql,some e=>some (.bool e)
      | .neq,some e=>some (.bool !e)
      | _,_=>none
   else none
  | none=>none
 | _,_=>none
def evUn (op:UnOp)(x:AV):Option AV :=
 match op,x with
 | .not,.bool b=>some (.bool !b)
 | .neg,.int k n=>some (.int k (k.wrap (0-n)))
 | _,_=>none
def rowAt (els:List (List AV))(i:Nat):Option (List AV):=els[i]?
def evLoad (T:Tab)(t:Nat)(a:AV)(S:St):Option AV :=
 match T.ty t with
 | none=>none
 | some ti =>
  match a with
  | .ptr id i j =>
   match getOb S id with
   | none=>none
   | some ob =>
    match ob.els[i]? with
    | none=>none
    | some row =>
     if ti.agg then
      if j+ti.size≤row.length then
       match ob.kd with
       | .box=>some (.agg ((row.drop j).take ti.size))
       | _=>if T.soft=true then none else some (.agg (((row.drop j).take ti.size).map (setTop .bor)))
      else none
     else match row[j]? with
      | none=>none
      | some c=>match ob.kd with
       | .box=>some c
       | _=>if T.soft=true∧c.ownTop=true then none else some (setTop .bor c)
  | .tp q _ els i j =>
   match els[i]? with
   | none=>none
   | some row =>
    if ti.agg then
     if j+ti.size≤row.length then some (.agg (((row.drop j).take ti.size).map (setTop q))) else none
    else match row[j]? with
     | none=>none
     | some c=>some (setTop q c)
  | _=>none
def absorb (S:St)(e:Nat)(c:AV):Option (AV×St) :=
 match c with
 | .nil=>some (.ts .own e [],S)
 | .sl id lo n =>
  match getOb S id with
  | none=>none
  | some ob=>if ob.kd≠.box∧ob.sz=e∧lo+n≤ob.els.length then some (.ts .own e (window ob.els lo n),S.set id none) else none
 | .int k n=>some (.int k n,S)
 | .bool b=>some (.bool b,S)
 | .str s=>some (.str s,S)
 | .nilp=>some (.nilp,S)
 | .ts .bor sz els=>some (.ts .bor sz els,S)
 | .ts .imm sz els=>some (.ts .imm sz els,S)
 | .tp q sz els i j=>some (.tp q sz els i j,S)
 | _=>none
def absorbL (S:St):List Nat→List AV→Option (List AV×St)
 | _,[]=>some ([],S)
 | [],_::_=>none
 | e::es,c::cs =>
  match absorb S e c with
  | none=>none
  | some (c',S1)=>match absorbL S1 es cs with
   | none=>none
   | some (cs',S2)=>some (c'::cs',S2)
def splice (row:List AV)(j:Nat)(cs:List AV):List AV:=row.take j++cs++row.drop (j+cs.length)
def evStore (T:Tab)(t:Nat)(a v:AV)(S:St):Option St :=
 match T.ty t,a with
 | some ti,.ptr id i j =>
  if v.cells.length=ti.size then
   match getOb S id with
   | none=>none
   | some ob0 =>
    if ob0.kd=.box then
     match ob0.els[i]? with
     | none=>none
     | some row=>if j+ti.size≤row.length∧v.cells.all AV.isCell=true then some (S.set id (some { ob0 with els:=ob0.els.set i (splice row j v.cells) })) else none
    else
     match absorbL S ti.es v.cells with
     | none=>none
     | some (cs,S1) =>
      match getOb S1 id with
      | none=>none
      | some ob =>
       match ob.els[i]? with
       | none=>none
       | some row=>if j+ti.size≤row.length then some (S1.set id (some { ob with els:=ob.els.set i (splice row j cs) })) else none
  else none
 | _,_=>none
def zeroRow (ti:TyI):List AV :=
 (ti.zero.zip ti.es).map fun (c,e)=>match c with
  | .nil=>.ts .own e []
  | c=>c
def fillAgg (fields:List (Nat×Nat×Bool))(cells:List AV):List (Nat×AV)→Option (List AV)
 | []=>some cells
 | (i,v)::rest =>
  match fields[i]? with
  | none=>none
  | some (off,size,_) =>
   if v.cells.length=size∧off+size≤cells.length then fillAgg fields (splice cells off v.cells) rest else none
def fillRow (es:List Nat)(size:Nat)(els:List (List AV))(S:St):List (Nat×AV)→Option (List (List AV)×St)
 | []=>some (els,S)
 | (i,v)::rest =>
  if v.cells.length=size∧i<els.length then
   match absorbL S es v.cells with
   | none=>none
   | some (cs,S1)=>fillRow es size (els.set i cs) S1 rest
  else none
def evParts (fr:Fr):List (Nat×Operand)→Option (List (Nat×AV))
 | []=>some []
 | (i,x)::r=>match evO fr x with
  | none=>none
  | some v=>match evParts fr r with
   | none=>none
   | some vs=>some ((i,v)::vs)
def evArgs (fr:Fr):List Operand→Option (List AV)
 | []=>some []
 | x::r=>match evO fr x with
  | none=>none
  | some v=>match evArgs fr r with
   | none=>none
   | some vs=>some (v::vs)
def isRow (S:St)(id:Nat):Option Ob :=
 match getOb S id with
 | some ob=>if ob.kd=.box then none else some ob
 | none=>none
def viewTop:AV→AV
 | .ts .imm sz els=>.ts .imm sz els
 | .tp .imm sz els i j=>.tp .imm sz els i j
 | c=>setTop .bor c
def sourceView (T:Tab)(S:St)(sz:Nat):AV→Option (List (List AV))
 | .nil=>some []
 | .ts q sz' els=>if sz'=sz∧q≠.own then some (els.map (·.map (setTop q))) else none
 | .sl id lo n =>
  match isRow S id with
  | none=>none
  | some ob=>if ob.sz=sz∧lo+n≤ob.els.length∧T.soft=false then some ((window ob.els lo n).map (·.map viewTop)) else none
 | _=>none
def sourceOf (T:Tab)(S:St)(mv:Bool)(sz:Nat)(x:AV):Option (List (List AV)×St) :=
 match x with
 | .sl id lo n =>
  match isRow S id with
  | none=>none
  | some ob =>
   if (ob.kd=.lit∨mv=true)∧lo=0∧n=ob.els.length∧ob.sz=sz then some (ob.els,S.set id none)
   else match sourceView T S sz x with
    | some els=>some (els,S)
    | none=>none
 | x=>match sourceView T S sz x with
  | some els=>some (els,S)
  | none=>none
def maxRow:Nat:=68719476736
def evAppend (T:Tab)(t:Nat)(s x:AV)(S:St):Option (AV×St) :=
    match T.elemOf t with
    | none=>none
    | some te =>
     match sourceOf T S (te.es.any (· != 0)) te.size x with
     | none=>none
     | some (news,S1) =>
      match s with
      | .nil=>if news.length≤maxRow then some (.sl S1.length 0 news.length,S1++[some ⟨.arr,te.size,news⟩]) else none
      | .sl id lo n =>
       match isRow S1 id with
       | none=>none
       | some ob =>
        if ob.sz=te.size∧lo+n=ob.els.length∧n+news.length≤maxRow then
         some (.sl S1.length 0 (n+news.length),(S1.set id none)++[some ⟨.arr,te.size,ob.els.drop lo++news⟩])
        else none
      | _=>none
def evLen (T:Tab)(t:Nat):AV→Option Nat
 | .str s=>if T.baseOf t=.str then some s.size else none
 | .nil=>match T.elemOf t with
  | some _=>some 0
  | none=>none
 | .sl _ _ n=>match T.elemOf t with
  | some _=>some n
  | none=>none
 | .ts _ _ els=>match T.elemOf t with
  | some _=>some els.length
  | none=>none
 | _=>none
def min2:AV→AV→Option AV
 | .int k x,.int _ y=>some (.int k (if y<x then y else x))
 | _,_=>none
def max2:AV→AV→Option AV
 | .int k x,.int _ y=>some (.int k (if y > x then y else x))
 | _,_=>none
def foldO (f:AV→AV→Option AV)(a:AV):List AV→Option AV
 | []=>some a
 | b::r=>match f a b with
  | none=>none
  | some c=>foldO f c r
def evClear (T:Tab)(t id lo n:Nat)(S:St):Option St :=
 match isRow S id,T.elemOf t with
 | some ob,some te=>if lo+n=ob.els.length∧te.size=ob.sz then some (S.set id (some { ob with els:=ob.els.take lo })) else none
 | _,_=>none
def evCopy (T:Tab)(t:Nat)(d x:AV)(S:St):Option (Nat×St) :=
 match d,T.elemOf t with
 | .sl id lo n,some te =>
  match isRow S id,sourceView T S te.size x with
  | some ob,some news =>
   if ob.sz=te.size∧lo+n≤ob.els.length then
    some (min news.length n,S.set id (some { ob with els:=ob.els.take lo++news.take (min news.length n)++ob.els.drop (lo+min news.length n) }))
   else none
  | _,_=>none
 | _,_=>none
def evBuiltin (T:Tab)(b:Builtin)(argTypes:List Nat)(args:List AV)(S:St):Option (AV×St) :=
 match b,argTypes,args with
 | .append,[t,t'],[s,x]=>if t=t' then evAppend T t s x S else none
 | .len,[t],[x]=>match evLen T t x with
  | some n=>some (.int .i64 n,S)
  | none=>none
 | .min,_,x::r=>match foldO min2 x r with
  | some v=>some (v,S)
  | none=>none
 | .max,_,x::r=>match foldO max2 x r with
  | some v=>some (v,S)
  | none=>none
 | .clear,[t],[.sl id lo n]=>match evClear T t id lo n S with
  | some S'=>some (.tup [],S')
  | none=>none
 | .copy,[t,t'],[d,x]=>if t=t' then (match evCopy T t d x S with
  | some (n,S')=>some (.int .i64 n,S')
  | none=>none) else none
 | _,_,_=>none
def lend1 (S:St)(e:Nat):AV→Option AV
 | .nil=>some (.ts .imm e [])
 | .sl id lo n =>
  match isRow S id with
  | none=>none
  | some ob=>if ob.sz=e∧lo+n≤ob.els.length then some (.ts .imm e (setQLL .imm (window ob.els lo n))) else none
 | .ts .imm sz els=>some (.ts .imm sz els)
 | .ts .bor sz els=>some (.ts .imm sz (setQLL .imm els))
 | .tp .imm sz els i j=>some (.tp .imm sz els i j)
 | .tp .bor sz els i j=>some (.tp .imm sz (setQLL .imm els) i j)
 | .int k n=>some (.int k n)
 | .bool b=>some (.bool b)
 | .str s=>some (.str s)
 | .nilp=>some .nilp
 | .fn f []=>some (.fn f [])
 | _=>none
def lendCell (S:St):AV→Option AV
 | .nil=>some .nil
 | .sl id lo n =>
  match isRow S id with
  | none=>none
  | some ob=>if lo+n≤ob.els.length then some (.ts .imm ob.sz (setQLL .imm (window ob.els lo n))) else none
 | .ts .imm sz els=>some (.ts .imm sz els)
 | .ts .bor sz els=>some (.ts .imm sz (setQLL .imm els))
 | .tp .imm sz els i j=>some (.tp .imm sz els i j)
 | .tp .bor sz els i j=>some (.tp .imm sz (setQLL .imm els) i j)
 | .int k n=>some (.int k n)
 | .bool b=>some (.bool b)
 | .str s=>some (.str s)
 | .nilp=>some .nilp
 | .fn f []=>some (.fn f [])
 | _=>none
def lendPtr (S:St):AV→Option AV
 | .ptr id i j =>
  match getOb S id with
  | none=>none
  | some ob => if ob.kd = .box then
      match mapO (mapO (lendCell S)) ob.els with
      | none=>none
      | some els=>some (.tp .imm ob.sz els i j)
   else none
 | c=>lendCell S c
def lendL (S:St):List Nat→List AV→Option (List AV)
 | _,[]=>some []
 | [],_::_=>none
 | e::es,c::cs=>match lend1 S e c with
  | none=>none
  | some c'=>match lendL S es cs with
   | none=>none
   | some cs'=>some (c'::cs')
def lend (S:St)(es:List Nat):AV→Option AV
 | .agg cs=>match lendL S es cs with
  | none=>none
  | some cs'=>some (.agg cs')
 | .fn f caps=>match mapO (lendPtr S) caps with
  | none=>none
  | some caps'=>some (.fn f caps')
 | .ptr id i j=>lendPtr S (.ptr id i j)
 | c=>match es with
  | [e]=>lend1 S e c
  | _=>none
def idsCell:AV→List Nat
 | .sl id _ _=>[id]
 | .ptr id _ _=>[id]
 | _=>[]
def idsOf:AV→List Nat
 | .agg cs=>cs.flatMap idsCell
 | .fn _ caps=>caps.flatMap idsCell
 | c=>idsCell c
def idsDeep (S:St)(v:AV):List Nat :=
 (idsOf v).flatMap fun id=>id::match getOb S id with
  | some ob=>if ob.kd=.box then ob.els.flatMap (·.flatMap idsCell) else []
  | none=>[]
def lendAll (S:St):List (List Nat)→List AV→Option (List AV)
 | _,[]=>some []
 | [],_::_=>none
 | es::ess,v::vs=>match lend S es v with
  | none=>none
  | some v'=>match lendAll S ess vs with
   | none=>none
   | some vs'=>some (v'::vs')
def rawAll (S:St):List (List Nat)→List AV→Option (List AV×St)
 | _,[]=>some ([],S)
 | [],_::_=>none
 | es::ess,v::vs =>
  match v,es with
  | .nil,[e]=>match rawAll (S++[some ⟨.arr,e,[]⟩]) ess vs with
   | none=>none
   | some (vs',S')=>some (.sl S.length 0 0::vs',S')
  | v,_=>match rawAll S ess vs with
   | none=>none
   | some (vs',S')=>some (v::vs',S')
def kill (S:St):List Nat→St
 | []=>S
 | id::r=>kill (S.set id none) r
def rebaseCell (m len:Nat):AV→AV
 | .sl id lo n=>.sl (len+(id-m)) lo n
 | c=>c
def rebase (m len:Nat):AV→AV
 | .agg cs=>.agg (cs.map (rebaseCell m len))
 | c=>rebaseCell m len c
def rebaseTop (m len:Nat)(v:AV):AV :=
 if m=len then v else match v with
  | .tup vs=>.tup (vs.map (rebase m len))
  | v=>rebase m len v
def fine:AV→Bool
 | .int _ _ | .bool _ | .str _ | .nil | .nilp | .sl _ _ _ | .ptr _ _ _=>true
 | .ts .own _ els=>fineLL els
 | .ts .imm _ _ | .tp .imm _ _ _ _=>true
 | .agg cs | .tup cs | .fn _ cs=>fineL cs
 | _=>false
where
 fineL:List AV→Bool
  | []=>true
  | c::r=>fine c&&fineL r
 fineLL:List (List AV)→Bool
  | []=>true
  | c::r=>fineL c&&fineLL r
def cleanCell (S:St):AV→Bool
 | .sl id lo n=>match isRow S id with
  | some ob=>fine.fineLL (window ob.els lo n)
  | none=>false
 | .ts .imm _ _=>true
 | .tp .imm _ _ _ _=>true
 | .int _ _ | .bool _ | .str _ | .nil | .nilp=>true
 | _=>false
def cleanArg (S:St):AV→Bool
 | .agg cs=>cs.all (cleanCell S)
 | c=>cleanCell S c
def cleanPtr (S:St):AV→Bool
 | .ptr id _ _=>match getOb S id with
  | some ob=>ob.els.all (·.all (cleanCell S))
  | none=>false
 | c=>cleanCell S c
def weak1:AV→AV
 | .agg cs=>.agg (cs.map (setQ .bor))
 | v=>setQ .bor v
def weak:AV→AV
 | .tup vs=>.tup (vs.map weak1)
 | v=>weak1 v
def addId (l:List Nat)(id:Nat):List Nat:=if id∈l then l else l++[id]
def addCell (l:List Nat):AV→List Nat
 | .sl id _ _=>addId l id
 | .ptr id _ _=>addId l id
 | _=>l
def addCells (l:List Nat):List AV→List Nat
 | []=>l
 | c::r=>addCells (addCell l c) r
def addPtr (S:St)(l:List Nat):AV→List Nat
 | .ptr id _ _=>match getOb S id with
  | some ob=>if ob.kd=.box then addCells (addId l id) ob.els.flatten else addId l id
  | none=>addId l id
 | c=>addCell l c
def addPtrs (S:St)(l:List Nat):List AV→List Nat
 | []=>l
 | c::r=>addPtrs S (addPtr S l c) r
def addArg (lf:Bool)(S:St)(l:List Nat):AV→List Nat
 | .agg cs=>addCells l cs
 | .fn _ caps=>if lf then l else addPtrs S l caps
 | c=>addPtr S l c
def addArgs (lf:Bool)(S:St)(l:List Nat):List AV→List Nat
 | []=>l
 | v::r=>addArgs lf S (addArg lf S l v) r
def posOf:List Nat→Nat→Option Nat
 | [],_=>none
 | j::r,id=>if j=id then some 0 else match posOf r id with
  | none=>none
  | some k=>some (k+1)
def rnC (ids:List Nat):AV→Option AV
 | .sl id lo n=>match posOf ids id with
  | none=>none
  | some k=>some (.sl k lo n)
 | .ptr id i j=>match posOf ids id with
  | none=>none
  | some k=>some (.ptr k i j)
 | .agg _ | .tup _ | .fn _ (_::_)=>none
 | .ts .own _ _ | .tp .own _ _ _ _=>none
 | c=>some c
def capsOf:AV→List AV
 | .fn _ caps=>caps
 | _=>[]
def givArg (lf:Bool)(S:St)(ids:List Nat):AV→Option AV
 | .agg cs=>match mapO (rnC ids) cs with
  | none=>none
  | some cs'=>some (.agg cs')
 | .fn f caps=>match (if lf then mapO (lendPtr S) caps else mapO (rnC ids) caps) with
  | none=>none
  | some caps'=>some (.fn f caps')
 | c=>rnC ids c
def givOb (S:St)(ids:List Nat)(id:Nat):Option (Option Ob) :=
 match getOb S id with
 | none=>none
 | some ob => if ob.kd = .box then match mapO (mapO (rnC ids)) ob.els with
     | none=>none
     | some els=>some (some { ob with els:=els })
  else some (some { ob with kd:=.arr })
def fineOb:Option Ob→Bool
 | some ob=>fine.fineLL ob.els
 | none=>true
def nude:AV→Bool
 | .int _ _ | .bool _ | .str _ | .nil | .nilp | .sl _ _ _ | .ptr _ _ _=>true
 | .ts .own _ els=>nudeLL els
 | .agg cs | .tup cs | .fn _ cs=>nudeL cs
 | _=>false
where
 nudeL:List AV→Bool
  | []=>true
  | c::r=>nude c&&nudeL r
 nudeLL:List (List AV)→Bool
  | []=>true
  | c::r=>nudeL c&&nudeLL r
def nudeOb:Option Ob→Bool
 | some ob=>nude.nudeLL ob.els
 | none=>true
mutual
def renA (g:Nat→Nat):AV→AV
 | .sl id lo n=>.sl (g id) lo n
 | .ptr id i j=>.ptr (g id) i j
 | .agg cs=>.agg (renL g cs)
 | .tup cs=>.tup (renL g cs)
 | .fn f cs=>.fn f (renL g cs)
 | v=>v
def renL (g:Nat→Nat):List AV→List AV
 | []=>[]
 | c::r=>renA g c::renL g r
end
def renOb (g:Nat→Nat):Option Ob→Option Ob
 | some ob=>if ob.kd=.box then some { ob with els:=ob.els.map (renL g) } else some ob
 | none=>none
def backId (ids:List Nat)(n k:Nat):Nat:=if k<ids.length then ids.getD k 0 else n+(k-ids.length)
def setMany (S:St):List Nat→List (Option Ob)→St
 | [],_=>S
 | id::ids,ob::obs=>setMany (S.set id ob) ids obs
 | id::ids,[]=>setMany (S.set id none) ids []
def lentIds (lf:Bool)(S:St)(args:List AV):List Nat:=if lf then args.flatMap fun v=>(capsOf v).flatMap (idsDeep S) else []
def lentClean (lf:Bool)(S:St)(args:List AV):Bool:=!lf||args.all fun v=>(capsOf v).all (cleanPtr S)
def noLent (lf:Bool)(args:List AV):Bool:=!lf||args.all fun v=>(capsOf v).isEmpty
def backAll (S:St)(ids:List Nat)(S':St):St :=
 setMany S ids ((S'.take ids.length).map (renOb (backId ids S.length)))++(S'.drop ids.length).map (renOb (backId ids S.length))
def evCall3 (sf:Bool)(fi:FnI)(G:List AV→St→Option (AV×St))(args:List AV)(S:St):Option (AV×St) :=
 match rawAll S fi.pes args with
 | none=>none
 | some (args1,S1) =>
  match mapO (givArg fi.lf S1 (addArgs fi.lf S1 [] args1)) args1,mapO (givOb S1 (addArgs fi.lf S1 [] args1)) (addArgs fi.lf S1 [] args1) with
  | some args2,some Sin =>
   match G args2 Sin with
   | none=>none
   | some (res,S') =>
    if (lentClean fi.lf S1 args1&&(lentIds fi.lf S1 args1).all (fun i=>!(addArgs fi.lf S1 [] args1).contains i)) &&
     (((fi.soft==sf)&&noLent fi.lf args1&&args2.all fine&&Sin.all fineOb)||(nude res&&S'.all nudeOb)) then
     some (renA (backId (addArgs fi.lf S1 [] args1) S1.length) res,backAll S1 (addArgs fi.lf S1 [] args1) S')
    else none
  | _,_=>none
def evIns (T:Tab)(t:Nat)(args:List AV)(S:St):Option (AV×St) :=
 match T.elemOf t,args with
 | some te,[s,.int .i64 i,.sl vid 0 m] =>
  match isRow S vid with
  | none=>none
  | some vob =>
   if vob.kd=.lit∧vob.sz=te.size∧m=vob.els.length∧0<m then
    match s with
    | .nil=>if i=0 then evAppend T t .nil (.sl vid 0 m) S else none
    | .sl id 0 n =>
     match isRow S id with
     | none=>none
     | some ob =>
      if id≠vid∧ob.sz=te.size∧n=ob.els.length∧0≤i∧i≤(n:Int)∧n+m≤maxRow then
       some (.sl S.length 0 (n+m),(S.set vid none).set id none++[some ⟨.arr,te.size,ob.els.take i.toNat++vob.els++ob.els.drop i.toNat⟩])
      else none
    | _=>none
   else none
 | _,_=>none
def evDel (T:Tab)(t:Nat)(args:List AV)(S:St):Option (AV×St) :=
 match T.elemOf t,args with
 | some te,[.sl id 0 n,.int .i64 i,.int .i64 j] =>
  match isRow S id with
  | none=>none
  | some ob =>
   if ob.sz=te.size∧n=ob.els.length∧0≤i∧i<j∧j≤(n:Int) then
    some (.sl S.length 0 (n-(j.toNat-i.toNat)),S.set id none++[some ⟨.arr,te.size,ob.els.take i.toNat++ob.els.drop j.toNat⟩])
   else none
 | _,_=>none
def tabO {α:Type}(c:α→α→Option Int)(xs:List α):Option (List (List Int)):=mapO (fun a=>mapO (c a) xs) xs
def tabLt (t:List (List Int))(i j:Nat):Bool:=decide ((t.getD i []).getD j 0<0)
def ordOk (n:Nat)(lt:Nat→Nat→Bool):Bool :=
 (List.range n).all fun i=>!lt i i&&(List.range n).all fun j=>(i==j||lt i j||lt j i)&&(List.range n).all fun k=>!(lt i j&&lt j k)||lt i k
def ordIdx (n:Nat)(lt:Nat→Nat→Bool):List Nat:=(List.range n).mergeSort fun i j=>!lt j i
def sortO {α:Type}(d:α)(c:α→α→Option Int)(xs:List α):Option (List α) :=
 match tabO c xs with
 | none=>none
 | some t=>if ordOk xs.length (tabLt t) then some ((ordIdx xs.length (tabLt t)).map fun i=>xs.getD i d) else none
def argRow:Bool→List AV→AV
 | true,r=>.agg (setQL .imm r)
 | false,[c]=>setQ .imm c
 | false,_=>.undef
def cmpAt (F:Nat→List AV→St→Option (AV×St))(g:Nat)(caps:List AV)(ag:Bool)(a b:List AV):Option Int :=
 match F g (argRow ag a::argRow ag b::caps) [] with
 | some (.int .i64 k,[])=>some k
 | _=>none
def evSort (T:Tab)(F:Nat→List AV→St→Option (AV×St))(t:Nat)(args:List AV)(S:St):Option (AV×St) :=
 match T.elemOf t,args with
 | some te,[.sl id 0 n,.fn g caps] =>
  match T.fn g,isRow S id,mapO (lendPtr S) caps with
  | some gi,some ob,some caps' =>
   if gi.kind=0∧gi.soft=false∧T.soft=false∧ob.sz=te.size∧n=ob.els.length∧n≤maxRow∧id∉idsDeep S (.fn g caps) then
    match sortO [] (cmpAt F g caps' te.agg) ob.els with
    | some els=>some (.tup [],S.set id (some { ob with els:=els }))
    | none=>none
   else none
  | _,_,_=>none
 | _,_=>none
def evColl (T:Tab)(t v:Nat)(args:List AV)(S:St):Option (AV×St) :=
 match T.elemOf t,args with
 | some te,[.fn f [.tp .imm 1 [[.ts .imm sz els]] 0 0]] =>
  if f=v∧sz=te.size∧te.agg=true∧te.size≤1024∧els.length≤maxRow then some (.sl S.length 0 els.length,S++[some ⟨.arr,te.size,els.map (·.map (setTop .imm))⟩]) else none
 | _,_=>none
def isSl:AV→Bool
 | .nil | .ts _ _ _ | .sl _ _ _=>true
 | _=>false
def evVals (T:Tab)(t v:Nat)(args:List AV)(S:St):Option (AV×St) :=
 match T.elemOf t,args with
 | some _,[x]=>if isSl x=true then some (.fn v [.ptr S.length 0 0],S++[some ⟨.box,1,[[x]]⟩]) else none
 | _,_=>none
def FnI.vfn (fi:FnI):Nat:=(fi.pes.headD []).headD 0
def evCall (T:Tab)(F:Nat→List AV→St→Option (AV×St))(f:Nat)(args:List AV)(S:St):Option (AV×St) :=
 match T.fn f with
 | none=>none
 | some fi =>
  match fi.kind with
  | 3=>if fi.soft=true∧T.soft=false then none else evCall3 T.soft fi (F f) args S
  | 4=>evIns T fi.given args S
  | 5=>evDel T fi.given args S
  | 6=>evSort T F fi.given args S
  | 7=>evColl T fi.given fi.vfn args S
  | 8=>evVals T fi.given fi.vfn args S
  | _ =>
   if fi.soft=true then none else
   match lendAll S fi.pes args with
   | none=>none
   | some args' =>
    match F f args' [] with
    | none=>none
    | some (res,S') =>
     if fi.tree then
      if S'.length=0 then some ((if args.all (cleanArg S)=true then res else weak res),kill S (args.flatMap (idsDeep S)))
      else if args.all (cleanArg S)=true∧T.soft=false then some (rebaseTop 0 S.length res,kill S (args.flatMap (idsDeep S))++S')
      else none
     else some (rebaseTop 0 S.length res,S++S')
structure Outs where
 S:St
 roots:List Ob
def outCell (tree:Bool)(L:Nat)(o:Outs)(e:Nat):AV→Option (AV×Outs)
 | .nil=>if tree then some (.ts .bor e [],o) else some (.sl (L+o.roots.length) 0 0,{ o with roots:=o.roots++[⟨.arr,e,[]⟩] })
 | .sl id lo n =>
  if tree then match lend1 o.S e (.sl id lo n) with
   | none=>none
   | some c=>some (setTop .bor c,{ o with S:=o.S.set id none })
  else match isRow o.S id with
  | none=>none
  | some ob =>
   if ob.sz=e∧lo+n≤ob.els.length∧(tree=true∨ownOnlyLL (window ob.els lo n)=true) then
    some (.sl (L+o.roots.length) 0 n,{ S:=o.S.set id none,roots:=o.roots++[⟨.arr,e,if tree then (window ob.els lo n).map (·.map (setTop .bor)) else window ob.els lo n⟩] })
   else none
 | .int k n=>some (.int k n,o)
 | .bool b=>some (.bool b,o)
 | .str s=>some (.str s,o)
 | .nilp=>some (.nilp,o)
 | .ts .own _ _=>none
 | .ts _ sz els=>if tree then some (.ts .bor sz els,o) else none
 | .tp .own _ _ _ _=>none
 | .tp _ sz els i j=>if tree then some (.tp .bor sz els i j,o) else none
 | .ptr id i j =>
  if tree then
   match lendPtr o.S (.ptr id i j) with
   | none=>none
   | some c=>some (setTop .bor c,{ o with S:=kill o.S (idsDeep o.S (.ptr id i j)) })
  else none
 | _=>none
def outL (tree:Bool)(L:Nat)(o:Outs):List Nat→List AV→Option (List AV×Outs)
 | _,[]=>some ([],o)
 | [],_::_=>none
 | e::es,c::cs=>match outCell tree L o e c with
  | none=>none
  | some (c',o1)=>match outL tree L o1 es cs with
   | none=>none
   | some (cs',o2)=>some (c'::cs',o2)
def outV (tree:Bool)(L:Nat)(o:Outs)(es:List Nat):AV→Option (AV×Outs)
 | .agg cs=>match outL tree L o es cs with
  | none=>none
  | some (cs',o')=>some (.agg cs',o')
 | c=>match es with
  | [e]=>outCell tree L o e c
  | _=>none
def outs (T:Tab)(tree:Bool)(L:Nat)(fr:Fr)(o:Outs):List ResultVar→List (List Nat)→Option (List AV×Outs)
 | [],_=>some ([],o)
 | .tmp t::rs,es::ess =>
  match outV tree L o es (fr.getD t .undef) with
  | none=>none
  | some (v,o1)=>match outs T tree L fr o1 rs ess with
   | none=>none
   | some (vs,o2)=>some (v::vs,o2)
 | .cell a t::rs,es::ess =>
  match evLoad T t (fr.getD a .undef) o.S with
  | none=>none
  | some c=>match outV tree L o es c with
   | none=>none
   | some (v,o1)=>match outs T tree L fr o1 rs ess with
    | none=>none
    | some (vs,o2)=>some (v::vs,o2)
 | _,_=>none
def tupOf:List AV→AV
 | [v]=>v
 | vs=>.tup vs
def strong1:AV→AV
 | .agg cs=>.agg (cs.map (setQ .imm))
 | v=>setQ .imm v
def strong:AV→AV
 | .tup vs=>.tup (vs.map strong1)
 | v=>strong1 v
def plainOuts (T:Tab)(fr:Fr)(S:St):List ResultVar→Option (List AV)
 | []=>some []
 | .tmp t::rs=>match evO fr (.tmp t),plainOuts T fr S rs with
  | some v,some vs=>some (v::vs)
  | _,_=>none
 | .cell a t::rs=>match evLoad T t (fr.getD a .undef) S with
  | none=>none
  | some c=>match plainOuts T fr S rs with
   | none=>none
   | some vs=>some (c::vs)
def finish (T:Tab)(fi:FnI)(fr:Fr)(S:St):Option (AV×St) :=
 if fi.kind=3 then
  match plainOuts T fr S fi.results with
  | none=>none
  | some vs=>some (tupOf vs,S)
 else
 match outs T fi.tree S.length fr ⟨S,[]⟩ fi.results fi.res with
 | none=>none
 | some (vs,o) =>
  if fi.tree then some (strong (rebaseTop S.length 0 (tupOf vs)),o.roots.map fun ob=>some { ob with els:=setQLL .imm ob.els })
  else some (rebaseTop S.length 0 (tupOf vs),o.roots.map some)
def put (fr:Fr)(dst:Option Nat)(v:AV):Fr :=
 match dst with
 | some d=>fr.set d v
 | none=>fr
def evOp (T:Tab)(C:Nat→List AV→St→Option (AV×St))(o:Op)(fr:Fr)(S:St):Option (AV×St) :=
 match o with
 | .move x | .assign x=>match evO fr x with
  | some v=>some (v,S)
  | none=>none
 | .pick c a b=>match evO fr c with
  | some (.bool true)=>match evO fr a with
   | some v=>some (v,S)
   | none=>none
  | some (.bool false)=>match evO fr b with
   | some v=>some (v,S)
   | none=>none
  | _=>none
 | .alloc t=>match T.ty t with
  | some ti=>some (.ptr S.length 0 0,S++[some ⟨.box,ti.size,[ti.zero]⟩])
  | none=>none
 | .box t x=>match T.ty t,evO fr x with
  | some ti,some v=>if v.cells.length=ti.size then some (.ptr S.length 0 0,S++[some ⟨.box,ti.size,[v.cells]⟩]) else none
  | _,_=>none
 | .build t parts=>match T.ty t,evParts fr parts.toList with
  | some ti, some ps => if ti.agg = true ∧ 0 < ti.fields.length then match fillAgg ti.fields ti.zero ps with
      | some cs=>some (.agg cs,S)
      | none=>none
   else none
  | _,_=>none
 | .buildSlice t len parts=>match T.elemOf t,evParts fr parts.toList with
  | some te, some ps => if len * te.size ≤ 1024 then match fillRow te.es te.size (List.replicate len (zeroRow te)) S ps with
      | none=>none
      | some (els,S1)=>some (.sl S1.length 0 len,S1++[some ⟨.lit,te.size,els⟩])
   else none
  | _,_=>none
 | .load t a=>match evO fr a with
  | some v=>match evLoad T t v S with
   | some c=>some (c,S)
   | none=>none
  | none=>none
 | .store t a x=>match evO fr a,evO fr x with
  | some av,some v=>match evStore T t av v S with
   | some S'=>some (.undef,S')
   | none=>none
  | _,_=>none
 | .nilCheck x=>match evO fr x with
  | some (.ptr id i j)=>some (.ptr id i j,S)
  | some (.tp q sz els i j)=>some (.tp q sz els i j,S)
  | some (.fn f caps)=>some (.fn f caps,S)
  | _=>none
 | .binOp op xt x y _=>match evO fr x,evO fr y with
  | some a,some b=>match evBin T op xt a b with
   | some v=>some (v,S)
   | none=>none
  | _,_=>none
 | .unOp op _ x=>match evO fr x with
  | some a=>match evUn op a with
   | some v=>some (v,S)
   | none=>none
  | none=>none
 | .convert src dst x=>match T.ty src,T.ty dst,evO fr x with
  | some si,some di,some (.int _ n)=>match si.base,di.base with
   | .int _,.int k=>some (.int k (k.wrap n),S)
   | _,_=>none
  | _,_,_=>none
 | .makeFunc (.func f) first caps => if first.size = 0 then match evArgs fr caps.toList with
     | some cs=>some (.fn f cs,S)
     | none=>none
  else none
 | .makeSlice t l c=>match T.elemOf t,evO fr l,evO fr c with
  | some te,some (.int _ ln),some (.int _ cn)=>if 0≤ln∧ln≤cn∧cn≤maxRow then some (.sl S.length 0 ln.toNat,S++[some ⟨.arr,te.size,List.replicate ln.toNat (zeroRow te)⟩]) else none
  | _,_,_=>none
 | .slice t x lo hi none=>match evO fr x,evOpt fr lo,evOpt fr hi with
  | some (.str s), some l, some h => if T.baseOf t = .str then
      match bounds s.size l h with
      | some (a,b)=>some (.str (s.extract a b),S)
      | none=>none
   else none
  | some .nil,some l,some h=>match T.elemOf t,bounds 0 l h with
   | some _,some _=>some (.nil,S)
   | _,_=>none
  | some (.sl id lo0 n),some l,some h=>match T.elemOf t,isRow S id,bounds n l h with
   | some te,some ob,some (a,b)=>if ob.sz=te.size then some (.sl id (lo0+a) (b-a),S) else none
   | _,_,_=>none
  | some (.ts q sz els),some l,some h=>match T.elemOf t,bounds els.length l h with
   | some te,some (a,b)=>if sz=te.size then some (.ts q sz ((els.take b).drop a),S) else none
   | _,_=>none
  | _,_,_=>none
 | .fieldAddr t x f=>match T.ty t,evO fr x with
  | some ti,some a=>match ti.fields[f]?,a with
   | some (off,size,_),.ptr id i j=>if size=0 then none else some (.ptr id i (j+off),S)
   | some (off,size,_),.tp q sz els i j=>if size=0 then none else some (.tp q sz els i (j+off),S)
   | _,_=>none
  | _,_=>none
 | .field t x f=>match T.ty t,evO fr x with
  | some ti,some (.agg cs)=>match ti.fields[f]? with
   | some (off, size, ag) => if off + size ≤ cs.length then
       if ag then some (.agg ((cs.drop off).take size),S)
       else match cs[off]? with
        | some c=>some (c,S)
        | none=>none
    else none
   | none=>none
  | _,_=>none
 | .indexAddr t x ix=>match T.elemOf t,evO fr x,evO fr ix with
  | some te,some (.sl id lo n),some (.int _ i)=>match isRow S id with
   | some ob=>if ob.sz=te.size∧0≤i∧i<(n:Int) then some (.ptr id (lo+i.toNat) 0,S) else none
   | none=>none
  | some te,some (.ts q sz els),some (.int _ i)=>if sz=te.size∧0≤i∧i<(els.length:Int) then some (.tp q sz els i.toNat 0,S) else none
  | _,_,_=>none
 | .index t x ix=>match evO fr x,evO fr ix with
  | some (.str s), some (.int _ i) => if T.baseOf t = .str ∧ 0 ≤ i then match s[i.toNat]? with
      | some b=>some (.int .u8 b.toNat,S)
      | none=>none
   else none
  | _,_=>none
 | .extract x i=>match evO fr x with
  | some (.tup vs)=>match vs[i]? with
   | some v=>some (v,S)
   | none=>none
  | _=>none
 | .call c=>match c.callee with
  | .builtin b=>match evArgs fr c.args.toList with
   | some vs=>evBuiltin T b c.argTypes.toList vs S
   | none=>none
  | .value x=>match evO fr x,evArgs fr c.args.toList with
   | some (.fn f caps),some vs=>C f (vs++caps) S
   | _,_=>none
  | .invoke _ _=>none
 | _=>none
def want (fr:Fr):Option (Nat×Bool)→Bool
 | none=>true
 | some (d,w)=>match fr[d]? with
  | some (.bool b)=>b==w
  | _=>false
def known (fr:Fr):Option (Nat×Bool)→Bool
 | none=>true
 | some (d,_)=>match fr[d]? with
  | some .any=>false
  | _=>true
def evOps (T:Tab)(C:Nat→List AV→St→Option (AV×St)):List PO→Fr→St→Option (Fr×St)
 | [],fr,S=>some (fr,S)
 | o::r,fr,S =>
  if known fr o.guard then
   if want fr o.guard then
    match evOp T C o.op fr S with
    | none=>none
    | some (v,S')=>evOps T C r (put fr o.dst v) S'
   else evOps T C r (put fr o.dst .undef) S
  else none
structure Opn where
 id:Nat
 i:Nat
 j:Nat
 ob:Ob
 row:List AV
 sz:Nat
 els:List (List AV)
def evOpen (T:Tab)(t:Nat)(a:AV)(S:St):Option Opn :=
 match T.ty t,a with
 | some ti,.ptr id i j =>
  if T.soft=true∧ti.agg=false then match isRow S id with
   | none=>none
   | some ob=>match ob.els[i]? with
    | none=>none
    | some row=>match row[j]? with
     | some (.ts .own sz els)=>some ⟨id,i,j,ob,row,sz,els⟩
     | _=>none
  else none
 | _,_=>none
def Opn.st (q:Opn)(S:St):St:=S.set q.id none++[some ⟨.arr,q.sz,q.els⟩]
def evShut (q:Opn)(N:Nat)(S:St):Option St :=
 match isRow S N with
 | none=>none
 | some ob=>if ob.sz=q.sz∧ob.els.length=q.els.length then some ((S.set N none).set q.id (some { q.ob with els:=q.ob.els.set q.i (q.row.set q.j (.ts .own q.sz ob.els)) })) else none
def loadOf:Option PO→Option (Nat×Nat×Nat)
 | some ⟨some d,.load t (.tmp x),none⟩=>some (d,t,x)
 | _=>none
def evNest (T:Tab)(C:Nat→List AV→St→Option (AV×St))(l:List PO)(k m:Nat)(fr:Fr)(S:St):Option (Fr×St) :=
 match evOps T C (l.take k) fr S,loadOf l[k]? with
 | some p,some u=>match evOpen T u.2.1 (p.1.getD u.2.2 .undef) p.2 with
  | none=>none
  | some q=>match evOps T C ((l.drop (k+1)).take m) (p.1.set u.1 (.sl p.2.length 0 q.els.length)) (q.st p.2) with
   | none=>none
   | some r=>match evShut q p.2.length r.2 with
    | none=>none
    | some S4=>evOps T C (l.drop (k+1+m)) r.1 S4
 | _,_=>none
def freeze (Sr:St)(res:List (List Nat)):AV→Option AV
 | .tup vs=>match lendAll Sr res vs with
  | some vs'=>some (.tup vs')
  | none=>none
 | v=>match res with
  | [es]=>lend Sr es v
  | _=>none
def evCallFz (T:Tab)(F:Nat→List AV→St→Option (AV×St))(f:Nat)(args:List AV)(S:St):Option (AV×St) :=
 match T.fn f with
 | none=>none
 | some fi =>
  if fi.kind=3∨fi.tree=true∨fi.soft=true then none else
  match lendAll S fi.pes args with
  | none=>none
  | some args' =>
   match F f args' [] with
   | none=>none
   | some (res,Sr) =>
    match freeze Sr fi.res res with
    | none=>none
    | some v=>some (v,S)
structure TrE where
 fr:Fr
 S:St
 v:AV
def evAt (T:Tab)(r:Nat)(o:Op)(fr:Fr)(S:St):Option (AV×St) :=
 match getOb S r with
 | some _=>none
 | none=>if r<S.length then match o with
  | .alloc t=>match T.ty t with
   | some ti=>some (.ptr r 0 0,S.set r (some ⟨.box,ti.size,[ti.zero]⟩))
   | none=>none
  | .box t x=>match T.ty t,evO fr x with
   | some ti,some v=>if v.cells.length=ti.size then some (.ptr r 0 0,S.set r (some ⟨.box,ti.size,[v.cells]⟩)) else none
   | _,_=>none
  | .buildSlice t len parts=>match T.elemOf t,evParts fr parts.toList with
   | some te, some ps => if len * te.size ≤ 1024 then match fillRow te.es te.size (List.replicate len (zeroRow te)) S ps with
       | none=>none
       | some (els,S1)=>some (.sl r 0 len,S1.set r (some ⟨.lit,te.size,els⟩))
    else none
   | _,_=>none
  | _=>none
 else none
def evOpX (T:Tab)(C:Nat→List AV→St→Option (AV×St))(b:Nat)(r:Option Nat)(o:Op)(fr:Fr)(S:St):Option (AV×St) :=
 match r with
 | none=>evOp T C o fr S
 | some j=>evAt T (b+j) o fr S
def trc (T:Tab)(C:Nat→List AV→St→Option (AV×St))(b:Nat):List PO→List (Option Nat)→Fr→St→Option (List TrE×Fr×St)
 | [],_,fr,S=>some ([],fr,S)
 | _::_,[],_,_=>none
 | o::r,x::xs,fr,S =>
  if known fr o.guard then
   if want fr o.guard then
    match evOpX T C b x o.op fr S with
    | none=>none
    | some (v,S')=>match trc T C b r xs (put fr o.dst v) S' with
     | none=>none
     | some (t,fr',S'')=>some (⟨fr,S,v⟩::t,fr',S'')
   else match trc T C b r xs (put fr o.dst .undef) S with
    | none=>none
    | some (t,fr',S'')=>some (⟨fr,S,.undef⟩::t,fr',S'')
  else none
def preSts (t:List TrE)(Sf:St):List Nat→List St
 | []=>[Sf]
 | i::r=>(match t[i]? with | some e=>e.S | none=>Sf)::preSts t Sf r
def stepAt (T:Tab)(C:Nat→List AV→St→Option (AV×St))(b:Nat)(l:List PO)(R:List (Option Nat))(t:List TrE)(i:Nat)(S:St):Option (AV×St) :=
 match l[i]?,t[i]? with
 | some o,some e=>if want e.fr o.guard then evOpX T C b (R.getD i none) o.op e.fr S else some (.undef,S)
 | _,_=>none
def moreSts (T:Tab)(C:Nat→List AV→St→Option (AV×St))(b:Nat)(l:List PO)(R:List (Option Nat))(t:List TrE):List (Nat×Nat)→List St→Option (List St)
 | [],Ss=>some Ss
 | (k,i)::r,Ss=>match stepAt T C b l R t i (Ss.getD k []) with
  | none=>none
  | some (_,S)=>moreSts T C b l R t r (Ss++[S])
open Classical in
noncomputable def chkAt (T:Tab)(C:Nat→List AV→St→Option (AV×St))(b:Nat)(l:List PO)(R:List (Option Nat))(t:List TrE)(Ss:List St):List (Nat×Nat×Nat)→Option Unit
 | []=>some ()
 | (i,k,k')::r=>match stepAt T C b l R t i (Ss.getD k []) with
  | none=>none
  | some q=>match t[i]? with
   | none=>none
   | some e=>if q=(e.v,Ss.getD k' []) then chkAt T C b l R t Ss r else none
noncomputable def evFx (T:Tab)(C:Nat→List AV→St→Option (AV×St))(l:List PO)(x:FxI)(fr:Fr)(S:St):Option (Fr×St) :=
 match trc T C S.length l x.R fr (S++List.replicate x.n none) with
 | none=>none
 | some (t,fr',S')=>match moreSts T C S.length l x.R t x.G (preSts t S' x.E) with
  | none=>none
  | some Ss=>match chkAt T C S.length l x.R t Ss x.Q with
   | none=>none
   | some _=>some (fr',S')
inductive Rs where
 | row (id lo:Nat) (n:Option Nat)
 | nil (e:Nat)
def cellAt (v:AV)(c:Nat):AV :=
 match v with
 | .agg cs=>cs.getD c .undef
 | .fn _ cs=>cs.getD c .undef
 | v=>v
def winRs:AV→Option Rs
 | .sl id lo n=>some (.row id lo (some n))
 | _=>none
def rsOf (fr:Fr)(S:St):Org→Option Rs
 | .old id=>some (.row id 0 none)
 | .winT t c=>winRs (cellAt (fr.getD t .undef) c)
 | .winB id c=>match getOb S id with
  | some ob=>winRs (cellAt (.agg ob.els.flatten) c)
  | none=>none
 | .nilT _ _ e=>some (.nil e)
 | .nilB _ _ e=>some (.nil e)
def rsSl:List Rs→Nat→Nat→Nat→Nat→Option (Nat×Nat)
 | [],_,_,_,_=>none
 | .row id' lo' m::R,k,id,lo,n =>
  if id'=id then match m with
   | none=>some (k,lo)
   | some n'=>if lo'=lo∧n'=n then some (k,0) else none
  else rsSl R (k+1) id lo n
 | .nil _::R,k,id,lo,n=>rsSl R (k+1) id lo n
def rsPtr:List Rs→Nat→Nat→Option Nat
 | [],_,_=>none
 | .row id' _ m::R,k,id =>
  if id'=id then match m with
   | none=>some k
   | some _=>none
  else rsPtr R (k+1) id
 | .nil _::R,k,id=>rsPtr R (k+1) id
def rsFree (id:Nat):List Rs→Bool
 | []=>true
 | .row id' _ _::r=>decide (id'≠id)&&rsFree id r
 | .nil _::r=>rsFree id r
def nilAt (tm:Bool)(a c:Nat):List Org→Nat→Option Nat
 | [],_=>none
 | .nilT t c' _::r,k=>if tm=true∧t=a∧c'=c then some k else nilAt tm a c r (k+1)
 | .nilB t c' _::r,k=>if tm=false∧t=a∧c'=c then some k else nilAt tm a c r (k+1)
 | _::r,k=>nilAt tm a c r (k+1)
def tdC (n0:Nat)(src:List Org)(R:List Rs)(tm:Bool)(a c:Nat):AV→Option AV
 | .nil=>match nilAt tm a c src n0 with
  | some k=>some (.sl k 0 0)
  | none=>some .nil
 | .sl id lo n=>if id<n0∧rsFree id R=true then some (.sl id lo n) else match rsSl R n0 id lo n with
  | some (k,lo')=>some (.sl k lo' n)
  | none=>none
 | .ptr id i j=>if id<n0∧rsFree id R=true then some (.ptr id i j) else match rsPtr R n0 id with
  | some k=>some (.ptr k i j)
  | none=>none
 | .agg _ | .tup (_::_) | .fn _ (_::_)=>none
 | v=>some v
def tdL (n0:Nat)(src:List Org)(R:List Rs)(tm:Bool)(a:Nat):Nat→List AV→Option (List AV)
 | _,[]=>some []
 | c,v::r=>match tdC n0 src R tm a c v with
  | none=>none
  | some v'=>match tdL n0 src R tm a (c+1) r with
   | none=>none
   | some r'=>some (v'::r')
def tdV (n0:Nat)(src:List Org)(R:List Rs)(t:Nat):AV→Option AV
 | .agg cs=>match tdL n0 src R true t 0 cs with
  | none=>none
  | some cs'=>some (.agg cs')
 | .fn f cs=>match tdL n0 src R true t 0 cs with
  | none=>none
  | some cs'=>some (.fn f cs')
 | v=>tdC n0 src R true t 0 v
def tdFr (n0:Nat)(src:List Org)(R:List Rs)(fr:Fr):List Nat→Fr→Option Fr
 | [],f=>some f
 | t::r,f=>match tdV n0 src R t (fr.getD t .undef) with
  | none=>none
  | some v=>tdFr n0 src R fr r (f.set t v)
def tdEls (n0:Nat)(src:List Org)(R:List Rs)(id:Nat):Nat→List (List AV)→Option (List (List AV))
 | _,[]=>some []
 | c,r::rs=>match tdL n0 src R false id c r with
  | none=>none
  | some r'=>match tdEls n0 src R id (c+r.length) rs with
   | none=>none
   | some rs'=>some (r'::rs')
def tdOb (n0:Nat)(src:List Org)(R:List Rs)(id:Nat)(ob:Ob):Option Ob :=
 if ob.kd=.box then match tdEls n0 src R id 0 ob.els with
  | none=>none
  | some els=>some { ob with els:=els }
 else some { ob with kd:=.arr }
def tdLow (n0:Nat)(D:List Nat)(src:List Org)(R:List Rs)(S:St):Nat→Option St
 | 0=>some []
 | k+1=>match tdLow n0 D src R S k with
  | none=>none
  | some S'=>if D.elem k=true∨rsFree k R=false then some (S'++[none]) else match getOb S k with
   | none=>some (S'++[none])
   | some ob=>match tdOb n0 src R k ob with
    | none=>none
    | some ob'=>some (S'++[some ob'])
def tdHigh (n0:Nat)(src:List Org)(R:List Rs)(S:St):List Rs→Option St
 | []=>some []
 | .nil e::r=>match tdHigh n0 src R S r with
  | none=>none
  | some S'=>some (some ⟨.arr,e,[]⟩::S')
 | .row id lo m::r=>match getOb S id with
  | none=>none
  | some ob=>match tdOb n0 src R id ob,tdHigh n0 src R S r with
   | some ob',some S'=>match m with
    | none=>if lo=0 then some (some ob'::S') else none
    | some n=>if lo+n≤ob.els.length∧ob.kd≠.box then some (some { ob' with els:=window ob'.els lo n }::S') else none
   | _,_=>none
def rsOk:List Rs→Bool
 | []=>true
 | .nil _::r=>rsOk r
 | .row id _ _::r=>rsFree id r&&rsOk r
def tidy0 (n0:Nat)(h:Hint)(fr:Fr)(S:St):Option (Fr×St) :=
 match mapO (rsOf fr S) h.rows with
 | none=>none
 | some R =>
  if rsOk R then
   match tdFr n0 h.rows R fr h.keep (List.replicate fr.length .any),tdLow n0 h.drop h.rows R S n0,tdHigh n0 h.rows R S R with
   | some fr',some A,some B=>some (fr',A++B)
   | _,_,_=>none
  else none
def evFrz (S:St)(id c e:Nat):Option St :=
 match getOb S id with
 | some ob => if ob.kd = .box then match ob.els with
     | [row]=>match row[c]? with
      | some (.ptr id2 i j)=>if id∈idsDeep S (.ptr id2 i j) then none else match lendPtr S (.ptr id2 i j) with
       | some d=>some ((kill S (idsDeep S (.ptr id2 i j))).set id (some { ob with els:=[row.set c (setTop (if cleanPtr S (.ptr id2 i j)=true then .imm else .bor) d)] }))
       | none=>none
      | some .nil=>some (S.set id (some { ob with els:=[row.set c (.ts .imm e [])] }))
      | some (.sl id2 lo n)=>if id=id2 then none else match lend1 S e (.sl id2 lo n) with
       | some d=>some ((S.set id2 none).set id (some { ob with els:=[row.set c (setTop (if cleanCell S (.sl id2 lo n)=true then .imm else .bor) d)] }))
       | none=>none
      | _=>none
     | _=>none
  else none
 | none=>none
def evFrt (fr:Fr)(S:St)(t e:Nat):Option (Fr×St) :=
 match fr.getD t .undef with
 | .nil=>some (fr.set t (.ts .imm e []),S)
 | .sl id lo n=>match lend1 S e (.sl id lo n) with
  | some d=>some (fr.set t (setTop (if cleanCell S (.sl id lo n)=true then .imm else .bor) d),S.set id none)
  | none=>none
 | .ts .imm sz els=>if sz=e then some (fr.set t (.ts .imm sz els),S) else none
 | _=>none
def evFrzs (fr:Fr)(S:St):List (Nat×Nat×Nat)→Option (Fr×St)
 | []=>some (fr,S)
 | p :: r => if p.2.1 = 4294967296 then match evFrt fr S p.1 p.2.2 with
     | none=>none
     | some q=>evFrzs q.1 q.2 r
  else match evFrz S p.1 p.2.1 p.2.2 with
  | none=>none
  | some S1=>evFrzs fr S1 r
def tidy (n0:Nat)(h:Hint)(fr:Fr)(S:St):Option (Fr×St) :=
 match evFrzs fr S h.frz with
 | none=>none
 | some q=>tidy0 n0 h q.1 q.2
def ambWay:AV→Option Bool
 | .ts _ _ []=>some true
 | .ts _ _ (_::_)=>some false
 | .sl _ _ 0=>some true
 | .sl _ _ (_+1)=>some false
 | _=>none
def ambOps (l:List PO):Option (PO×PO) :=
 match l with
 | [p,q]=>some (p,q)
 | _=>none
def ambAt (T:Tab)(p:PO)(x:Operand)(fr:Fr):Option (Nat×Bool) :=
 match p.op,p.dst,p.guard,x with
 | .binOp .eql t (.tmp s) (.const (.slice none 0 0)) _,some d,none,.tmp d' =>
  if d'=d then match T.ty t,ambWay (fr.getD s .undef) with
   | some ti,some w=>if ti.elem≠0∧d<fr.length then some (d,w) else none
   | _,_=>none
  else none
 | _,_,_,_=>none
open Classical in
noncomputable def both (w:Bool)(r s:Option (Ex×Fr×St)):Option (Ex×Fr×St) :=
 if w=true then (if r=s then r else none) else s
def norm (r:Option (Fr×St)):Option (Ex×Fr×St) :=
 match r with
 | some (fr',S')=>some (.normal,fr',S')
 | none=>none
noncomputable def evC (T:Tab)(F:Nat→List AV→St→Option (AV×St)):Nat→Nat→PC→Fr→St→Option (Ex×Fr×St)
 | 0,_,_,_,_=>none
 | k+1,m,c,fr,S =>
  match c with
  | .bad=>none
  | .skip=>some (.normal,fr,S)
  | .reg l=>norm (evOps T (evCall T F) l fr S)
  | .nest l k m=>norm (evNest T (evCall T F) l k m fr S)
  | .fz l=>norm (evOps T (evCallFz T F) l fr S)
  | .fx l x=>norm (evFx T (evCall T F) l x fr S)
  | .pre h a=>match tidy m h fr S with
   | some (fr',S')=>evC T F k m a fr' S'
   | none=>none
  | .post a h=>match evC T F k m a fr S with
   | some (.normal,fr',S')=>norm (tidy m h fr' S')
   | r=>r
  | .seq a b=>match evC T F k m a fr S with
   | some (.normal,fr',S')=>evC T F k m b fr' S'
   | r=>r
  | .cond x a b=>match evO fr x with
   | some (.bool true)=>evC T F k m a fr S
   | some (.bool false)=>evC T F k m b fr S
   | _=>none
  | .block id b=>match evC T F k m b fr S with
   | some (.exit i,fr',S')=>if i=id then some (.normal,fr',S') else some (.exit i,fr',S')
   | r=>r
  | .loop b=>match evC T F k m b fr S with
   | some (.normal,fr',S')=>evC T F k m (.loop b) fr' S'
   | r=>r
  | .exit id=>some (.exit id,fr,S)
  | .ret=>some (.ret,fr,S)
  | .amb l x a b=>match ambOps l with
   | none=>none
   | some pp=>match evOps T (evCall T F) [pp.1] fr S with
    | none=>none
    | some q=>match ambAt T pp.2 x q.1 with
     | none=>none
     | some u=>both u.2 (evC T F k m a (q.1.set u.1 .any) q.2) (evC T F k m b (q.1.set u.1 .any) q.2)
def args0 (fi:FnI)(args:List AV):Fr:=args++List.replicate (fi.ntmps-args.length) .undef
def close (T:Tab)(fi:FnI)(r:Option (Ex×Fr×St)):Option (AV×St) :=
 match r with
 | some (.normal,fr,S)=>finish T fi fr S
 | some (.ret,fr,S)=>finish T fi fr S
 | _=>none
noncomputable def evF (T:Tab):Nat→Nat→List AV→St→Option (AV×St)
 | 0,_,_,_=>none
 | k+1,f,args,S0 =>
  match T.fn f with
  | none=>none
  | some fi=>if args.length≤fi.ntmps∧S0.length=fi.given∧(fi.kind=3∨fi.given=0)∧(fi.soft=true→fi.tree=false) then close (T.at fi.soft) fi (evC (T.at fi.soft) (evF T k) k fi.given fi.body (args0 fi args) S0) else none
end Go.Pi

namespace Go.Pi
open Go
inductive All2 {α β:Type} (R:α→β→Prop):List α→List β→Prop
 | nil:All2 R [] []
 | cons {a:α} {b:β} {as:List α} {bs:List β} (h:R a b) (t:All2 R as bs):All2 R (a::as) (b::bs)
structure Info where
 g:Nat
 o:Nat
 sz:Nat
 size:Nat
structure Cx where
 N:Nat
 root:Nat→Option Nat
 par:Nat→Option (Nat×Nat)
 φ:Nat→Option Info
 pro:Nat→Prop      
 soft:Prop           
def Cx.isRoot (X:Cx)(b:Nat):Prop:=X.root b≠none∧(X.par b=none∨X.soft)
theorem Cx.soft_root {X:Cx}(hs:X.soft){b:Nat}(h:¬X.isRoot b):X.root b=none:=Classical.byContradiction fun hn=>h ⟨hn,.inr hs⟩
theorem Cx.firm_par {X:Cx}(hs:¬X.soft){b:Nat}(h:X.isRoot b):X.par b=none:=h.2.resolve_right hs
def Cx.ok (X:Cx):Ql→Nat→Prop
 | .imm,b=>X.root b=none∧¬X.pro b
 | _,b=>¬X.isRoot b∧¬X.pro b
def at2 (els:List (List AV))(i j:Nat):AV:=(els.getD i []).getD j .undef
inductive Rd (w:World) (ok:Nat→Prop):AV→Value→Prop
 | int (k:IntKind) (n:Int):Rd w ok (.int k n) (.int k n)
 | bool (b:Bool):Rd w ok (.bool b) (.bool b)
 | str (s:ByteArray):Rd w ok (.str s) (.string s)
 | nil:Rd w ok .nil (.slice none 0 0)
 | nilp:Rd w ok .nilp (.pointer none)
 | fn (f:Nat):Rd w ok (.fn f []) (.func (.func f) #[] #[])
 | ts (q : Ql) (sz : Nat) (els : List (List AV)) (A : Option Addr) (cap g o : Nat) (c : Nat → Nat → Value)
     (hrow:∀r∈els,r.length=sz) (hcap:els.length≤cap) (hA:0<els.length→A=some ⟨g,o,none⟩∧ok g∧g<w.heap.size)
     (hc:∀i j,i<els.length→j<sz→w.cell? ⟨g,o+i*sz+j,none⟩=some (c i j))
     (h:∀i j,i<els.length→j<sz→Rd w ok (at2 els i j) (c i j)):Rd w ok (.ts q sz els) (.slice A els.length cap)
 | tp (q : Ql) (sz : Nat) (els : List (List AV)) (i₀ j₀ g o : Nat) (c : Nat → Nat → Value)
     (hrow:∀r∈els,r.length=sz) (hA:ok g∧g<w.heap.size)
     (hc:∀i j,i<els.length→j<sz→w.cell? ⟨g,o+i*sz+j,none⟩=some (c i j))
     (h:∀i j,i<els.length→j<sz→Rd w ok (at2 els i j) (c i j)):Rd w ok (.tp q sz els i₀ j₀) (.pointer (some ⟨g,o+i₀*sz+j₀,none⟩))
theorem World.cell?_heap {w w':World}{a:Addr}(h:w'.heap[a.block]?=w.heap[a.block]?):w'.cell? a=w.cell? a:=by
 unfold World.cell?;rw [h]
theorem cell_lt {w:World}{g o:Nat}{v:Value}(h:w.cell? ⟨g,o,none⟩=some v):g<w.heap.size:=World.block_lt_of_cell? w ⟨g,o,none⟩ h
theorem Rd.keep {w w':World}{ok ok':Nat→Prop}(hsz:w.heap.size≤w'.heap.size)(H:∀b,b<w.heap.size→ok b→w'.heap[b]?=w.heap[b]?∧ok' b)
    {av:AV} {v:Value} (h:Rd w ok av v):Rd w' ok' av v:=by
 induction h with
 | int k n=>exact .int k n
 | bool b=>exact .bool b
 | str s=>exact .str s
 | nil=>exact .nil
 | nilp=>exact .nilp
 | fn f=>exact .fn f
 | ts q sz els A cap g o c hrow hcap hA hc _ ih =>
  refine .ts q sz els A cap g o c hrow hcap (fun hn=>?_) (fun i j hi hj=>?_) ih
  · obtain ⟨h1,h2,h3⟩:=hA hn;exact ⟨h1,(H g h3 h2).2,Nat.lt_of_lt_of_le h3 hsz⟩
  · obtain ⟨h1,h2,h3⟩:=hA (by omega)
    rw [World.cell?_heap (w:=w) (H g h3 h2).1];exact hc i j hi hj
 | tp q sz els i₀ j₀ g o c hrow hA hc _ ih =>
  obtain ⟨h2,h3⟩:=hA
  refine .tp q sz els i₀ j₀ g o c hrow ⟨(H g h3 h2).2,Nat.lt_of_lt_of_le h3 hsz⟩ (fun i j hi hj=>?_) ih
  rw [World.cell?_heap (w:=w) (H g h3 h2).1];exact hc i j hi hj
theorem Rd.setTop {w:World}{ok:Nat→Prop}{q:Ql}{av:AV}{v:Value}(h:Rd w ok av v):Rd w ok (setTop q av) v:=by
 cases h with
 | ts q sz els A cap g o c hrow hcap hA hc h=>exact .ts _ sz els A cap g o c hrow hcap hA hc h
 | tp q sz els i₀ j₀ g o c hrow hA hc h=>exact .tp _ sz els i₀ j₀ g o c hrow hA hc h
 | int k n=>exact .int k n
 | bool b=>exact .bool b
 | str s=>exact .str s
 | nil=>exact .nil
 | nilp=>exact .nilp
 | fn f=>exact .fn f
theorem setQL_eq (q:Ql)(l:List AV):setQL q l=l.map (setQ q):=by
 induction l with
 | nil=>rfl
 | cons a l ih=>simp [setQL,ih]
theorem setQLL_eq (q:Ql)(l:List (List AV)):setQLL q l=l.map (·.map (setQ q)):=by
 induction l with
 | nil=>rfl
 | cons a l ih=>simp [setQLL,ih,setQL_eq]
theorem at2_map (f:AV→AV)(els:List (List AV)){i j sz:Nat}(hrow:∀r∈els,r.length=sz)(hi:i<els.length)(hj:j<sz) :
    at2 (els.map (·.map f)) i j=f (at2 els i j):=by
 have hr:els[i].length=sz:=hrow _ (List.getElem_mem hi);simp [at2,List.getD_eq_getElem?_getD,hi,hr,hj]
theorem rows_map (f:AV→AV)(els:List (List AV)){sz:Nat}(hrow:∀r∈els,r.length=sz):∀r∈els.map (·.map f),r.length=sz:=by
 intro r hr;obtain ⟨r',h',rfl⟩:=List.mem_map.1 hr;simpa using hrow r' h'
theorem Rd.setQ {w:World}{ok:Nat→Prop}{q:Ql}{av:AV}{v:Value}(h:Rd w ok av v):Rd w ok (setQ q av) v:=by
 induction h with
 | int k n=>exact .int k n
 | bool b=>exact .bool b
 | str s=>exact .str s
 | nil=>exact .nil
 | nilp=>exact .nilp
 | fn f=>exact .fn f
 | ts q' sz els A cap g o c hrow hcap hA hc _ ih =>
  simp only [Pi.setQ,setQLL_eq]
  have e:els.length=(els.map (·.map (Pi.setQ q))).length:=by simp
  rw [e]
  refine .ts q sz _ A cap g o c (rows_map _ _ hrow) (by simpa using hcap) (by simpa using hA) (by simpa using hc) (fun i j hi hj=>?_)
  rw [at2_map _ _ hrow (by simpa using hi) hj]
  exact ih i j (by simpa using hi) hj
 | tp q' sz els i₀ j₀ g o c hrow hA hc _ ih =>
  simp only [Pi.setQ,setQLL_eq]
  refine .tp q sz _ i₀ j₀ g o c (rows_map _ _ hrow) hA (by simpa using hc) (fun i j hi hj=>?_)
  rw [at2_map _ _ hrow (by simpa using hi) hj]
  exact ih i j (by simpa using hi) hj
inductive VR (w:World) (X:Cx):AV→Value→Prop
 | int (k:IntKind) (n:Int):VR w X (.int k n) (.int k n)
 | bool (b:Bool):VR w X (.bool b) (.bool b)
 | str (s:ByteArray):VR w X (.str s) (.string s)
 | nil:VR w X .nil (.slice none 0 0)
 | nilp:VR w X .nilp (.pointer none)
 | fn (f : Nat) (caps : List AV) (cv : List Value) (hl : caps.length = cv.length)
     (h:∀i,i<caps.length→VR w X (caps.getD i .undef) (cv.getD i Go.undef)):VR w X (.fn f caps) (.func (.func f) #[] cv.toArray)
 | agg (cs : List AV) (cv : List Value) (hl : cs.length = cv.length)
     (h:∀i,i<cs.length→VR w X (cs.getD i .undef) (cv.getD i Go.undef)):VR w X (.agg cs) (.agg cv.toArray)
 | tup (cs : List AV) (cv : List Value) (hl : cs.length = cv.length)
     (h:∀i,i<cs.length→VR w X (cs.getD i .undef) (cv.getD i Go.undef)):VR w X (.tup cs) (.tuple cv.toArray)
 | ts (q:Ql) (hq:q≠.own) (sz:Nat) (els:List (List AV)) (v:Value) (h:Rd w (X.ok q) (.ts q sz els) v):VR w X (.ts q sz els) v
 | tp (q:Ql) (hq:q≠.own) (sz:Nat) (els:List (List AV)) (i j:Nat) (v:Value) (h:Rd w (X.ok q) (.tp q sz els i j) v):VR w X (.tp q sz els i j) v
 | sl (id lo n cap : Nat) (I : Info) (hid : id < X.N) (hI : X.φ id = some I) (hn : n ≤ cap) (hc : I.o + (lo + cap) * I.sz ≤ I.size) (hm : cap ≤ maxLen) :
     VR w X (.sl id lo n) (.slice (some ⟨I.g,I.o+lo*I.sz,none⟩) n cap)
 | slz (id lo:Nat) (A:Option Addr) (hid:id<X.N):VR w X (.sl id lo 0) (.slice A 0 0)
 | ptr (id i j:Nat) (I:Info) (hid:id<X.N) (hI:X.φ id=some I):VR w X (.ptr id i j) (.pointer (some ⟨I.g,I.o+i*I.sz+j,none⟩))
inductive CR (w:World) (X:Cx) (rid:Nat):Nat×Nat→AV→Value→Prop
 | int (loc:Nat×Nat) (k:IntKind) (n:Int):CR w X rid loc (.int k n) (.int k n)
 | bool (loc:Nat×Nat) (b:Bool):CR w X rid loc (.bool b) (.bool b)
 | str (loc:Nat×Nat) (s:ByteArray):CR w X rid loc (.str s) (.string s)
 | nil (loc:Nat×Nat):CR w X rid loc .nil (.slice none 0 0)
 | nilp (loc:Nat×Nat):CR w X rid loc .nilp (.pointer none)
 | fn (loc:Nat×Nat) (f:Nat):CR w X rid loc (.fn f []) (.func (.func f) #[] #[])
 | ts (loc:Nat×Nat) (q:Ql) (hq:q≠.own) (sz:Nat) (els:List (List AV)) (v:Value) (h:Rd w (X.ok q) (.ts q sz els) v):CR w X rid loc (.ts q sz els) v
 | tp (loc:Nat×Nat) (q:Ql) (hq:q≠.own) (sz:Nat) (els:List (List AV)) (i j:Nat) (v:Value) (h:Rd w (X.ok q) (.tp q sz els i j) v):CR w X rid loc (.tp q sz els i j) v
 | own (loc : Nat × Nat) (sz : Nat) (els : List (List AV)) (A : Option Addr) (cap g o : Nat) (c : Nat → Nat → Value)
     (hrow:∀r∈els,r.length=sz) (hcap:els.length≤cap)
     (hA:0<cap→A=some ⟨g,o,none⟩∧X.root g=some rid∧X.par g=some loc∧¬X.pro g∧∃cur e,w.heap[g]?=some (.cells cur e (0,0))∧o+cap*sz≤cur.size∧cap≤maxLen)
     (hc:∀i j,i<els.length→j<sz→w.cell? ⟨g,o+i*sz+j,none⟩=some (c i j))
     (h:∀i j,i<els.length→j<sz→CR w X rid (g,o+i*sz+j) (at2 els i j) (c i j)):CR w X rid loc (.ts .own sz els) (.slice A els.length cap)
structure OR (w:World) (X:Cx) (id:Nat) (ob:Ob) (I:Info) (c:Nat→Nat→Value):Prop where
 sz:I.sz=ob.sz
 rows:∀r∈ob.els,r.length=ob.sz
 root:X.root I.g=some id
 par:X.par I.g=none
 npro:¬X.pro I.g
 blk:∃cur e,w.heap[I.g]?=some (.cells cur e (0,0))∧cur.size=I.size
 fits:I.o+ob.els.length*I.sz≤I.size
 cell:∀i j,i<ob.els.length→j<ob.sz→w.cell? ⟨I.g,I.o+i*I.sz+j,none⟩=some (c i j)
 val:∀i j,i<ob.els.length→j<ob.sz→if ob.kd=.box then VR w X (at2 ob.els i j) (c i j) else CR w X id (I.g,I.o+i*I.sz+j) (at2 ob.els i j) (c i j)
def OK (w:World)(X:Cx)(id:Nat)(ob:Ob):Prop :=
 match X.φ id with
 | none=>ob.els=[]∧ob.kd≠.box
 | some I=>∃c,OR w X id ob I c
structure SR (T:Tab) (w:World) (X:Cx) (S:St):Prop where
 n:X.N=S.length
 lab:∀b,X.root b≠none→b<w.heap.size
 pro:∀b,X.pro b→b<w.heap.size
 obs:∀id ob,getOb S id=some ob→OK w X id ob
 sft:X.soft↔T.soft=true
def TapeLe (w w':World):Prop:=w'.tape=w.tape∧w.drawn≤w'.drawn
theorem TapeLe.refl (w:World):TapeLe w w:=⟨rfl,Nat.le_refl _⟩
theorem TapeLe.trans {w w1 w2:World}(k:TapeLe w1 w2)(h:TapeLe w w1):TapeLe w w2:=⟨k.1.trans h.1,Nat.le_trans h.2 k.2⟩
structure Stp (w:World) (X:Cx) (w':World) (X':Cx):Prop where
 os:w'.os=w.os
 tape:TapeLe w w'
 output:w'.output=w.output
 size:w.heap.size≤w'.heap.size
 keep:∀b,b<w.heap.size→¬X.isRoot b→w'.heap[b]?=w.heap[b]?∧¬X'.isRoot b
 none:∀b,b<w.heap.size→X.root b=none→X'.root b=none
 pro:X'.pro=X.pro
 soft:X'.soft=X.soft
structure Stn (w:World) (X:Cx) (w':World) (X':Cx):Prop extends Stp w X w' X' where
 le:X.N≤X'.N
 φ:∀id,id<X.N→X'.φ id=X.φ id
theorem Stp.refl (w:World)(X:Cx):Stp w X w X:=⟨rfl,⟨rfl,Nat.le_refl _⟩,rfl,Nat.le_refl _,fun _ _ h=>⟨rfl,h⟩,fun _ _ h=>h,rfl,rfl⟩
theorem Stn.refl (w:World)(X:Cx):Stn w X w X:=⟨Stp.refl w X,Nat.le_refl _,fun _ _=>rfl⟩
theorem Stp.trans {w w1 w2:World}{X X1 X2:Cx}(h:Stp w X w1 X1)(k:Stp w1 X1 w2 X2):Stp w X w2 X2 :=
 ⟨k.os.trans h.os,k.tape.trans h.tape,k.output.trans h.output,Nat.le_trans h.size k.size,
  fun b hb hr=>by
   obtain ⟨h1,h2⟩:=h.keep b hb hr;obtain ⟨k1,k2⟩:=k.keep b (Nat.lt_of_lt_of_le hb h.size) h2
   exact ⟨k1.trans h1,k2⟩,
  fun b hb hr=>k.none b (Nat.lt_of_lt_of_le hb h.size) (h.none b hb hr),k.pro.trans h.pro,k.soft.trans h.soft⟩
theorem Stn.trans {w w1 w2:World}{X X1 X2:Cx}(h:Stn w X w1 X1)(k:Stn w1 X1 w2 X2):Stn w X w2 X2 :=
 ⟨h.toStp.trans k.toStp,Nat.le_trans h.le k.le,fun id hid=>(k.φ id (Nat.lt_of_lt_of_le hid h.le)).trans (h.φ id hid)⟩
theorem not_root_of_none {X:Cx}{b:Nat}(h:X.root b=none):¬X.isRoot b:=fun k=>k.1 h
theorem Cx.ok_weak {X:Cx}{q:Ql}{b:Nat}(h:X.ok q b):¬X.isRoot b:=by
 cases q
 · exact h.1
 · exact h.1
 · exact not_root_of_none h.1
theorem Cx.ok_npro {X:Cx}{q:Ql}{b:Nat}(h:X.ok q b):¬X.pro b:=by
 cases q
 · exact h.2
 · exact h.2
 · exact h.2
theorem Rd.stp {w w':World}{X X':Cx}(s:Stp w X w' X'){q:Ql}{av:AV}{v:Value}(h:Rd w (X.ok q) av v):Rd w' (X'.ok q) av v:=by
 refine h.keep s.size (fun b hb hok=>?_)
 refine ⟨(s.keep b hb (Cx.ok_weak hok)).1,?_⟩
 have hp:¬X'.pro b:=by rw [s.pro];exact Cx.ok_npro hok
 cases q
 · exact ⟨(s.keep b hb hok.1).2,hp⟩
 · exact ⟨(s.keep b hb hok.1).2,hp⟩
 · exact ⟨s.none b hb hok.1,hp⟩
theorem Rd.weak {w:World}{X:Cx}{q q':Ql}(hq':q'≠.imm){av:AV}{v:Value}(h:Rd w (X.ok q) av v):Rd w (X.ok q') av v :=
 h.keep (Nat.le_refl _) fun b _ hok=>⟨rfl,by
  have:=Cx.ok_weak hok;have hp:=Cx.ok_npro hok;cases q'
  · exact ⟨this,hp⟩
  · exact ⟨this,hp⟩
  · exact absurd rfl hq'⟩
theorem VR.stn {w w':World}{X X':Cx}(s:Stn w X w' X'){av:AV}{v:Value}(h:VR w X av v):VR w' X' av v:=by
 induction h with
 | int k n=>exact .int k n
 | bool b=>exact .bool b
 | str s=>exact .str s
 | nil=>exact .nil
 | nilp=>exact .nilp
 | fn f caps cv hl _ ih=>exact .fn f caps cv hl ih
 | agg cs cv hl _ ih=>exact .agg cs cv hl ih
 | tup cs cv hl _ ih=>exact .tup cs cv hl ih
 | ts q hq sz els v h=>exact .ts q hq sz els v (h.stp s.toStp)
 | tp q hq sz els i j v h=>exact .tp q hq sz els i j v (h.stp s.toStp)
 | sl id lo n cap I hid hI hn hc hm=>exact .sl id lo n cap I (Nat.lt_of_lt_of_le hid s.le) ((s.φ id hid).trans hI) hn hc hm
 | slz id lo A hid=>exact .slz id lo A (Nat.lt_of_lt_of_le hid s.le)
 | ptr id i j I hid hI=>exact .ptr id i j I (Nat.lt_of_lt_of_le hid s.le) ((s.φ id hid).trans hI)
theorem CR.keep {w w':World}{X X':Cx}(s:Stp w X w' X'){rid:Nat}
    (H:∀b,b<w.heap.size→X.root b=some rid→X.par b≠none→X'.root b=some rid∧X'.par b=X.par b)
    (Hs:X.soft→∀b,b<w.heap.size→X.root b=some rid→X.par b≠none→w'.heap[b]?=w.heap[b]?)
    {loc:Nat×Nat} {av:AV} {v:Value} (h:CR w X rid loc av v):CR w' X' rid loc av v:=by
 induction h with
 | int loc k n=>exact .int loc k n
 | bool loc b=>exact .bool loc b
 | str loc s=>exact .str loc s
 | nil loc=>exact .nil loc
 | nilp loc=>exact .nilp loc
 | fn loc f=>exact .fn loc f
 | ts loc q hq sz els v h=>exact .ts loc q hq sz els v (h.stp s)
 | tp loc q hq sz els i j v h=>exact .tp loc q hq sz els i j v (h.stp s)
 | own loc sz els A cap g o c hrow hcap hA hc _ ih =>
  have key:0<cap→g<w.heap.size∧w'.heap[g]?=w.heap[g]?∧X'.root g=some rid∧X'.par g=X.par g:=fun hn=>by
   obtain ⟨_,h2,h3,hnp,cur,e,h4,_⟩:=hA hn;have hlt:g<w.heap.size:=(Array.getElem?_eq_some_iff.1 h4).1
   obtain ⟨k1,k2⟩:=H g hlt h2 (by rw [h3];simp)
   refine ⟨hlt,?_,k1,k2⟩
   rcases Classical.em X.soft with hsf|hsf
   · exact Hs hsf g hlt h2 (by rw [h3];simp)
   · exact (s.keep g hlt (fun hr=>absurd (Cx.firm_par hsf hr) (by rw [h3];simp))).1
  refine .own loc sz els A cap g o c hrow hcap (fun hn=>?_) (fun i j hi hj=>?_) ih
  · obtain ⟨h1,h2,h3,hnp,cur,e,h4,h5⟩:=hA hn;obtain ⟨_,k1,k2,k3⟩:=key hn
    exact ⟨h1,k2,k3.trans h3,by rw [s.pro];exact hnp,cur,e,k1.trans h4,h5⟩
  · obtain ⟨_,k1,_,_⟩:=key (by omega)
    rw [World.cell?_heap (w:=w) k1];exact hc i j hi hj
theorem CR.look {w:World}{X:Cx}(hsf:¬X.soft){rid:Nat}{loc:Nat×Nat}{av:AV}{v:Value}(h:CR w X rid loc av v):Rd w (X.ok .bor) av v:=by
 induction h with
 | int loc k n=>exact .int k n
 | bool loc b=>exact .bool b
 | str loc s=>exact .str s
 | nil loc=>exact .nil
 | nilp loc=>exact .nilp
 | fn loc f=>exact .fn f
 | ts loc q hq sz els v h=>exact h.weak (q':=.bor) (by simp)
 | tp loc q hq sz els i j v h=>exact h.weak (q':=.bor) (by simp)
 | own loc sz els A cap g o c hrow hcap hA hc _ ih =>
  refine .ts _ sz els A cap g o c hrow hcap (fun hn=>?_) hc ih
  obtain ⟨h1,h2,h3,hnp,cur,e,h4,h5⟩:=hA (by omega)
  exact ⟨h1,⟨fun hr=>absurd (Cx.firm_par hsf hr) (by rw [h3];simp),hnp⟩,(Array.getElem?_eq_some_iff.1 h4).1⟩
theorem CR.view {w:World}{X:Cx}{rid:Nat}{loc:Nat×Nat}{av:AV}{v:Value}(h:CR w X rid loc av v)(hsf:¬X.soft∨av.ownTop=false):VR w X (setTop .bor av) v:=by
 cases h with
 | int loc k n=>exact .int k n
 | bool loc b=>exact .bool b
 | str loc s=>exact .str s
 | nil loc=>exact .nil
 | nilp loc=>exact .nilp
 | fn loc f=>exact .fn f [] [] rfl (fun i hi=>absurd hi (Nat.not_lt_zero i))
 | ts loc q hq sz els v h=>exact .ts .bor (by simp) sz els v ((h.weak (q':=.bor) (by simp)).setTop (q:=.bor))
 | tp loc q hq sz els i j v h=>exact .tp .bor (by simp) sz els i j v ((h.weak (q':=.bor) (by simp)).setTop (q:=.bor))
 | own loc sz els A cap g o c hrow hcap hA hc h =>
  have hsf':¬X.soft:=hsf.resolve_right (by simp [AV.ownTop])
  exact .ts .bor (by simp) sz els _ (((CR.own loc sz els A cap g o c hrow hcap hA hc h).look hsf').setTop (q:=.bor))
theorem Rd.slot {w:World}{X:Cx}{q:Ql}(hq:q≠.own){av:AV}{v:Value}(h:Rd w (X.ok q) av v):VR w X (Pi.setTop q av) v:=by
 cases h with
 | int k n=>exact .int k n
 | bool b=>exact .bool b
 | str s=>exact .str s
 | nil=>exact .nil
 | nilp=>exact .nilp
 | fn f=>exact .fn f [] [] rfl (fun i hi=>absurd hi (Nat.not_lt_zero i))
 | ts q' sz els A cap g o c hrow hcap hA hc h=>exact .ts q hq sz els _ (.ts q sz els A cap g o c hrow hcap hA hc h)
 | tp q' sz els i₀ j₀ g o c hrow hA hc h=>exact .tp q hq sz els i₀ j₀ _ (.tp q sz els i₀ j₀ g o c hrow hA hc h)
theorem Rd.cell {w:World}{X:Cx}{q:Ql}(hq:q≠.own){av:AV}{v:Value}(h:Rd w (X.ok q) av v)(rid:Nat)(loc:Nat×Nat):CR w X rid loc (Pi.setTop q av) v:=by
 cases h with
 | int k n=>exact .int _ k n
 | bool b=>exact .bool _ b
 | str s=>exact .str _ s
 | nil=>exact .nil _
 | nilp=>exact .nilp _
 | fn f=>exact .fn _ f
 | ts q' sz els A cap g o c hrow hcap hA hc h=>exact .ts _ q hq sz els _ (.ts q sz els A cap g o c hrow hcap hA hc h)
 | tp q' sz els i₀ j₀ g o c hrow hA hc h=>exact .tp _ q hq sz els i₀ j₀ _ (.tp q sz els i₀ j₀ g o c hrow hA hc h)
theorem CR.viewCell {w:World}{X:Cx}(hsf:¬X.soft){rid:Nat}{loc:Nat×Nat}{av:AV}{v:Value}(h:CR w X rid loc av v)(rid':Nat)(loc':Nat×Nat):CR w X rid' loc' (setTop .bor av) v :=
 Rd.cell (q:=.bor) (by simp) (h.look hsf) rid' loc'
theorem CR.viewTopCell {w:World}{X:Cx}(hsf:¬X.soft){rid:Nat}{loc:Nat×Nat}{av:AV}{v:Value}(h:CR w X rid loc av v)(rid':Nat)(loc':Nat×Nat):CR w X rid' loc' (viewTop av) v:=by
 unfold viewTop;split
 · cases h with
   | ts _ _ hq _ _ _ hr=>exact .ts loc' .imm hq _ _ _ hr
 · cases h with
   | tp _ _ hq _ _ _ _ _ hr=>exact .tp loc' .imm hq _ _ _ _ _ hr
 · exact h.viewCell hsf rid' loc'
theorem VR.deep {w:World}{X:Cx}{q:Ql}(hq:q≠.own){c:AV}{v:Value}(h:VR w X (Pi.setTop q c) v)(hc:∀cs,c≠.agg cs):VR w X (Pi.setQ q c) v:=by
 cases c with
 | ts q0 sz els =>
  cases h with
  | ts _ _ _ _ _ hr=>exact .ts q hq sz _ _ (hr.setQ (q:=q))
 | tp q0 sz els i j =>
  cases h with
  | tp _ _ _ _ _ _ _ hr=>exact .tp q hq sz _ i j _ (hr.setQ (q:=q))
 | agg cs=>exact absurd rfl (hc cs)
 | _=>exact h
end Go.Pi

namespace Go.Pi
open Go
theorem VR.undef (w:World)(X:Cx):VR w X .undef Go.undef:=.tup [] [] rfl (fun i hi=>absurd hi (Nat.not_lt_zero i))
theorem ofVal_ok (w:World)(X:Cx):∀ {v:Value} {av:AV},ofVal v=some av→VR w X av v:=by
 intro v av h;unfold ofVal at h
 split at h<;>first
  | (injection h with h;subst h;first | exact .int _ _ | exact .bool _ | exact .str _ | exact .nil | exact .nilp | exact VR.undef w X)
  | cases h
structure FrR (w:World) (X:Cx) (fr:Fr) (a:Act):Prop where
 len:fr.length=a.tmps.size
 val:∀i,fr.getD i .undef≠.any→VR w X (fr.getD i .undef) (a.tmps.getD i Go.undef)
 defers:a.defers=[]
theorem evO_ok {w:World}{X:Cx}{fr:Fr}{a:Act}(hf:FrR w X fr a):∀ {x:Operand} {av:AV},evO fr x=some av→VR w X av (a.eval x):=by
 intro x av h
 cases x with
 | tmp t =>
  simp only [evO] at h;split at h
  · cases h
  · rename_i hne;cases h;exact hf.val t hne
 | const v=>exact ofVal_ok w X h
 | func f =>
  simp only [evO,Option.some.injEq] at h;subst h
  exact .fn f [] [] rfl (fun i hi=>absurd hi (Nat.not_lt_zero i))
 | global g=>simp [evO] at h
theorem FrR.stn {w w':World}{X X':Cx}{fr:Fr}{a:Act}(hf:FrR w X fr a)(s:Stn w X w' X'):FrR w' X' fr a:=⟨hf.len,fun i hi=>(hf.val i hi).stn s,hf.defers⟩
theorem FrR.put {w w':World}{X X':Cx}{fr:Fr}{a:Act}(hf:FrR w X fr a)(s:Stn w X w' X')(dst:Option Nat){v:AV}{v':Value}(h:VR w' X' v v') :
    FrR w' X' (Pi.put fr dst v) (a.put dst v'):=by
 cases dst with
 | none=>exact hf.stn s
 | some d =>
  refine ⟨by simp [Pi.put,Act.put,hf.len],fun i hi=>?_,hf.defers⟩
  have hl:=hf.len;simp only [Pi.put,Act.put,List.getD_eq_getElem?_getD,Array.getD_eq_getD_getElem?,List.getElem?_set,Array.getElem?_setIfInBounds] at hi ⊢
  by_cases hd:d=i
  · subst hd
    by_cases hlt:d<fr.length
    · have hlt':d<a.tmps.size:=by omega
      simp [hlt,hlt',h]
    · have hlt':¬d<a.tmps.size:=by omega
      simp [hlt,hlt',VR.undef]
  · simp only [hd,if_false] at hi ⊢
    have h0:=(hf.val i (by simpa [List.getD_eq_getElem?_getD] using hi)).stn s
    simpa [List.getD_eq_getElem?_getD,Array.getD_eq_getD_getElem?] using h0
def Good (T:Tab)(P:Program)(o:Oper)(a:Act)(w:World)(X:Cx)(v:AV)(S':St):Prop :=
 ∀(next:Act→World→Prop) (Q:Exit→Act→World→Prop),
  (∀v' w' X',Stn w X w' X'→SR T w' X' S'→VR w' X' v v'→next (a.put o.dst v') w')→o.wp P a w next Q
theorem Good.still {T:Tab}{P:Program}{o:Oper}{a:Act}{w:World}{X:Cx}{v:AV}{S:St}(hS:SR T w X S)(v':Value)
    (hr:(execOp a.eval o).run P w=.ok (.value v') w) (hv:VR w X v v'):Good T P o a w X v S:=by
 intro next Q h;unfold Oper.wp;rw [hr,Oper.upon_value];exact h v' w X (Stn.refl w X) hS hv
theorem VR.int_inv {w:World}{X:Cx}{k:IntKind}{n:Int}{v:Value}(h:VR w X (.int k n) v):v=.int k n:=by cases h;rfl
theorem VR.bool_inv {w:World}{X:Cx}{b:Bool}{v:Value}(h:VR w X (.bool b) v):v=.bool b:=by cases h;rfl
theorem VR.str_inv {w:World}{X:Cx}{s:ByteArray}{v:Value}(h:VR w X (.str s) v):v=.string s:=by cases h;rfl
theorem VR.nil_inv {w:World}{X:Cx}{v:Value}(h:VR w X .nil v):v=.slice none 0 0:=by cases h;rfl
theorem VR.tup_inv {w:World}{X:Cx}{cs:List AV}{v:Value}(h:VR w X (.tup cs) v) :
    ∃cv:List Value,v=.tuple cv.toArray∧cs.length=cv.length∧∀i,i<cs.length→VR w X (cs.getD i .undef) (cv.getD i Go.undef):=by
 cases h with | tup _ cv hl h=>exact ⟨cv,rfl,hl,h⟩
theorem VR.agg_inv {w:World}{X:Cx}{cs:List AV}{v:Value}(h:VR w X (.agg cs) v) :
    ∃cv:List Value,v=.agg cv.toArray∧cs.length=cv.length∧∀i,i<cs.length→VR w X (cs.getD i .undef) (cv.getD i Go.undef):=by
 cases h with | agg _ cv hl h=>exact ⟨cv,rfl,hl,h⟩
theorem VR.fn_inv {w:World}{X:Cx}{f:Nat}{cs:List AV}{v:Value}(h:VR w X (.fn f cs) v) :
    ∃cv:List Value,v=.func (.func f) #[] cv.toArray∧cs.length=cv.length∧∀i,i<cs.length→VR w X (cs.getD i .undef) (cv.getD i Go.undef):=by
 cases h with | fn _ _ cv hl h=>exact ⟨cv,rfl,hl,h⟩
theorem VR.cells {w:World}{X:Cx}{av:AV}{v:Value}(h:VR w X av v) :
    av.cells.length=v.cells.toList.length∧∀i,i<av.cells.length→VR w X (av.cells.getD i .undef) (v.cells.toList.getD i Go.undef):=by
 have one : ∀ {av : AV} {v : Value}, VR w X av v → av.cells = [av] → v.cells = #[v] →
     av.cells.length=v.cells.toList.length∧∀i,i<av.cells.length→VR w X (av.cells.getD i .undef) (v.cells.toList.getD i Go.undef):=by
  intro av v h e1 e2;rw [e1,e2]
  refine ⟨rfl,fun i hi=>?_⟩
  have:i=0:=by simp at hi;omega
  subst this;exact h
 cases h with
 | agg cs cv hl h=>exact ⟨by simpa [AV.cells,Value.cells] using hl,by simpa [AV.cells,Value.cells] using h⟩
 | int k n=>exact one (.int k n) rfl rfl
 | bool b=>exact one (.bool b) rfl rfl
 | str s=>exact one (.str s) rfl rfl
 | nil=>exact one .nil rfl rfl
 | nilp=>exact one .nilp rfl rfl
 | fn f caps cv hl h=>exact one (.fn f caps cv hl h) rfl rfl
 | tup cs cv hl h=>exact one (.tup cs cv hl h) rfl rfl
 | ts q hq sz els v h =>
  have h':=VR.ts (X:=X) q hq sz els v h
  cases h with | ts=>exact one h' rfl rfl
 | tp q hq sz els i j v h =>
  have h':=VR.tp (X:=X) q hq sz els i j v h
  cases h with | tp=>exact one h' rfl rfl
 | sl id lo n cap I hid hI hn hc hm=>exact one (.sl id lo n cap I hid hI hn hc hm) rfl rfl
 | slz id lo A hid=>exact one (.slz id lo A hid) rfl rfl
 | ptr id i j I hid hI=>exact one (.ptr id i j I hid hI) rfl rfl
def zOf:AV→Value
 | .int k n=>.int k n
 | .bool b=>.bool b
 | .str s=>.string s
 | .nil=>.slice none 0 0
 | _=>.pointer none
def zOk:AV→Bool
 | .int _ _ | .bool _ | .str _ | .nil | .nilp=>true
 | _=>false
theorem zOf_ok (w:World)(X:Cx){av:AV}(h:zOk av=true):VR w X av (zOf av):=by
 cases av<;>simp [zOk] at h
 · exact .int _ _
 · exact .bool _
 · exact .str _
 · exact .nil
 · exact .nilp
def isAggD:TypeDesc→Bool
 | .struct _ | .array _ _=>true
 | _=>false
def eqVals:List Value→List Value→Option Bool
 | [],[]=>some true
 | .int k a::r,.int k' b::s=>if k=k' then (match eqVals r s with | some e=>some ((a==b)&&e) | none=>none) else none
 | .bool a::r,.bool b::s=>match eqVals r s with | some e=>some ((a==b)&&e) | none=>none
 | .string a::r,.string b::s=>match eqVals r s with | some e=>some ((a==b)&&e) | none=>none
 | _,_=>none
structure TyOk (P:Program) (t:Nat) (ti:TyI):Prop where
 info:∃i zv d,P.info? t=some i∧P.underlying t=some d∧isAggD d=ti.agg∧i.size=ti.size∧i.bytes=ti.bytes∧i.zero=some zv ∧
  zv.cells.toList=ti.zero.map zOf∧(ti.agg=true→zv=.agg zv.cells)
 zok:ti.zero.all zOk=true
 zlen:ti.zero.length=ti.size
 elen:ti.es.length=ti.size
 agg1:ti.agg=false→ti.size=1
 slice:ti.elem≠0→P.underlying t=some (.slice ti.elem)
 fields:ti.fields≠[]→∃fs:Array Field,P.underlying t=some (.struct fs)∧fs.size=ti.fields.length ∧
  ∀(j:Nat) (f:Field),fs[j]?=some f→∃i d,P.info? f.type=some i∧P.underlying f.type=some d∧ti.fields[j]?=some (f.offset,i.size,isAggD d)
 base:match ti.base with
  | .other=>True
  | .int k=>P.underlying t=some (.int k)
  | .bool=>P.underlying t=some .bool
  | .str=>P.underlying t=some .string
 cmp:ti.cmp=true→ti.agg=true→∀(xs ys:Array Value) (e e0:Bool),xs.size=ti.size→eqVals (ti.zero.map zOf) xs.toList=some e0→eqVals xs.toList ys.toList=some e→∀w,
  (binOp .eql t (.agg xs) (.agg ys)).run P w=.ok (.bool e) w∧(binOp .neq t (.agg xs) (.agg ys)).run P w=.ok (.bool !e) w∧P.eqGuardType P.depth t=false
def rowA (cur:Array Value)(off i n m sz:Nat)(cs:List Value):Array Value :=
 (cur.toList.take (off+(i+m)*sz)++cs.drop (i*sz)++cur.toList.drop (off+(i+m)*sz+(cs.drop (i*sz)).length)).toArray
def rowB (cur:Array Value)(off i m sz:Nat)(vs:List Value):Array Value :=
 (cur.toList.take (off+i*sz)++vs++cur.toList.drop (off+i*sz+vs.length)).toArray
def rowZ (i n m sz G:Nat)(cs:List Value)(zv:Value):Array Value :=
 (cs.take (i*sz)).toArray++Builtin.zeroCells zv.cells (n+m-i)++Builtin.zeroCells zv.cells (G-(n+m))
structure InsAt (P:Program) (f t e:Nat) (i0:TypeInfo) (zv:Value):Prop where
 atEnd:∀(A:Option Addr) (n c vb voff m vc:Nat) (w W:World) (v':Value),0<m→n≤c→c≤9223372036854775807→(A=none→n=0∧c=0) →
  (Builtin.append_ #[t,t] t #[.slice A n c,.slice (some ⟨vb,voff,none⟩) m vc]).run P w=.ok v' W →
  Calls P f #[.slice A n c,.int .i64 n,.slice (some ⟨vb,voff,none⟩) m vc] w fun r w'=>r=.returned v'∧w'=W
 shift:∀(b off n c i vb voff m vc:Nat) (cur vcur:Array Value) (eb ev:TypeId) (w:World),i<n→0<m→n+m≤c→c≤9223372036854775807→vb≠b →
  w.heap[b]?=some (.cells cur eb (0,0))→w.heap[vb]?=some (.cells vcur ev (0,0))→off+c*i0.size≤cur.size→∀cs vs:List Value,cs.length=n*i0.size→vs.length=m*i0.size →
  (∀j v,cs[j]?=some v→w.cell? ⟨b,off+j,none⟩=some v)→(∀j v,vs[j]?=some v→w.cell? ⟨vb,voff+j,none⟩=some v)→(∀v∈cs,v.oneCell'=true)→(∀v∈vs,v.oneCell'=true) →
  Calls P f #[.slice (some ⟨b,off,none⟩) n c,.int .i64 i,.slice (some ⟨vb,voff,none⟩) m vc] w fun r w' =>
   r=.returned (.slice (some ⟨b,off,none⟩) (n+m) c)∧w'=(w.drew.setRow b (rowA cur off i n m i0.size cs)).setRow b (rowB (rowA cur off i n m i0.size cs) off i m i0.size vs)
 grow:∀(b off n c i vb voff m vc:Nat) (w:World),i<n→0<m→n≤c→c<n+m→(n+m)*i0.bytes≤140737488355328→n+m≤maxLen →
  ∀cs vs:List Value,cs.length=n*i0.size→vs.length=m*i0.size →
  (∀j v,cs[j]?=some v→w.cell? ⟨b,off+j,none⟩=some v)→(∀j v,vs[j]?=some v→w.cell? ⟨vb,voff+j,none⟩=some v)→(∀v∈cs,v.oneCell'=true)→(∀v∈vs,v.oneCell'=true) →
  Calls P f #[.slice (some ⟨b,off,none⟩) n c,.int .i64 i,.slice (some ⟨vb,voff,none⟩) m vc] w fun r w' =>
   r=.returned (.slice (some ⟨w.heap.size,0,none⟩) (n+m) (grownCap w (n+m) c e)) ∧
   w'=(((w.alloc (.cells (rowZ i n m i0.size (grownCap w (n+m) c e) cs zv) e)).drew.setRow w.heap.size (rowB (rowZ i n m i0.size (grownCap w (n+m) c e) cs zv) 0 i m i0.size vs)).drew).setRow w.heap.size
    (rowA (rowB (rowZ i n m i0.size (grownCap w (n+m) c e) cs zv) 0 i m i0.size vs) 0 i n m i0.size cs)
def InsOk (P:Program)(f t:Nat):Prop:=∀e i0 zv,P.underlying t=some (.slice e)→P.info? e=some i0→i0.zero=some zv→zv.cells.size=i0.size→0<i0.size→i0.bytes≤1024→InsAt P f t e i0 zv
def DelAt (P:Program)(f e:Nat)(i0:TypeInfo)(zv:Value):Prop:=∀(b off n c i j:Nat) (cur:Array Value) (eb:TypeId) (w:World),i<j→j≤n→n≤c→c≤9223372036854775807 →
    w.heap[b]?=some (.cells cur eb (0,0))→off+c*i0.size≤cur.size→∀cs:List Value,cs.length=n*i0.size →
    (∀k v,cs[k]?=some v→w.cell? ⟨b,off+k,none⟩=some v)→(∀v∈cs,v.oneCell'=true)→(∀v∈(Builtin.zeroCells zv.cells (j-i)).toList,v.oneCell'=true) →
    Calls P f #[.slice (some ⟨b,off,none⟩) n c,.int .i64 i,.int .i64 j] w fun r w' =>
     r=.returned (.slice (some ⟨b,off,none⟩) (n-(j-i)) c) ∧
     w'=(w.drew.setRow b (rowB cur off i (n-j) i0.size (cs.drop (j*i0.size)))).setRow b (rowB (rowB cur off i (n-j) i0.size (cs.drop (j*i0.size))) off (n-(j-i)) (j-i) i0.size (Builtin.zeroCells zv.cells (j-i)).toList)
def DelOk (P:Program)(f t:Nat):Prop:=∀e i0 zv,P.underlying t=some (.slice e)→P.info? e=some i0→i0.zero=some zv→zv.cells.size=i0.size→0<i0.size→DelAt P f e i0 zv
structure Like (w W:World) (blk:Nat):Prop where
 os:W.os=w.os
 tape:TapeLe w W
 output:W.output=w.output
 size:w.heap.size≤W.heap.size
 keep:∀b,b<w.heap.size→b≠blk→W.heap[b]?=w.heap[b]?
def argV:Bool→List Value→Value
 | true,cs=>.agg cs.toArray
 | false,cs=>cs.getD 0 Go.undef
structure SortAt (P:Program) (f:Nat) (ag:Bool) (k:Nat):Prop where
 empty:∀(A:Option Addr) (c:Nat) (fv:Value) (w:World),Calls P f #[.slice A 0 c,fv] w fun e w'=>e=.returned (.tuple #[])∧w'=w
 run:∀(m:Nat) (enc:Fin (m+1)→List Value) (cf:Fin (m+1)→Fin (m+1)→Int) (g:Nat) (cb:Array Value) (blk off cap:Nat) (w:World) (cur:Array Value) (e':TypeId),
  (∀x,(enc x).length=k)→(∀x,∀v∈enc x,v.oneCell'=true)→(∀x,¬cf x x<0)→(∀x y z,cf x y<0→cf y z<0→cf x z<0)→(∀x y,x≠y→cf x y<0∨cf y x<0) →
  (∀args w,(callFunc g args).run P w=.ok (.enter g args) w) →
  (∀W,Like w W blk→∀x y,Calls P g (#[argV ag (enc x),argV ag (enc y)]++cb) W fun e w'=>e=.returned (.int .i64 (cf x y))∧Like W w' W.heap.size) →
  w.heap[blk]?=some (.cells cur e' (0,0))→off+(m+1)*k≤cur.size→(∀i (hi:i<m+1) j v,(enc ⟨i,hi⟩)[j]?=some v→cur[off+i*k+j]?=some v)→m+1<4611686018427387904 →
  Calls P f #[.slice (some ⟨blk,off,none⟩) (m+1:Nat) cap,.func (.func g) #[] cb] w fun e w'=>e=.returned (.tuple #[])∧Like w w' blk∧∃R:Array Value,w'.heap[blk]?=some (.cells R e' (0,0))∧R.size=cur.size ∧
   ∀i (hi:i<((List.finRange (m+1)).mergeSort fun x y=>!decide (cf y x<0)).length) j v,(enc ((List.finRange (m+1)).mergeSort fun x y=>!decide (cf y x<0))[i])[j]?=some v→R[off+i*k+j]?=some v
def SortOk (P:Program)(f t:Nat):Prop:=∀e i0 zv ag,P.underlying t=some (.slice e)→P.info? e=some i0→i0.zero=some zv→0<i0.size→(∀w,(isAgg e).run P w=.ok ag w)→SortAt P f ag i0.size
def CollAt (P:Program)(f v e:Nat)(i0:TypeInfo):Prop:=∀(p:Addr) (b off m c:Nat) (A:Option Addr) (xs:Nat→List Value) (w:World),(0<m→A=some ⟨b,off,none⟩) →
    (∀i,i<m→(xs i).length=i0.size)→(∀i,i<m→∀v∈xs i,v.oneCell'=true)→w.cell? p=some (.slice A m c)→p.block<w.heap.size →
    (∀i,i<m→∀j v,(xs i)[j]?=some v→w.cell? ⟨b,off+i*i0.size+j,none⟩=some v)→(0<m→b<w.heap.size)→m≤maxLen→m*i0.bytes≤140737488355328→i0.size≤1024 →
    Calls P f #[.func (.func v) #[] #[.pointer (some p)]] w fun r w'=>Like w w' w.heap.size∧((m=0∧r=.returned (.slice none 0 0))∨∃g cap cur,r=.returned (.slice (some ⟨g,0,none⟩) m cap)∧w.heap.size≤g∧w'.heap[g]?=some (.cells cur e (0,0)) ∧
     m≤cap∧cap≤maxLen∧cur.size=cap*i0.size∧∀i,i<m→∀j v,(xs i)[j]?=some v→cur[i*i0.size+j]?=some v)
def CollOk (P:Program)(f v t:Nat):Prop:=∀e i0 zv,P.underlying t=some (.slice e)→P.info? e=some i0→i0.zero=some zv→zv.cells.size=i0.size→0<i0.size→(∀w,(isAgg e).run P w=.ok true w)→CollAt P f v e i0
def ValsOk (P:Program)(f v t:Nat):Prop:=∀(A:Option Addr) (n c:Nat) (w:World),Calls P f #[.slice A n c] w fun r w'=>r=.returned (.func (.func v) #[] #[.pointer (some ⟨w.heap.size,0,none⟩)])∧w'=w.alloc (.cells #[.slice A n c] t (0,0))
def PrimOk (P:Program)(f:Nat)(fi:FnI):Prop:=(fi.kind=4→InsOk P f fi.given)∧(fi.kind=5→DelOk P f fi.given)∧(fi.kind=6→SortOk P f fi.given)∧(fi.kind=7→CollOk P f fi.vfn fi.given)∧(fi.kind=8→ValsOk P f fi.vfn fi.given)
structure TabOk (P:Program) (T:Tab):Prop where
 ins:∀f fi,T.fn f=some fi→PrimOk P f fi
 ty:∀t ti,T.ty t=some ti→TyOk P t ti
 fn : ∀ f fi, T.fn f = some fi → ∃ (fn : Func) (c : Code), P.funcs[f]? = some fn ∧ fn.body = some c ∧ lay fi.body c = fi.body ∧ fn.ntmps = fi.ntmps ∧ fn.results.toList = fi.results ∧ (fn.name == "runtime.NumGoroutine") = false
theorem TabOk.at {P:Program}{T:Tab}(hT:TabOk P T)(b:Bool):TabOk P (T.at b):=⟨hT.ins,hT.ty,hT.fn⟩
variable {P:Program} {T:Tab} {t:Nat} {ti:TyI}
theorem TyOk.run_info (h:TyOk P t ti):∃i zv,P.info? t=some i∧i.size=ti.size∧i.bytes=ti.bytes∧i.zero=some zv∧zv.cells.toList=ti.zero.map zOf ∧
    (∀w,(typeInfo t).run P w=.ok i w)∧(∀w,(zeroValue t).run P w=.ok zv w):=by
 obtain ⟨i,zv,d,hi,hd,hag,hs,hb,hz,hzc,hza⟩:=h.info
 have e:∀w,(typeInfo t).run P w=.ok i w:=fun w=>by simp [typeInfo,program,hi,Sem.run]
 exact ⟨i,zv,hi,hs,hb,hz,hzc,e,fun w=>by simp [zeroValue,e w,hz]⟩
theorem TyOk.run_sizeOf (h:TyOk P t ti)(w:World):(Go.sizeOf t).run P w=.ok ti.size w:=by
 obtain ⟨i,zv,hi,hs,hb,hz,hzc,e,e'⟩:=h.run_info;simp [Go.sizeOf,e w,hs]
theorem TyOk.run_isAgg (h:TyOk P t ti)(w:World):(Go.isAgg t).run P w=.ok ti.agg w:=by
 obtain ⟨i,zv,d,hi,hd,hag,hs,hb,hz,hzc,hza⟩:=h.info;simp only [Go.isAgg,Sem.run_bind,run_underlying hd,Result.andThen_ok]
 cases d<;>simp [isAggD] at hag<;>simp [←hag]
theorem TabOk.baseBool (hT:TabOk P T)(h:T.baseOf t=.bool):P.underlying t=some .bool:=by
 unfold Tab.baseOf at h;split at h
 · rename_i ti hti;have:=(hT.ty _ _ hti).base;rw [h] at this;exact this
 · cases h
theorem TabOk.baseStr (hT:TabOk P T)(h:T.baseOf t=.str):P.underlying t=some .string:=by
 unfold Tab.baseOf at h;split at h
 · rename_i ti hti;have:=(hT.ty _ _ hti).base;rw [h] at this;exact this
 · cases h
theorem TabOk.elemSlice (hT:TabOk P T){te:TyI}(h:T.elemOf t=some te):∃e,P.underlying t=some (.slice e)∧TyOk P e te∧0<te.size∧te.bytes≤1024:=by
 unfold Tab.elemOf at h;split at h
 · rename_i ts hts;split at h
   · cases h
   · rename_i hne;split at h
     · rename_i te' hte;split at h
       · rename_i hb;cases h;exact ⟨ts.elem,(hT.ty _ _ hts).slice hne,hT.ty _ _ hte,hb.1,hb.2⟩
       · cases h
     · cases h
 · cases h
end Go.Pi

namespace Go.Pi
open Go
variable {P:Program} {T:Tab} {o:Oper} {a:Act} {w:World} {X:Cx} {fr:Fr} {S S':St} {v:AV} {C:Nat→List AV→St→Option (AV×St)} {mb:Nat}
theorem op_move (hS:SR T w X S)(hf:FrR w X fr a){x:Operand}(hop:o.op=.move x∨o.op=.assign x)(h:evOp T C o.op fr S=some (v,S')):Good T P o a w X v S':=by
 rcases hop with hop|hop<;>rw [hop] at h<;>simp only [evOp] at h<;>split at h<;>cases h
 all_goals
  rename_i hx
  exact Good.still hS _ (by simp [execOp,hop]) (evO_ok hf hx)
theorem op_pick (hS:SR T w X S)(hf:FrR w X fr a){c x y:Operand}(hop:o.op=.pick c x y)(h:evOp T C o.op fr S=some (v,S')):Good T P o a w X v S':=by
 rw [hop] at h;simp only [evOp] at h;split at h
 · rename_i hc
   split at h<;>cases h
   rename_i hx
   exact Good.still hS _ (by simp [execOp,hop,(evO_ok hf hc).bool_inv,asBool]) (evO_ok hf hx)
 · rename_i hc
   split at h<;>cases h
   rename_i hx
   exact Good.still hS _ (by simp [execOp,hop,(evO_ok hf hc).bool_inv,asBool]) (evO_ok hf hx)
 · cases h
theorem op_nilCheck (hS:SR T w X S)(hf:FrR w X fr a){x:Operand}(hop:o.op=.nilCheck x)(h:evOp T C o.op fr S=some (v,S')):Good T P o a w X v S':=by
 rw [hop] at h;simp only [evOp] at h;split at h
 · rename_i id i j hx;cases h;have hv:=evO_ok hf hx;refine Good.still hS (a.eval x) ?_ hv;generalize hu:a.eval x=u at hv
   cases hv with | ptr id i j I hid hI=>simp [execOp,hop,hu]
 · rename_i q sz els i j hx;cases h;have hv:=evO_ok hf hx;refine Good.still hS (a.eval x) ?_ hv;generalize hu:a.eval x=u at hv
   cases hv with
   | tp q hq sz els i j v h=>cases h with | tp=>simp [execOp,hop,hu]
 · rename_i f caps hx;cases h;have hv:=evO_ok hf hx;refine Good.still hS (a.eval x) ?_ hv;obtain ⟨cv,e,_⟩:=hv.fn_inv;simp [execOp,hop,e]
 · cases h
theorem op_extract (hS:SR T w X S)(hf:FrR w X fr a){x:Operand}{i:Nat}(hop:o.op=.extract x i)(h:evOp T C o.op fr S=some (v,S')):Good T P o a w X v S':=by
 rw [hop] at h;simp only [evOp] at h;split at h
 · rename_i vs hx
   split at h<;>cases h
   rename_i hi;obtain ⟨cv,e,hl,hv⟩:=(evO_ok hf hx).tup_inv;obtain ⟨hlt,hget⟩:=List.getElem?_eq_some_iff.1 hi;have h1:=hv i hlt
   refine Good.still hS (cv.getD i Go.undef) ?_ (by simpa [List.getD_eq_getElem?_getD,hi] using h1)
   simp [execOp,hop,e,Instr.extract,List.getD_eq_getElem?_getD,List.getElem?_eq_getElem (show i<cv.length by omega)]
 · cases h
theorem op_makeFunc (hS:SR T w X S)(hf:FrR w X fr a){f:Fn}{first caps:Array Operand}(hop:o.op=.makeFunc f first caps)(h:evOp T C o.op fr S=some (v,S')):Good T P o a w X v S':=by
 rw [hop] at h
 cases f<;>simp only [evOp] at h<;>try (cases h)
 rename_i f;split at h
 · rename_i hz
   split at h<;>cases h
   rename_i cs hcs
   have key:∀(l:List Operand) (cs:List AV),evArgs fr l=some cs→cs.length=(l.map a.eval).length∧∀i,i<cs.length→VR w X (cs.getD i .undef) ((l.map a.eval).getD i Go.undef):=by
    intro l
    induction l with
    | nil=>intro cs h;simp [evArgs] at h;subst h;exact ⟨rfl,fun i hi=>absurd hi (Nat.not_lt_zero i)⟩
    | cons x r ih =>
     intro cs h;simp only [evArgs] at h;split at h
     · cases h
     · rename_i v hv
       split at h<;>cases h
       rename_i vs hvs;obtain ⟨h1,h2⟩:=ih vs hvs
       refine ⟨by simpa using h1,fun i hi=>?_⟩
       cases i with
       | zero=>simpa using evO_ok hf hv
       | succ i=>simpa using h2 i (by simpa using hi)
   obtain ⟨h1,h2⟩:=key caps.toList cs hcs
   have hf0:first.map a.eval=#[]:=by simpa using hz
   refine Good.still hS (.func (.func f) #[] (caps.toList.map a.eval).toArray) ?_ (.fn f cs _ h1 h2);simp [execOp,hop,Instr.makeFunc,hf0]
   apply Array.ext';simp
 · cases h
theorem evArgs_ok (hf:FrR w X fr a):∀(l:List Operand) (cs:List AV),evArgs fr l=some cs →
    cs.length=(l.map a.eval).length∧∀i,i<cs.length→VR w X (cs.getD i .undef) ((l.map a.eval).getD i Go.undef):=by
 intro l
 induction l with
 | nil=>intro cs h;simp [evArgs] at h;subst h;exact ⟨rfl,fun i hi=>absurd hi (Nat.not_lt_zero i)⟩
 | cons x r ih =>
  intro cs h;simp only [evArgs] at h;split at h
  · cases h
  · rename_i v hv
    split at h<;>cases h
    rename_i vs hvs;obtain ⟨h1,h2⟩:=ih vs hvs
    refine ⟨by simpa using h1,fun i hi=>?_⟩
    cases i with
    | zero=>simpa using evO_ok hf hv
    | succ i=>simpa using h2 i (by simpa using hi)
theorem op_unOp (hS:SR T w X S)(hf:FrR w X fr a){op:UnOp}{t:Nat}{x:Operand}(hop:o.op=.unOp op t x)(h:evOp T C o.op fr S=some (v,S')):Good T P o a w X v S':=by
 rw [hop] at h;simp only [evOp] at h;split at h
 · rename_i u hx
   split at h<;>cases h
   rename_i hu;have hv:=evO_ok hf hx;unfold evUn at hu
   split at hu<;>cases hu
   · exact Good.still hS _ (by simp [execOp,hop,hv.bool_inv,Op.unary]) (.bool _)
   · exact Good.still hS _ (by simp [execOp,hop,hv.int_inv,Op.unary,Op.intArith]) (.int _ _)
 · cases h
theorem evInt_ok (P:Program)(w:World)(X:Cx){op:BinOp}{k k':IntKind}{m n:Int}{v:AV}(hk:k=k'∨isShift op=true)(t:Nat)(x y:Operand)(h:evInt op k m n=some v) :
    ∃v',(do eqGuard op t x y (.int k m) (.int k' n);binOp op t (.int k m) (.int k' n):Sem Value).run P w=.ok v' w∧VR w X v v':=by
 cases op<;>simp only [evInt,isShift,Bool.false_eq_true,or_false,or_true] at h hk
 case shl =>
  split at h<;>cases h
  rename_i hn
  exact ⟨_,by simp [eqGuard,binOp,Op.shift,hn],.int _ _⟩
 case shr =>
  split at h<;>cases h
  rename_i hn
  exact ⟨_,by simp [eqGuard,binOp,Op.shift,hn],.int _ _⟩
 case quo =>
  subst hk
  split at h<;>cases h
  rename_i hn
  exact ⟨_,by simp [eqGuard,binOp,Op.intDiv,hn],.int _ _⟩
 case rem =>
  subst hk
  split at h<;>cases h
  rename_i hn
  exact ⟨_,by simp [eqGuard,binOp,Op.intDiv,hn],.int _ _⟩
 case add | sub | mul =>
  subst hk;cases h
  exact ⟨_,by simp [eqGuard,binOp,Op.intArith],.int _ _⟩
 case and | or | xor | andNot =>
  subst hk;cases h
  exact ⟨_,by simp [eqGuard,binOp];rfl,.int _ _⟩
 case eql | neq | lss | leq | gtr | geq =>
  subst hk;cases h
  exact ⟨_,by simp [eqGuard,binOp,Op.intCmp],.bool _⟩
theorem evStr_ok (P:Program)(w:World)(X:Cx){op:BinOp}{s u:ByteArray}{v:AV}(t:Nat)(x y:Operand)(h:evStr op s u=some v) :
    ∃v',(do eqGuard op t x y (.string s) (.string u);binOp op t (.string s) (.string u):Sem Value).run P w=.ok v' w∧VR w X v v':=by
 cases op<;>simp only [evStr] at h
 case add =>
  split at h<;>cases h
  rename_i hn;refine ⟨.string (s++u),?_,.str _⟩;simp only [eqGuard,binOp]
  simp [run_string_add_sum w s u (by omega)]
 case eql | neq | lss | leq | gtr | geq =>
  cases h;exact ⟨_,by simp [eqGuard,binOp,Op.stringOp],.bool _⟩
 all_goals cases h
theorem eqCells_vals:∀ {xs ys:List AV} {e:Bool} {us vs:List Value},eqCells xs ys=some e →
    (xs.length=us.length∧∀i,i<xs.length→VR w X (xs.getD i .undef) (us.getD i Go.undef)) →
    (ys.length=vs.length∧∀i,i<ys.length→VR w X (ys.getD i .undef) (vs.getD i Go.undef))→eqVals us vs=some e:=by
 intro xs
 induction xs with
 | nil =>
  intro ys e us vs h hx hy
  cases ys with
  | nil =>
   simp only [eqCells] at h;obtain ⟨h1,_⟩:=hx;obtain ⟨h2,_⟩:=hy
   cases us with
   | nil=>cases vs with
    | nil=>exact h
    | cons _ _=>simp at h2
   | cons _ _=>simp at h1
  | cons _ _=>simp [eqCells] at h
 | cons x xs ih =>
  intro ys e us vs h hx hy
  cases ys with
  | nil=>cases x<;>simp [eqCells] at h
  | cons y ys =>
   obtain ⟨h1,hx⟩:=hx;obtain ⟨h2,hy⟩:=hy
   cases us with
   | nil=>simp at h1
   | cons u us =>
    cases vs with
    | nil=>simp at h2
    | cons z vs =>
     have hx0:=hx 0 (by simp)
     have hy0:=hy 0 (by simp)
     simp only [List.getD_cons_zero] at hx0 hy0
     have hxr:xs.length=us.length∧∀i,i<xs.length→VR w X (xs.getD i .undef) (us.getD i Go.undef) :=
      ⟨by simpa using h1,fun i hi=>by simpa using hx (i+1) (by simpa using hi)⟩
     have hyr:ys.length=vs.length∧∀i,i<ys.length→VR w X (ys.getD i .undef) (vs.getD i Go.undef) :=
      ⟨by simpa using h2,fun i hi=>by simpa using hy (i+1) (by simpa using hi)⟩
     cases x<;>cases y<;>simp only [eqCells] at h<;>try (cases h;done)
     · have:=hx0.int_inv;have:=hy0.int_inv;subst_vars
       split at h<;>try (cases h;done)
       rename_i hk
       split at h<;>cases h
       rename_i e' he;have:=ih he hxr hyr;simp [eqVals,hk,this]
     · have:=hx0.bool_inv;have:=hy0.bool_inv;subst_vars
       split at h<;>cases h
       rename_i e' he;have:=ih he hxr hyr;simp [eqVals,this]
     · have:=hx0.str_inv;have:=hy0.str_inv;subst_vars
       split at h<;>cases h
       rename_i e' he;have:=ih he hxr hyr;simp [eqVals,this]
theorem run_equal_bool {t:Nat}(h:P.underlying t=some .bool)(x y:Bool)(w:World):(Op.equal t (.bool x) (.bool y)).run P w=.ok (x==y) w:=by
 unfold Op.equal
 rw [show Op.maxDepth=9999+1 from rfl,Op.equalIn]
 simp only [Sem.run_bind,run_underlying h,Result.andThen_ok,Sem.run_pure]
theorem op_binOp (hT:TabOk P T)(hS:SR T w X S)(hf:FrR w X fr a){op:BinOp}{xt yt:Nat}{x y:Operand}(hop:o.op=.binOp op xt x y yt)
    (h:evOp T C o.op fr S=some (v,S')):Good T P o a w X v S':=by
 rw [hop] at h;simp only [evOp] at h;split at h
 · rename_i u z hx hy
   split at h<;>cases h
   rename_i hu;have hvx:=evO_ok hf hx;have hvy:=evO_ok hf hy
   have fin:∀v':Value,(do eqGuard op xt x y (a.eval x) (a.eval y);binOp op xt (a.eval x) (a.eval y):Sem Value).run P w=.ok v' w→VR w X v v'→Good T P o a w X v S :=
    fun v' h1 h2=>Good.still hS v' (by simp only [execOp,hop];simp only [Sem.run_bind] at h1 ⊢;rw [h1];rfl) h2
   unfold evBin at hu;split at hu
   · split at hu
     · rename_i hk;obtain ⟨v',h1,h2⟩:=evInt_ok P w X hk xt x y hu;rw [←hvx.int_inv,←hvy.int_inv] at h1;exact fin v' h1 h2
     · cases hu
   · obtain ⟨v',h1,h2⟩:=evStr_ok P w X xt x y hu;rw [←hvx.str_inv,←hvy.str_inv] at h1;exact fin v' h1 h2
   · split at hu
     · rename_i hb;have hd:=hT.baseBool hb
       split at hu<;>cases hu
       · refine fin (.bool _) ?_ (.bool _);rw [hvx.bool_inv,hvy.bool_inv];rw [eqGuard_at_bool];simp only [Sem.run_bind,Sem.run_pure,Result.andThen_ok,binOp,run_equal_bool hd]
       · refine fin (.bool _) ?_ (.bool _);rw [hvx.bool_inv,hvy.bool_inv];rw [eqGuard_at_bool];simp only [Sem.run_bind,Sem.run_pure,Result.andThen_ok,binOp,run_equal_bool hd]
     · cases hu
   · rename_i xs ys;split at hu
     · rename_i ti hti;split at hu
       · rename_i hcmp;obtain ⟨hc1,hc2,hc3,hc4⟩:=hcmp;have hT0:=hT.ty _ _ hti;obtain ⟨e0,he0⟩:=Option.isSome_iff_exists.1 hc4;obtain ⟨us,eu,hus⟩:=hvx.agg_inv;obtain ⟨zs,ez,hzs⟩:=hvy.agg_inv
         have hz0:=eqCells_vals (w:=w) (X:=X) (us:=ti.zero.map zOf) he0 ⟨by simp,fun i hi=>by
          have hz:=List.all_eq_true.1 hT0.zok (ti.zero.getD i .undef) (by rw [List.getD_eq_getElem?_getD,List.getElem?_eq_getElem hi];exact List.getElem_mem hi)
          have e:(ti.zero.map zOf).getD i Go.undef=zOf (ti.zero.getD i .undef):=by simp [List.getD_eq_getElem?_getD,hi]
          rw [e];exact zOf_ok w X hz⟩ hus
         split at hu<;>cases hu
         · rename_i e he
           obtain ⟨k1,k2,k3⟩:=hT0.cmp hc1 hc2 us.toArray zs.toArray e e0 (by simp;omega) (by simpa using hz0) (by simpa using eqCells_vals he hus hzs) w
           refine fin (.bool e) ?_ (.bool _);rw [eu,ez];simp only [Sem.run_bind,eqGuard];simp [program,Sem.run,k3,k1]
         · rename_i e he
           obtain ⟨k1,k2,k3⟩:=hT0.cmp hc1 hc2 us.toArray zs.toArray e e0 (by simp;omega) (by simpa using hz0) (by simpa using eqCells_vals he hus hzs) w
           refine fin (.bool _) ?_ (.bool _);rw [eu,ez];simp only [Sem.run_bind,eqGuard];simp [program,Sem.run,k3,k2]
       · cases hu
     · cases hu
   · cases hu
 · cases h
theorem op_convert (hT:TabOk P T)(hS:SR T w X S)(hf:FrR w X fr a){src dst:Nat}{x:Operand}(hop:o.op=.convert src dst x)
    (h:evOp T C o.op fr S=some (v,S')):Good T P o a w X v S':=by
 rw [hop] at h;simp only [evOp] at h;split at h
 · rename_i si di k n hsi hdi hx
   split at h<;>cases h
   rename_i k1 k2 hk1 hk2;have h1:=(hT.ty _ _ hsi).base;rw [hk1] at h1;have h2:=(hT.ty _ _ hdi).base;rw [hk2] at h2;simp only at h1 h2
   exact Good.still hS _ (by simp [execOp,hop,(evO_ok hf hx).int_inv,convert,run_underlying h1,run_underlying h2,Conv.intToInt]) (.int _ _)
 · cases h
theorem op_field (hT:TabOk P T)(hS:SR T w X S)(hf:FrR w X fr a){t f:Nat}{x:Operand}(hop:o.op=.field t x f)
    (h:evOp T C o.op fr S=some (v,S')):Good T P o a w X v S':=by
 rw [hop] at h;simp only [evOp] at h;split at h
 · rename_i ti cs hti hx;split at h
   · rename_i off size ag hfld;split at h
     · rename_i hsz;obtain ⟨cv,e,hl,hv⟩:=(evO_ok hf hx).agg_inv
       have hne:ti.fields≠[]:=by intro hn;rw [hn] at hfld;simp at hfld
       obtain ⟨fs,hu,hfl,hfs⟩:=(hT.ty _ _ hti).fields hne;obtain ⟨hlt,_⟩:=List.getElem?_eq_some_iff.1 hfld
       have hfj:fs[f]?=some fs[f]:=by rw [Array.getElem?_eq_getElem]
       obtain ⟨i,d,hi,hd,hj⟩:=hfs f _ hfj;rw [hfld] at hj
       injection hj with hj
       injection hj with h1 hj
       injection hj with h2 h3
       have hsize:∀w,(Go.sizeOf fs[f].type).run P w=.ok size w:=fun w=>by simp [Go.sizeOf,typeInfo,program,hi,Sem.run,h2]
       have hagg:∀w,(Go.isAgg fs[f].type).run P w=.ok ag w:=fun w=>by
        simp only [Go.isAgg,Sem.run_bind,run_underlying hd,Result.andThen_ok];rw [h3]
        cases d<;>simp [isAggD]
       split at h
       · rename_i hag;cases h
         refine Good.still hS (.agg ((cv.drop off).take size).toArray) ?_ (.agg _ _ (by simp;omega) (fun j hj=>?_))
         · simp only [execOp,hop,e,Instr.field,Sem.run_bind,run_underlying hu,Result.andThen_ok,hfj,asAgg,Sem.run_pure,part,hagg,hag,if_true,hsize,←h1];simp
         · have hj':j<size:=by simp at hj;omega
           have:=hv (off+j) (by omega)
           simpa [List.getD_eq_getElem?_getD,List.getElem?_take,List.getElem?_drop,hj'] using this
       · rename_i hag
         split at h<;>cases h
         rename_i c hc;obtain ⟨hclt,_⟩:=List.getElem?_eq_some_iff.1 hc
         have hlt2:off<cv.length:=by omega
         have:=hv off hclt;simp only [List.getD_eq_getElem?_getD,hc,Option.getD_some] at this;refine Good.still hS (cv[off]?.getD Go.undef) ?_ this;simp only [Bool.not_eq_true] at hag;simp only [execOp,hop,e,Instr.field,Sem.run_bind,run_underlying hu,Result.andThen_ok,hfj,asAgg,Sem.run_pure,part,hagg,hag,←h1];simp [List.getElem?_eq_getElem hlt2]
     · cases h
   · cases h
 · cases h
theorem op_fieldAddr (hT:TabOk P T)(hS:SR T w X S)(hf:FrR w X fr a){t f:Nat}{x:Operand}(hop:o.op=.fieldAddr t x f)
    (h:evOp T C o.op fr S=some (v,S')):Good T P o a w X v S':=by
 rw [hop] at h;simp only [evOp] at h;split at h
 · rename_i ti av hti hx
   have key : ∀ (off size : Nat) (ag : Bool), ti.fields[f]? = some (off, size, ag) → size ≠ 0 → ∀ (g p : Nat), a.eval x = .pointer (some ⟨g, p, none⟩) →
       (execOp a.eval o).run P w=.ok (.value (.pointer (some ⟨g,p+off,none⟩))) w:=by
    intro off size ag hfld hne0 g p he
    have hne:ti.fields≠[]:=by intro hn;rw [hn] at hfld;simp at hfld
    obtain ⟨fs,hu,hfl,hfs⟩:=(hT.ty _ _ hti).fields hne;obtain ⟨hlt,_⟩:=List.getElem?_eq_some_iff.1 hfld
    have hfj:fs[f]?=some fs[f]:=by rw [Array.getElem?_eq_getElem]
    obtain ⟨i,d,hi,hd,hj⟩:=hfs f _ hfj;rw [hfld] at hj
    injection hj with hj
    injection hj with h1 hj
    injection hj with h2 h3
    have hsize:∀w,(Go.sizeOf fs[f].type).run P w=.ok size w:=fun w=>by simp [Go.sizeOf,typeInfo,program,hi,Sem.run,h2]
    simp only [execOp,hop,he,Instr.fieldAt,Sem.run_bind,run_underlying hu,Result.andThen_ok,hfj,Instr.sureAddr,Sem.run_pure,fieldPlace,hsize,hne0,if_false,←h1];simp [Addr.add_lit]
   split at h
   · rename_i off size ag id i j hfld;split at h
     · cases h
     · rename_i hne0;cases h;have hv:=evO_ok hf hx;generalize hu:a.eval x=u at hv
       cases hv with
       | ptr id i j I hid hI =>
        refine Good.still hS _ (key _ _ _ hfld hne0 _ _ hu) ?_;rw [Nat.add_assoc];exact .ptr id i (j+off) I hid hI
   · rename_i off size ag q sz els i j hfld;split at h
     · cases h
     · rename_i hne0;cases h;have hv:=evO_ok hf hx;generalize hu:a.eval x=u at hv
       cases hv with
       | tp q hq sz els i j v h =>
        cases h with
        | tp q sz els i j g p c hrow hA hc hr =>
         refine Good.still hS _ (key _ _ _ hfld hne0 _ _ hu) ?_;rw [Nat.add_assoc];exact .tp q hq sz els i (j+off) _ (.tp q sz els i (j+off) g p c hrow hA hc hr)
   · cases h
 · cases h
theorem op_index (hT:TabOk P T)(hS:SR T w X S)(hf:FrR w X fr a){t:Nat}{x ix:Operand}(hop:o.op=.index t x ix)
    (h:evOp T C o.op fr S=some (v,S')):Good T P o a w X v S':=by
 rw [hop] at h;simp only [evOp] at h;split at h
 · rename_i s k i hx hi;split at h
   · rename_i h0
     split at h<;>cases h
     rename_i b hb;refine Good.still hS _ ?_ (.int _ _);simp only [execOp,hop,(evO_ok hf hx).str_inv,(evO_ok hf hi).int_inv,Instr.index,Sem.run_bind,asIntOf,Sem.run_pure,Result.andThen_ok,run_underlying (hT.baseStr h0.1),h0.2,if_true,hb]
   · cases h
 · cases h
end Go.Pi

namespace Go.Pi
open Go
variable {P:Program} {T:Tab} {o:Oper} {a:Act} {w:World} {X:Cx} {fr:Fr} {S S':St} {v:AV} {C:Nat→List AV→St→Option (AV×St)} {mb:Nat}
theorem isRow_ob {S:St}{id:Nat}{ob:Ob}(h:isRow S id=some ob):getOb S id=some ob∧ob.kd≠.box:=by
 unfold isRow at h;split at h
 · rename_i ob' hob;split at h
   · cases h
   · rename_i hk;cases h;exact ⟨hob,hk⟩
 · cases h
theorem getOb_lt {S:St}{id:Nat}{ob:Ob}(h:getOb S id=some ob):id<S.length:=by
 unfold getOb at h;split at h
 · rename_i hid;exact (List.getElem?_eq_some_iff.1 hid).1
 · cases h
theorem row_of {id:Nat}{ob:Ob}{I:Info}(hS:SR T w X S)(h:getOb S id=some ob)(hI:X.φ id=some I):∃c,OR w X id ob I c:=by
 have:=hS.obs id ob h;unfold OK at this;rw [hI] at this;exact this
theorem Addr_add (g p n:Nat):(⟨g,p,none⟩:Addr).add n=⟨g,p+n,none⟩:=by simp [Addr.add]
theorem op_indexAddr (hT:TabOk P T)(hS:SR T w X S)(hf:FrR w X fr a){t:Nat}{x ix:Operand}(hop:o.op=.indexAddr t x ix)
    (h:evOp T C o.op fr S=some (v,S')):Good T P o a w X v S':=by
 rw [hop] at h;simp only [evOp] at h
 have key : ∀ {te : TyI} {g p n cap : Nat} {k : IntKind} {i : Int}, T.elemOf t = some te → a.eval x = .slice (some ⟨g, p, none⟩) n cap → a.eval ix = .int k i → 0 ≤ i → i < (n : Int) →
     (execOp a.eval o).run P w=.ok (.value (.pointer (some ⟨g,p+i.toNat*te.size,none⟩))) w:=by
  intro te g p n cap k i hte hx hi h0 h1;obtain ⟨e,hu,hte',_⟩:=hT.elemSlice hte;simp only [execOp,hop,hx,hi,Instr.indexAt,Sem.run_bind,asIntOf,Sem.run_pure,Result.andThen_ok,run_underlying hu,h0,h1,and_self,if_true,hte'.run_sizeOf,Addr_add]
 split at h
 · rename_i te id lo n k i hte hx hi;split at h
   · rename_i ob hrow;split at h
     · rename_i hc;obtain ⟨hsz,h0,h1⟩:=hc;cases h;have hv:=evO_ok hf hx;have hvi:=(evO_ok hf hi).int_inv;generalize hu:a.eval x=u at hv
       cases hv with
       | sl id lo n cap I hid hI hn hc hm =>
        obtain ⟨hob,hkd⟩:=isRow_ob hrow;obtain ⟨c,hor⟩:=row_of hS hob hI;refine Good.still hS _ (key hte hu hvi h0 h1) ?_
        have e:I.o+lo*I.sz+i.toNat*te.size=I.o+(lo+i.toNat)*I.sz+0:=by
         rw [←hsz,←hor.sz,Nat.add_mul];omega
        rw [e];exact .ptr id (lo+i.toNat) 0 I hid hI
       | slz id lo A hid=>omega
     · cases h
   · cases h
 · rename_i te q sz els k i hte hx hi;split at h
   · rename_i hc;obtain ⟨hsz,h0,h1⟩:=hc;cases h;have hv:=evO_ok hf hx;have hvi:=(evO_ok hf hi).int_inv;generalize hu:a.eval x=u at hv
     cases hv with
     | ts q hq sz els v h =>
      cases h with
      | ts q sz els A cap g p c hrow hcap hA hc hr =>
       obtain ⟨hA1,hA2⟩:=hA (by omega)
       subst hA1;refine Good.still hS _ (key hte hu hvi h0 h1) ?_;rw [←hsz];exact .tp q hq sz els i.toNat 0 _ (.tp q sz els i.toNat 0 g p c hrow hA2 hc hr)
   · cases h
 · cases h
def OptR (w:World)(X:Cx):Option AV→Option Value→Prop
 | none,u=>u=none
 | some v,u=>∃z,u=some z∧VR w X v z
theorem bounds_run {len cap:Nat}{isS:Bool}{lo hi:Option AV}{l h:Nat}(hlc:len≤cap)(hb:bounds len lo hi=some (l,h))
    {lv hv:Option Value} (hl:OptR w X lo lv) (hh:OptR w X hi hv) :
    l≤h∧h≤len∧(Instr.sliceBounds isS len cap lv hv none).run P w=.ok (l,h,cap) w:=by
 have sb:∀ {k:IntKind} {i:Int} {y:Nat} {code:BoundsCode},0≤i→i≤(y:Int)→(Instr.sliceBound (.int k i) y code).run P w=.ok i.toNat w:=by
  intro k i y code h0 h1;simp [Instr.sliceBound,asIntOf,h0,h1]
 cases hi with
 | none =>
  simp only [OptR] at hh;subst hh
  cases lo with
  | none =>
   simp only [OptR] at hl;subst hl;simp only [bounds,Option.some.injEq,Prod.mk.injEq] at hb;obtain ⟨rfl,rfl⟩:=hb
   exact ⟨by omega,by omega,by simp [Instr.sliceBounds]⟩
  | some lv' =>
   obtain ⟨u,rfl,hu⟩:=hl
   cases lv'<;>simp only [bounds] at hb<;>try (cases hb;done)
   rename_i k i
   split at hb<;>cases hb
   rename_i hc;rw [hu.int_inv]
   refine ⟨by omega,by omega,?_⟩
   simp [Instr.sliceBounds,sb hc.1 hc.2]
 | some hv' =>
  obtain ⟨u,rfl,hu⟩:=hh
  cases hv'<;>simp only [bounds] at hb<;>try (cases hb;done)
  rename_i k i;rw [hu.int_inv];split at hb
  · rename_i hc
    have e1:=@sb k i cap (if isS then BoundsCode.sliceAcap else BoundsCode.sliceAlen) hc.1 (by omega)
    cases lo with
    | none =>
     simp only [OptR] at hl;subst hl;simp only [Option.some.injEq,Prod.mk.injEq] at hb;obtain ⟨rfl,rfl⟩:=hb
     refine ⟨by omega,by omega,?_⟩
     simp [Instr.sliceBounds,e1]
    | some lv' =>
     obtain ⟨u',rfl,hu'⟩:=hl
     cases lv'<;>simp only at hb<;>try (cases hb;done)
     rename_i k' i'
     split at hb<;>cases hb
     rename_i hc';rw [hu'.int_inv]
     refine ⟨by omega,by omega,?_⟩
     simp [Instr.sliceBounds,e1,@sb k' i' i.toNat BoundsCode.sliceB hc'.1 (by omega)]
  · cases hb
theorem evOpt_ok (hf:FrR w X fr a){x:Option Operand}{r:Option AV}(h:evOpt fr x=some r) :
    OptR w X r (x.map a.eval):=by
 cases x with
 | none=>simp only [evOpt,Option.some.injEq] at h;subst h;rfl
 | some x =>
  simp only [evOpt] at h
  split at h<;>cases h
  rename_i hv;exact ⟨_,rfl,evO_ok hf hv⟩
theorem Rd.cut {w:World}{ok:Nat→Prop}{q:Ql}{sz:Nat}{els:List (List AV)}{A:Option Addr}{n cap l h:Nat}(hr:Rd w ok (.ts q sz els) (.slice A n cap))(hl:l≤h)(hh:h≤els.length) :
    Rd w ok (.ts q sz ((els.take h).drop l)) (.slice (if cap=l then A else A.map (·.add (l*sz))) (h-l) (cap-l)):=by
 cases hr with
 | ts _ _ _ _ _ g o c hrow hcap hA hc hv =>
  have e:h-l=((els.take h).drop l).length:=by simp;omega
  rw [e]
  by_cases hz:l<h
  · obtain ⟨rfl,hA2⟩:=hA (by omega)
    have hat:∀i j,i<((els.take h).drop l).length→at2 ((els.take h).drop l) i j=at2 els (l+i) j:=by
     intro i j hi
     have:i+l<h:=by simp at hi;omega
     simp [at2,List.getD_eq_getElem?_getD,List.getElem?_drop,show l+i<h by omega]
    refine .ts q sz _ _ _ g (o+l*sz) (fun i j=>c (l+i) j) (fun r hr=>hrow r (List.mem_of_mem_take (List.mem_of_mem_drop hr))) (by simp;omega) (fun _=>?_) (fun i j hi hj=>?_) (fun i j hi hj=>?_)
    · refine ⟨?_,hA2⟩;split
      · omega
      · simp [Addr_add]
    · have:l+i<els.length:=by simp at hi;omega
      have:=hc (l+i) j this hj;rw [Nat.add_mul] at this;rw [←this];congr 2;omega
    · rw [hat i j hi]
      exact hv (l+i) j (by simp at hi;omega) hj
  · have:(els.take h).drop l=[]:=by simp;omega
    rw [this]
    exact .ts q sz [] _ _ g o c (by simp) (by simp) (by simp) (by simp) (by simp)
theorem op_slice (hT:TabOk P T)(hS:SR T w X S)(hf:FrR w X fr a){t:Nat}{x:Operand}{lo hi mx:Option Operand}(hop:o.op=.slice t x lo hi mx)
    (h:evOp T C o.op fr S=some (v,S')):Good T P o a w X v S':=by
 rw [hop] at h
 cases mx with
 | some m=>simp [evOp] at h
 | none =>
 simp only [evOp] at h;split at h
 · rename_i s l u hx hl hu;split at h
   · rename_i hb
     split at h<;>cases h
     rename_i b c hbd;have hd:=hT.baseStr hb;obtain ⟨h1,h2,h3⟩:=@bounds_run P w X s.size s.size false l u b c (Nat.le_refl _) hbd _ _ (evOpt_ok hf hl) (evOpt_ok hf hu);refine Good.still hS (.string (s.extract b c)) ?_ (.str _);simp only [execOp,hop,(evO_ok hf hx).str_inv,Instr.sliceAt,Sem.run_bind,run_underlying hd,Result.andThen_ok,Instr.slice,Option.map_none,Option.isSome_none,Bool.false_eq_true,if_false,Sem.run_pure,h3]
   · cases h
 · rename_i l u hx hl hu
   split at h<;>cases h
   rename_i te r hte hbd;obtain ⟨b,c⟩:=r;obtain ⟨e,hun,hte',_⟩:=hT.elemSlice hte;obtain ⟨h1,h2,h3⟩:=@bounds_run P w X 0 0 true l u b c (Nat.le_refl _) hbd _ _ (evOpt_ok hf hl) (evOpt_ok hf hu)
   obtain rfl:c=0:=by omega
   obtain rfl:b=0:=by omega
   refine Good.still hS (.slice none 0 0) ?_ .nil;simp only [execOp,hop,(evO_ok hf hx).nil_inv,Instr.sliceAt,Sem.run_bind,run_underlying hun,Result.andThen_ok,Instr.slice,Option.map_none,h3,Sem.run_pure,hte'.run_sizeOf,if_true,Nat.sub_self]
 · rename_i id lo0 n l u hx hl hu;split at h
   · rename_i te ob b c hte hrow hbd;split at h
     · rename_i hsz;cases h;obtain ⟨e,hun,hte',_⟩:=hT.elemSlice hte;have hv:=evO_ok hf hx;generalize hau:a.eval x=au at hv
       cases hv with
       | sl id lo n cap I hid hI hn hc hm =>
        obtain ⟨hob,hkd⟩:=isRow_ob hrow;obtain ⟨c',hor⟩:=row_of hS hob hI;obtain ⟨h1,h2,h3⟩:=@bounds_run P w X n cap true l u b c hn hbd _ _ (evOpt_ok hf hl) (evOpt_ok hf hu);have hI2:I.sz=te.size:=hor.sz.trans hsz
        refine Good.still hS (.slice (if cap=b then some ⟨I.g,I.o+lo0*I.sz,none⟩ else some ⟨I.g,I.o+lo0*I.sz+b*te.size,none⟩) (c-b) (cap-b)) ?_ ?_
        · simp only [execOp,hop,hau,Instr.sliceAt,Sem.run_bind,run_underlying hun,Result.andThen_ok,Instr.slice,Option.map_none,h3,Sem.run_pure,hte'.run_sizeOf,Option.map_some,Addr_add]
        · by_cases hcb:cap=b
          · rw [if_pos hcb]
            obtain rfl:c=b:=by omega
            obtain rfl:cap=c:=hcb;rw [Nat.sub_self];exact .slz id _ _ hid
          · rw [if_neg hcb,←hI2]
            have e1:I.o+lo0*I.sz+b*I.sz=I.o+(lo0+b)*I.sz:=by rw [Nat.add_mul];omega
            rw [e1]
            refine .sl id (lo0+b) (c-b) (cap-b) I hid hI (by omega) ?_ (by omega)
            have:lo0+b+(cap-b)=lo0+cap:=by omega
            rw [this];exact hc
       | slz id lo A hid =>
        obtain ⟨h1,h2,h3⟩:=@bounds_run P w X 0 0 true l u b c (Nat.le_refl _) hbd _ _ (evOpt_ok hf hl) (evOpt_ok hf hu)
        obtain rfl:c=0:=by omega
        obtain rfl:b=0:=by omega
        refine Good.still hS (.slice A 0 0) ?_ (.slz id _ A hid);simp only [execOp,hop,hau,Instr.sliceAt,Sem.run_bind,run_underlying hun,Result.andThen_ok,Instr.slice,Option.map_none,h3,Sem.run_pure,hte'.run_sizeOf,if_true,Nat.sub_self]
     · cases h
   · cases h
 · rename_i q sz els l u hx hl hu;split at h
   · rename_i te b c hte hbd;split at h
     · rename_i hsz;cases h;obtain ⟨e,hun,hte',_⟩:=hT.elemSlice hte;have hv:=evO_ok hf hx;generalize hau:a.eval x=au at hv
       cases hv with
       | ts q hq sz els v hr =>
        have hr0:=hr
        cases hr with
        | ts q sz els A cap g p c' hrow hcap hA hc hr =>
         obtain ⟨h1,h2,h3⟩:=@bounds_run P w X els.length cap true l u b c hcap hbd _ _ (evOpt_ok hf hl) (evOpt_ok hf hu);refine Good.still hS _ ?_ (.ts q hq sz _ _ (hr0.cut h1 h2));rw [hsz];simp only [execOp,hop,hau,Instr.sliceAt,Sem.run_bind,run_underlying hun,Result.andThen_ok,Instr.slice,Option.map_none,h3,Sem.run_pure,hte'.run_sizeOf]
     · cases h
   · cases h
 · cases h
end Go.Pi

namespace Go.Pi
open Go
variable {P:Program} {T:Tab} {o:Oper} {a:Act} {w:World} {X:Cx} {fr:Fr} {S S':St} {v:AV} {C:Nat→List AV→St→Option (AV×St)} {mb:Nat}
theorem at2_of {els:List (List AV)}{i:Nat}{row:List AV}(h:els[i]?=some row)(j:Nat):at2 els i j=row.getD j .undef:=by
 simp [at2,List.getD_eq_getElem?_getD,h]
theorem load_run (hT:TabOk P T){t:Nat}{ti:TyI}(ht:T.ty t=some ti){g p:Nat}(f:Nat→Value)(hc:∀k,k<ti.size→w.cell? ⟨g,p+k,none⟩=some (f k)) :
    (Instr.loadAt t (.pointer (some ⟨g,p,none⟩))).run P w=.ok (if ti.agg then .agg ((List.range ti.size).map f).toArray else f 0) w:=by
 have hti:=hT.ty _ _ ht;simp only [Instr.loadAt,Instr.sureAddr,Sem.run_bind,Sem.run_pure,Result.andThen_ok,loadVar,hti.run_isAgg]
 by_cases hag:ti.agg=true
 · rw [hag]
   have e:=run_loadCells (P:=P) w ⟨g,p,none⟩ ti.size f (fun j hj=>by rw [Addr_add];exact hc j hj)
   simp only [if_true,Sem.run_bind,hti.run_sizeOf,Result.andThen_ok,e,Sem.run_pure]
 · have h1:=hti.agg1 (by simpa using hag)
   have h0:=hc 0 (by omega)
   simp only [hag];simp only [Nat.add_zero] at h0;simp [h0]
theorem load_ok (hT:TabOk P T)(hS:SR T w X S){t:Nat}{av c:AV}{u:Value}(hv:VR w X av u)(h:evLoad T t av S=some c) :
    ∃v',(Instr.loadAt t u).run P w=.ok v' w∧VR w X c v':=by
 unfold evLoad at h;split at h
 · cases h
 · rename_i ti hti;have hagg1:=(hT.ty _ _ hti).agg1;split at h
   · rename_i id i j;split at h
     · cases h
     · rename_i ob hob;split at h
       · cases h
       · rename_i row hrow
         cases hv with
         | ptr id i j I hid hI =>
          obtain ⟨cc,hor⟩:=row_of hS hob hI;obtain ⟨hilt,hrow'⟩:=List.getElem?_eq_some_iff.1 hrow
          have hrl:row.length=ob.sz:=hor.rows row (hrow'▸List.getElem_mem hilt)
          have hcell:∀k,j+k<ob.sz→w.cell? ⟨I.g,I.o+i*I.sz+j+k,none⟩=some (cc i (j+k)):=fun k hk=>by
           rw [Nat.add_assoc];exact hor.cell i (j+k) hilt hk
          have hval:∀k,j+k<ob.sz→(ob.kd=.box∨(¬X.soft∨(row.getD (j+k) .undef).ownTop=false))→VR w X (if ob.kd=.box then row.getD (j+k) .undef else setTop .bor (row.getD (j+k) .undef)) (cc i (j+k)):=fun k hk hsf=>by
           have h0:=hor.val i (j+k) hilt hk;rw [at2_of hrow] at h0
           by_cases hb:ob.kd=.box
           · rw [if_pos hb] at h0 ⊢;exact h0
           · rw [if_neg hb] at h0 ⊢;exact h0.view (hsf.resolve_left hb)
          split at h
          · rename_i hag;split at h
            · rename_i hlen
              refine ⟨_,load_run hT hti (fun k=>cc i (j+k)) (fun k hk=>hcell k (by omega)),?_⟩
              rw [if_pos hag];split at h
              · rename_i hkd;cases h
                refine .agg _ _ (by simp;omega) (fun k hk=>?_)
                have hk':k<ti.size:=by simp at hk;omega
                have:=hval k (by omega) (.inl hkd)
                rw [if_pos hkd] at this;simpa [List.getD_eq_getElem?_getD,List.getElem?_take,List.getElem?_drop,hk'] using this
              · rename_i hkd;split at h
                · cases h
                rename_i hsf;cases h
                refine .agg _ _ (by simp;omega) (fun k hk=>?_)
                have hk':k<ti.size:=by simp at hk;omega
                have hk2:j+k<row.length:=by omega
                have:=hval k (by omega) (.inr (.inl fun h=>hsf (hS.sft.1 h)))
                rw [if_neg (by simpa using hkd)] at this
                simpa [List.getD_eq_getElem?_getD,List.getElem?_take,List.getElem?_drop,hk',hk2] using this
            · cases h
          · rename_i hag
            have h1:=hagg1 (by simpa using hag)
            split at h
            · cases h
            · rename_i cc' hcc';obtain ⟨hjlt,_⟩:=List.getElem?_eq_some_iff.1 hcc'
              refine ⟨_,load_run hT hti (fun k=>cc i (j+k)) (fun k hk=>hcell k (by omega)),?_⟩
              rw [if_neg hag]
              have h00:=hval 0 (by omega)
              simp only [Nat.add_zero,List.getD_eq_getElem?_getD,hcc',Option.getD_some] at h00;split at h
              · rename_i hkd;cases h;have this:=h00 (.inl hkd);rw [if_pos hkd] at this;simpa using this
              · rename_i hkd;split at h
                · cases h
                rename_i hsf;cases h
                have this:=h00 (.inr (by
                 rcases Classical.em X.soft with hx|hx
                 · exact .inr (by
                     cases ho:cc'.ownTop with
                     | false=>rfl
                     | true=>exact absurd ⟨hS.sft.1 hx,ho⟩ hsf)
                 · exact .inl hx))
                rw [if_neg (by simpa using hkd)] at this
                simpa using this
   · rename_i q sz els i j;split at h
     · cases h
     · rename_i row hrow
       cases hv with
       | tp q hq sz els i j v hr =>
        cases hr with
        | tp q sz els i j g p cc hrows hA hc hr =>
         obtain ⟨hilt,hrow'⟩:=List.getElem?_eq_some_iff.1 hrow
         have hrl:row.length=sz:=hrows row (hrow'▸List.getElem_mem hilt)
         have hcell:∀k,j+k<sz→w.cell? ⟨g,p+i*sz+j+k,none⟩=some (cc i (j+k)):=fun k hk=>by
          rw [Nat.add_assoc];exact hc i (j+k) hilt hk
         have hval:∀k,j+k<sz→VR w X (setTop q (row.getD (j+k) .undef)) (cc i (j+k)):=fun k hk=>by
          have h0:=hr i (j+k) hilt hk;rw [at2_of hrow] at h0;exact h0.slot hq
         split at h
         · rename_i hag;split at h
           · rename_i hlen;cases h
             refine ⟨_,load_run hT hti (fun k=>cc i (j+k)) (fun k hk=>hcell k (by omega)),?_⟩
             rw [if_pos hag]
             refine .agg _ _ (by simp;omega) (fun k hk=>?_)
             have hk':k<ti.size:=by simp at hk;omega
             have hk2:j+k<row.length:=by omega
             have:=hval k (by omega)
             simpa [List.getD_eq_getElem?_getD,List.getElem?_take,List.getElem?_drop,hk',hk2] using this
           · cases h
         · rename_i hag
           have h1:=hagg1 (by simpa using hag)
           split at h<;>cases h
           rename_i cc' hcc';obtain ⟨hjlt,_⟩:=List.getElem?_eq_some_iff.1 hcc'
           refine ⟨_,load_run hT hti (fun k=>cc i (j+k)) (fun k hk=>hcell k (by omega)),?_⟩
           rw [if_neg hag]
           have:=hval 0 (by omega)
           simp only [Nat.add_zero,List.getD_eq_getElem?_getD,hcc',Option.getD_some] at this;simpa using this
   · cases h
theorem op_load (hT:TabOk P T)(hS:SR T w X S)(hf:FrR w X fr a){t:Nat}{x:Operand}(hop:o.op=.load t x)
    (h:evOp T C o.op fr S=some (v,S')):Good T P o a w X v S':=by
 rw [hop] at h;simp only [evOp] at h;split at h
 · rename_i av hx
   split at h<;>cases h
   rename_i hl;obtain ⟨v',h1,h2⟩:=load_ok hT hS (evO_ok hf hx) hl
   exact Good.still hS v' (by simp only [execOp,hop,Sem.run_bind,h1,Result.andThen_ok,Sem.run_pure]) h2
 · cases h
theorem evParts_ok (hf:FrR w X fr a):∀(l:List (Nat×Operand)) (ps:List (Nat×AV)),evParts fr l=some ps →
    All2 (fun (p:Nat×AV) (q:Nat×Value)=>p.1=q.1∧VR w X p.2 q.2) ps (l.map fun (i,x)=>(i,a.eval x)):=by
 intro l
 induction l with
 | nil=>intro ps h;simp [evParts] at h;subst h;exact .nil
 | cons p r ih =>
  obtain ⟨i,x⟩:=p;intro ps h;simp only [evParts] at h;split at h
  · cases h
  · rename_i v hv
    split at h<;>cases h
    rename_i vs hvs;exact .cons ⟨rfl,evO_ok hf hv⟩ (ih vs hvs)
theorem foldl_set (off:Nat):∀(vs:List Value) (k:Nat) (cells:Array Value),
    ((vs.zipIdx k).foldl (fun cs (x:Value×Nat)=>cs.setIfInBounds (off+x.2) x.1) cells).size=cells.size ∧
    ∀m,((vs.zipIdx k).foldl (fun cs (x:Value×Nat)=>cs.setIfInBounds (off+x.2) x.1) cells)[m]? =
     if off+k≤m∧m<off+k+vs.length∧m<cells.size then vs[m-(off+k)]? else cells[m]?:=by
 intro vs
 induction vs with
 | nil=>intro k cells;exact ⟨rfl,fun m=>by rw [if_neg (by simp;omega)];rfl⟩
 | cons v vs ih =>
  intro k cells;simp only [List.zipIdx_cons,List.foldl_cons];obtain ⟨h1,h2⟩:=ih (k+1) (cells.setIfInBounds (off+k) v)
  refine ⟨by rw [h1];simp,fun m=>?_⟩
  rw [h2 m];simp only [Array.size_setIfInBounds,List.length_cons,Array.getElem?_setIfInBounds]
  by_cases hm:off+k=m
  · subst hm
    have c1:¬(off+(k+1)≤off+k∧off+k<off+(k+1)+vs.length∧off+k<cells.size):=by omega
    rw [if_neg c1]
    by_cases hlt:off+k<cells.size
    · have c2:off+k≤off+k∧off+k<off+k+(vs.length+1)∧off+k<cells.size:=by omega
      rw [if_pos c2];simp [hlt]
    · have c2:¬(off+k≤off+k∧off+k<off+k+(vs.length+1)∧off+k<cells.size):=by omega
      rw [if_neg c2];simp [hlt]
  · by_cases hr:off+(k+1)≤m∧m<off+(k+1)+vs.length∧m<cells.size
    · have c2:off+k≤m∧m<off+k+(vs.length+1)∧m<cells.size:=by omega
      rw [if_pos hr,if_pos c2]
      obtain ⟨d,hd⟩:∃d,m-(off+k)=d+1:=⟨m-(off+k)-1,by omega⟩
      rw [hd,List.getElem?_cons_succ]
      congr 1;omega
    · have c2:¬(off+k≤m∧m<off+k+(vs.length+1)∧m<cells.size):=by omega
      rw [if_neg hr,if_neg hm,if_neg c2]
def CL (w:World)(X:Cx)(cs:List AV)(cv:Array Value):Prop :=
 cs.length=cv.size∧∀i,i<cs.length→VR w X (cs.getD i .undef) (cv.getD i Go.undef)
theorem splice_length {row:List AV}{j:Nat}{cs:List AV}(h:j+cs.length≤row.length):(splice row j cs).length=row.length:=by
 simp [splice];omega
theorem splice_get {row:List AV}{j:Nat}{cs:List AV}(h:j+cs.length≤row.length)(m:Nat) :
    (splice row j cs)[m]?=if j≤m∧m<j+cs.length then cs[m-j]? else row[m]?:=by
 unfold splice
 by_cases h1:m<j
 · rw [if_neg (by omega),List.getElem?_append_left (by simp;omega),List.getElem?_append_left (by simp;omega)]
   simp [h1]
 · by_cases h2:m<j+cs.length
   · rw [if_pos (by omega),List.getElem?_append_left (by simp;omega),List.getElem?_append_right (by simp;omega)]
     congr 1;simp;omega
   · rw [if_neg (by omega),List.getElem?_append_right (by simp;omega)]
     simp [List.getElem?_drop]
     congr 1;omega
theorem CL.splice {cells:List AV}{arr:Array Value}(h:CL w X cells arr){off:Nat}{av:AV}{u:Value}(hv:VR w X av u)(hfit:off+av.cells.length≤cells.length) :
    CL w X (Pi.splice cells off av.cells) (u.cells.zipIdx.foldl (fun cs (x:Value×Nat)=>cs.setIfInBounds (off+x.2) x.1) arr):=by
 obtain ⟨hl,hc⟩:=h;obtain ⟨hvl,hvc⟩:=hv.cells
 have e:(u.cells.zipIdx.foldl (fun cs (x:Value×Nat)=>cs.setIfInBounds (off+x.2) x.1) arr)=(u.cells.toList.zipIdx 0).foldl (fun cs (x:Value×Nat)=>cs.setIfInBounds (off+x.2) x.1) arr:=by
  rw [←Array.foldl_toList];simp
 rw [e];obtain ⟨f1,f2⟩:=foldl_set off u.cells.toList 0 arr
 refine ⟨by rw [splice_length hfit,f1,hl],fun i hi=>?_⟩
 rw [splice_length hfit] at hi;simp only [List.getD_eq_getElem?_getD,Array.getD_eq_getD_getElem?,f2,splice_get hfit,Nat.add_zero]
 by_cases hin:off≤i∧i<off+av.cells.length
 · rw [if_pos hin,if_pos (by omega)]
   have:=hvc (i-off) (by omega)
   simpa [List.getD_eq_getElem?_getD] using this
 · rw [if_neg hin,if_neg (by omega)]
   have:=hc i hi;simpa [List.getD_eq_getElem?_getD,Array.getD_eq_getD_getElem?] using this
theorem fill_ok {place:Nat→Option (Nat×Nat)}{fields:List (Nat×Nat×Bool)}(hp:∀i off size b,fields[i]?=some (off,size,b)→place i=some (off,size)) :
    ∀ {ps:List (Nat×AV)} {qs:List (Nat×Value)},All2 (fun (p:Nat×AV) (q:Nat×Value)=>p.1=q.1∧VR w X p.2 q.2) ps qs →
    ∀ {cells:List AV} {arr:Array Value} {cs:List AV},CL w X cells arr→fillAgg fields cells ps=some cs→∃arr',Instr.fill place arr qs=some arr'∧CL w X cs arr':=by
 intro ps qs h
 induction h with
 | nil=>intro cells arr cs hc h;simp [fillAgg] at h;subst h;exact ⟨arr,rfl,hc⟩
 | @cons p q ps qs hpq _ ih =>
  obtain ⟨i,av⟩:=p;obtain ⟨i',u⟩:=q;obtain ⟨hii,hv⟩:=hpq;simp only at hii hv;subst hii;intro cells arr cs hc h;simp only [fillAgg] at h;split at h
  · cases h
  · rename_i off size b hf;split at h
    · rename_i hsz;obtain ⟨h1,h2⟩:=hsz
      have hvl:av.cells.length=u.cells.size:=by simpa using hv.cells.1
      obtain ⟨arr',k1,k2⟩:=ih (hc.splice hv (by omega)) h
      refine ⟨arr',?_,k2⟩;have hl:=hc.1;simp only [Instr.fill,hp _ _ _ _ hf]
      have c1:(decide (u.cells.size≠size)||decide (off+u.cells.size > arr.size))=false:=by simp;omega
      rw [c1];simp only [Bool.false_eq_true,if_false];exact k1
    · cases h
theorem places_of:∀(fs:List Field) (flds:List (Nat×Nat×Bool)),fs.length=flds.length →
    (∀(j:Nat) (f:Field),fs[j]?=some f→∃i d,P.info? f.type=some i∧P.underlying f.type=some d∧flds[j]?=some (f.offset,i.size,isAggD d)) →
    fs.mapM (fun f=>(P.info? f.type).map fun i=>(f.offset,i.size))=some (flds.map fun x=>(x.1,x.2.1)):=by
 intro fs
 induction fs with
 | nil=>intro flds hl _;cases flds with
  | nil=>rfl
  | cons _ _=>simp at hl
 | cons f fs ih =>
  intro flds hl h
  cases flds with
  | nil=>simp at hl
  | cons x flds =>
   obtain ⟨i,d,hi,hd,hx⟩:=h 0 f rfl;simp only [List.getElem?_cons_zero,Option.some.injEq] at hx;subst hx
   have:=ih flds (by simpa using hl) (fun j f' hj=>h (j+1) f' (by simpa using hj))
   simp [List.mapM_cons,hi,this]
theorem op_build (hT:TabOk P T)(hS:SR T w X S)(hf:FrR w X fr a){t:Nat}{parts:Array (Nat×Operand)}(hop:o.op=.build t parts)
    (h:evOp T C o.op fr S=some (v,S')):Good T P o a w X v S':=by
 rw [hop] at h;simp only [evOp] at h;split at h
 · rename_i ti ps hti hps;split at h
   · rename_i hag
     split at h<;>cases h
     rename_i cs hcs;have hok:=hT.ty _ _ hti;obtain ⟨i,zv,hi,hs,hb,hz,hzc,e1,e2⟩:=hok.run_info;have hparts:=evParts_ok hf _ _ hps
     have hzero:CL w X ti.zero zv.cells:=by
      refine ⟨by rw [←Array.length_toList,hzc];simp,fun j hj=>?_⟩
      have:zv.cells.getD j Go.undef=(ti.zero.map zOf).getD j Go.undef:=by rw [←hzc];simp [List.getD_eq_getElem?_getD,Array.getD_eq_getD_getElem?]
      rw [this];have hzk:zOk ti.zero[j]=true:=List.all_eq_true.1 hok.zok _ (List.getElem_mem hj);simpa [List.getD_eq_getElem?_getD,hj] using zOf_ok w X hzk
     have hne:ti.fields≠[]:=by intro hn;rw [hn] at hag;simp at hag
     obtain ⟨fs,hu,hfl,hfs⟩:=hok.fields hne
     have hplaces:=places_of fs.toList ti.fields (by simpa using hfl) (fun j f hj=>hfs j f (by simpa using hj))
     obtain ⟨arr,k1,k2⟩:=fill_ok (place:=fun i=>(ti.fields.map fun x=>(x.1,x.2.1))[i]?) (fun i off size b hf=>by simp [hf]) hparts hzero hcs
     have hbuilt:P.built t (parts.map fun (i,x)=>(i,a.eval x)).toList=some arr:=by
      unfold Program.built;rw [hi,hu];simp only [hz,hplaces];simpa using k1
     refine Good.still hS (.agg arr) (by simp only [execOp,hop,Sem.run_bind,run_build w t _ arr hbuilt,Result.andThen_ok,Sem.run_pure]) ?_
     have e:arr=arr.toList.toArray:=by simp
     rw [e]
     refine .agg cs arr.toList (by rw [k2.1];simp) (fun j hj=>?_)
     have:=k2.2 j hj;simpa [List.getD_eq_getElem?_getD,Array.getD_eq_getD_getElem?] using this
   · cases h
 · cases h
end Go.Pi

namespace Go.Pi
open Go
variable {P:Program} {T:Tab} {o:Oper} {a:Act} {w w':World} {X X':Cx} {fr:Fr} {S S':St} {v:AV} {C:Nat→List AV→St→Option (AV×St)} {mb:Nat}
theorem CR.reloc (s:Stp w X w' X'){id rid:Nat}(ρ:Nat×Nat→Nat×Nat)(hρ:∀b off,X.par b≠none→ρ (b,off)=(b,off))
    (H:∀b,b<w.heap.size→X.root b=some id→X.par b≠none→X'.root b=some rid∧X'.par b=(X.par b).map ρ)
    (Hs:X.soft→∀b,b<w.heap.size→X.root b=some id→X.par b≠none→w'.heap[b]?=w.heap[b]?)
    {loc:Nat×Nat} {av:AV} {v:Value} (h:CR w X id loc av v):CR w' X' rid (ρ loc) av v:=by
 induction h with
 | int loc k n=>exact .int _ k n
 | bool loc b=>exact .bool _ b
 | str loc s=>exact .str _ s
 | nil loc=>exact .nil _
 | nilp loc=>exact .nilp _
 | fn loc f=>exact .fn _ f
 | ts loc q hq sz els v h=>exact .ts _ q hq sz els v (h.stp s)
 | tp loc q hq sz els i j v h=>exact .tp _ q hq sz els i j v (h.stp s)
 | own loc sz els A cap g o c hrow hcap hA hc _ ih =>
  have key:0<cap→X.par g≠none∧w'.heap[g]?=w.heap[g]?∧X'.root g=some rid∧X'.par g=some (ρ loc):=fun hn=>by
   obtain ⟨_,h2,h3,hnp,cur,e,h4,_⟩:=hA hn;have hlt:g<w.heap.size:=(Array.getElem?_eq_some_iff.1 h4).1
   have hp:X.par g≠none:=by rw [h3];simp
   obtain ⟨k1,k2⟩:=H g hlt h2 hp
   refine ⟨hp,?_,k1,by rw [k2,h3];rfl⟩
   rcases Classical.em X.soft with hsf|hsf
   · exact Hs hsf g hlt h2 hp
   · exact (s.keep g hlt (fun hr=>absurd (Cx.firm_par hsf hr) hp)).1
  refine .own _ sz els A cap g o c hrow hcap (fun hn=>?_) (fun i j hi hj=>?_) (fun i j hi hj=>?_)
  · obtain ⟨h1,h2,h3,hnp,cur,e,h4,h5⟩:=hA hn;obtain ⟨_,k1,k2,k3⟩:=key hn
    exact ⟨h1,k2,k3,by rw [s.pro];exact hnp,cur,e,k1.trans h4,h5⟩
  · obtain ⟨_,k1,_,_⟩:=key (by omega)
    rw [World.cell?_heap (w:=w) k1];exact hc i j hi hj
  · have:=ih i j hi hj
    rw [hρ g _ (key (by omega)).1] at this
    exact this
theorem OK.keep {id:Nat}{ob:Ob}(h:OK w X id ob)(s:Stn w X w' X')(hid:id<X.N)
    (hl:∀b,b<w.heap.size→X.root b=some id→X'.root b=some id∧X'.par b=X.par b)
    (hw:∀I,X.φ id=some I→w'.heap[I.g]?=w.heap[I.g]?)
    (Hs:X.soft→∀b,b<w.heap.size→X.root b=some id→X.par b≠none→w'.heap[b]?=w.heap[b]?):OK w' X' id ob:=by
 unfold OK at h ⊢;rw [s.φ id hid]
 cases hI:X.φ id with
 | none=>rw [hI] at h;exact h
 | some I =>
  rw [hI] at h;obtain ⟨c,hor⟩:=h;obtain ⟨cur,e,hb,hs⟩:=hor.blk;have hlt:I.g<w.heap.size:=(Array.getElem?_eq_some_iff.1 hb).1;obtain ⟨l1,l2⟩:=hl I.g hlt hor.root;have hwg:=hw I hI
  refine ⟨c,hor.sz,hor.rows,l1,l2.trans hor.par,by rw [s.pro];exact hor.npro,⟨cur,e,hwg.trans hb,hs⟩,hor.fits,fun i j hi hj=>?_,fun i j hi hj=>?_⟩
  · rw [World.cell?_heap (w:=w) hwg];exact hor.cell i j hi hj
  · have:=hor.val i j hi hj
    by_cases hk:ob.kd=.box
    · rw [if_pos hk] at this ⊢;exact this.stn s
    · rw [if_neg hk] at this ⊢;exact this.keep s.toStp (fun b hb hr _=>hl b hb hr) Hs
def Cx.add (X:Cx)(id g:Nat)(I:Option Info):Cx where
 N:=X.N+1
 root b:=if b=g∧I.isSome=true then some id else X.root b
 par b:=if b=g∧I.isSome=true then none else X.par b
 φ i:=if i=id then I else X.φ i
 pro:=X.pro
 soft:=X.soft
theorem getOb_append {S:St}{ob:Ob}{id:Nat}{ob':Ob}(h:getOb (S++[some ob]) id=some ob'):(id<S.length∧getOb S id=some ob')∨(id=S.length∧ob'=ob):=by
 unfold getOb at h
 by_cases hlt:id<S.length
 · rw [List.getElem?_append_left hlt] at h;exact .inl ⟨hlt,h⟩
 · rw [List.getElem?_append_right (by omega)] at h
   by_cases he:id-S.length=0
   · rw [he] at h;simp at h
     exact .inr ⟨by omega,h.symm⟩
   · obtain ⟨d,hd⟩:∃d,id-S.length=d+1:=⟨id-S.length-1,by omega⟩
     rw [hd] at h;simp at h
theorem alloc_heap (w:World)(ob:Obj)(b:Nat)(hb:b<w.heap.size):(w.alloc ob).heap[b]?=w.heap[b]?:=by
 show (w.heap.push ob)[b]?=_;rw [Array.getElem?_push,if_neg (Nat.ne_of_lt hb)]
theorem alloc_new (w:World)(ob:Obj):(w.alloc ob).heap[w.heap.size]?=some ob:=by
 show (w.heap.push ob)[w.heap.size]?=_;simp
theorem alloc_size (w:World)(ob:Obj):(w.alloc ob).heap.size=w.heap.size+1:=by
 show (w.heap.push ob).size=_;simp
theorem stn_alloc (hS:SR T w X S)(ob:Obj)(I:Option Info):Stn w X (w.alloc ob) (X.add X.N w.heap.size I):=by
 refine ⟨⟨rfl,⟨rfl,Nat.le_refl _⟩,rfl,by rw [alloc_size];omega,fun b hb hr=>⟨alloc_heap w ob b hb,?_⟩,fun b hb hr=>?_,?_,?_⟩,by simp [Cx.add],fun id hid=>?_⟩
 · have:b≠w.heap.size:=by omega
   simpa [Cx.isRoot,Cx.add,this] using hr
 · have:b≠w.heap.size:=by omega
   simpa [Cx.add,this] using hr
 · rfl
 · rfl
 · have:id≠X.N:=by omega
   simp [Cx.add,this]
theorem sr_alloc (hS:SR T w X S){cur:Array Value}{e:TypeId}{ob:Ob}(c:Nat→Nat→Value)(hrows:∀r∈ob.els,r.length=ob.sz)
    (hfit:ob.els.length*ob.sz≤cur.size) (hc:∀i j,i<ob.els.length→j<ob.sz→cur[i*ob.sz+j]?=some (c i j))
    (hval:∀i j,i<ob.els.length→j<ob.sz→if ob.kd=.box then VR w X (at2 ob.els i j) (c i j)
     else CR w X X.N (w.heap.size,i*ob.sz+j) (at2 ob.els i j) (c i j)) :
    Stn w X (w.alloc (.cells cur e (0,0))) (X.add X.N w.heap.size (some ⟨w.heap.size,0,ob.sz,cur.size⟩)) ∧
    SR T (w.alloc (.cells cur e (0,0))) (X.add X.N w.heap.size (some ⟨w.heap.size,0,ob.sz,cur.size⟩)) (S++[some ob]):=by
 have s:=stn_alloc hS (.cells cur e (0,0)) (some ⟨w.heap.size,0,ob.sz,cur.size⟩)
 refine ⟨s,by simp [Cx.add,hS.n],fun b hb=>?_,fun b hb=>by have:=hS.pro b hb;rw [alloc_size];omega,fun id ob' h=>?_,hS.sft⟩
 · by_cases he:b=w.heap.size
   · subst he;rw [alloc_size];omega
   · have:=hS.lab b (by simpa [Cx.add,he] using hb)
     rw [alloc_size];omega
 · rcases getOb_append h with ⟨hlt,h'⟩|⟨rfl,rfl⟩
   · refine (hS.obs id ob' h').keep s (by rw [hS.n];exact hlt) (fun b hb hr=>?_) (fun I hI=>?_) ?_
     · have:b≠w.heap.size:=by omega
       simp [Cx.add,this,hr]
     · obtain ⟨c',hor⟩:=row_of hS h' hI;obtain ⟨cur',e',hb,_⟩:=hor.blk;exact alloc_heap w _ _ (Array.getElem?_eq_some_iff.1 hb).1
     · exact fun _ b hb _ _=>alloc_heap w _ b hb
   · unfold OK
     have e1:(X.add X.N w.heap.size (some ⟨w.heap.size,0,ob'.sz,cur.size⟩)).φ S.length=some ⟨w.heap.size,0,ob'.sz,cur.size⟩:=by simp [Cx.add,hS.n]
     rw [e1]
     refine ⟨c,rfl,hrows,by simp [Cx.add,hS.n],by simp [Cx.add],fun hp=>absurd (hS.pro _ hp) (by simp),⟨cur,e,alloc_new w _,rfl⟩,by simpa using hfit,fun i j hi hj=>?_,fun i j hi hj=>?_⟩
     · simp only [World.cell?,alloc_new];simpa using hc i j hi hj
     · have:=hval i j hi hj
       by_cases hk:ob'.kd=.box
       · rw [if_pos hk] at this ⊢;exact this.stn s
       · rw [if_neg hk] at this ⊢;rw [hS.n] at this;simp only [Nat.zero_add]
         refine this.keep s.toStp (fun b hb hr _=>?_) (fun _ b hb _ _=>alloc_heap w _ b hb)
         have:b≠w.heap.size:=by omega
         simp [Cx.add,this,hr]
theorem Good.one (w':World)(X':Cx)(s:Stn w X w' X')(h':SR T w' X' S')(v':Value)(hr:(execOp a.eval o).run P w=.ok (.value v') w')(hv:VR w' X' v v') :
    Good T P o a w X v S':=by
 intro next Q h;unfold Oper.wp;rw [hr,Oper.upon_value];exact h v' w' X' s h' hv
theorem op_alloc (hT:TabOk P T)(hS:SR T w X S){t:Nat}(hop:o.op=.alloc t)(h:evOp T C o.op fr S=some (v,S')):Good T P o a w X v S':=by
 rw [hop] at h;simp only [evOp] at h
 split at h<;>cases h
 rename_i ti hti;have hok:=hT.ty _ _ hti;obtain ⟨i,zv,hi,hs,hb,hz,hzc,e1,e2⟩:=hok.run_info
 have hzl:zv.cells.size=ti.size:=by rw [←Array.length_toList,hzc];simp [hok.zlen]
 obtain ⟨s,hS'⟩:=sr_alloc (e:=t) (cur:=zv.cells) (ob:=⟨.box,ti.size,[ti.zero]⟩) hS (fun _ j=>(zv.cells.toList).getD j Go.undef)
  (by simp [hok.zlen]) (by simp [hzl]) (fun i j hi hj=>by
   simp at hi;subst hi
   have:j<zv.cells.size:=by simpa [hzl] using hj
   simp [this,List.getD_eq_getElem?_getD]) (fun i j hi hj=>by
   simp at hi;subst hi;rw [if_pos rfl]
   have hj':j<ti.zero.length:=by simpa [hok.zlen] using hj
   have hzk:zOk ti.zero[j]=true:=List.all_eq_true.1 hok.zok _ (List.getElem_mem hj')
   simpa [at2,hzc,List.getD_eq_getElem?_getD,hj'] using zOf_ok w X hzk)
 refine Good.one _ _ s hS' (.pointer (some ⟨w.heap.size,0,none⟩)) ?_ ?_
 · simp only [execOp,hop,Instr.alloc,Sem.run_bind,e2,Result.andThen_ok,newVar,newRow,run_newObj_alloc,Sem.run_pure]
 · have:=VR.ptr (w:=w.alloc (.cells zv.cells t (0,0))) (X:=X.add X.N w.heap.size (some ⟨w.heap.size,0,ti.size,zv.cells.size⟩)) S.length 0 0 ⟨w.heap.size,0,ti.size,zv.cells.size⟩ (by simp [Cx.add,hS.n]) (by simp [Cx.add,hS.n])
   simpa using this
theorem op_box (hS:SR T w X S)(hf:FrR w X fr a){t:Nat}{x:Operand}(hop:o.op=.box t x)(h:evOp T C o.op fr S=some (v,S')):Good T P o a w X v S':=by
 rw [hop] at h;simp only [evOp] at h;split at h
 · rename_i ti av hti hx
   split at h<;>cases h
   rename_i hl;obtain ⟨h1,h2⟩:=(evO_ok hf hx).cells
   have hzl:(a.eval x).cells.size=ti.size:=by rw [←hl,h1];simp
   obtain ⟨s,hS'⟩:=sr_alloc (e:=t) (cur:=(a.eval x).cells) (ob:=⟨.box,ti.size,[av.cells]⟩) hS (fun _ j=>((a.eval x).cells.toList).getD j Go.undef)
    (by simp [hl]) (by simp [hzl]) (fun i j hi hj=>by
     simp at hi;subst hi
     have:j<(a.eval x).cells.size:=by simpa [hzl] using hj
     simp [this,List.getD_eq_getElem?_getD]) (fun i j hi hj=>by
     simp at hi;subst hi;rw [if_pos rfl]
     have:=h2 j (by rw [hl];exact hj)
     simpa [at2] using this)
   refine Good.one _ _ s hS' (.pointer (some ⟨w.heap.size,0,none⟩)) ?_ ?_
   · simp only [execOp,hop,Instr.box,Sem.run_bind,newVar,newRow,run_newObj_alloc,Result.andThen_ok,Sem.run_pure]
   · have:=VR.ptr (w:=w.alloc (.cells (a.eval x).cells t (0,0))) (X:=X.add X.N w.heap.size (some ⟨w.heap.size,0,ti.size,(a.eval x).cells.size⟩)) S.length 0 0 ⟨w.heap.size,0,ti.size,(a.eval x).cells.size⟩ (by simp [Cx.add,hS.n]) (by simp [Cx.add,hS.n])
     simpa using this
 · cases h
end Go.Pi

namespace Go.Pi
open Go
variable {P:Program} {T:Tab} {o:Oper} {a:Act} {w w':World} {X X':Cx} {fr:Fr} {S S':St} {v:AV} {C:Nat→List AV→St→Option (AV×St)} {mb:Nat}
theorem getOb_kill {S:St}{id id':Nat}{ob:Ob}(h:getOb (S.set id none) id'=some ob):id'≠id∧getOb S id'=some ob:=by
 unfold getOb at h ⊢;rw [List.getElem?_set] at h
 by_cases he:id=id'
 · subst he
   by_cases hlt:id<S.length
   · simp [hlt] at h
   · simp [hlt] at h
 · simp only [he,if_false] at h
   exact ⟨fun k=>he k.symm,h⟩
theorem getOb_set {S:St}{id id':Nat}{ob ob':Ob}(h:getOb (S.set id (some ob')) id'=some ob):(id'=id∧ob=ob')∨(id'≠id∧getOb S id'=some ob):=by
 unfold getOb at h ⊢;rw [List.getElem?_set] at h
 by_cases he:id=id'
 · subst he
   by_cases hlt:id<S.length
   · simp [hlt] at h;exact .inl ⟨rfl,h.symm⟩
   · simp [hlt] at h
 · simp only [he,if_false] at h
   exact .inr ⟨fun k=>he k.symm,h⟩
def Cx.pass (X:Cx)(id rid g:Nat)(loc:Nat×Nat):Cx where
 N:=X.N
 root b:=if X.root b=some id then some rid else X.root b
 par b:=if b=g then some loc else X.par b
 φ:=X.φ
 pro:=X.pro
 soft:=X.soft
def Cx.drop (X:Cx)(id:Nat):Cx where
 N:=X.N
 root b:=if X.root b=some id then none else X.root b
 par:=X.par
 φ:=X.φ
 pro:=X.pro
 soft:=X.soft
theorem stn_pass {id g rid:Nat}{loc:Nat×Nat}(_hg:X.par g=none):Stn w X w (X.pass id rid g loc):=by
 refine ⟨⟨rfl,⟨rfl,Nat.le_refl _⟩,rfl,Nat.le_refl _,fun b hb hr=>⟨rfl,?_⟩,fun b hb hr=>?_,rfl,rfl⟩,Nat.le_refl _,fun _ _=>rfl⟩
 · rintro ⟨h1,h2⟩
   simp only [Cx.pass] at h1 h2
   by_cases hbg:b=g
   · simp [hbg] at h2
     exact hr ⟨fun hn=>by simp [hn] at h1,.inr h2⟩
   · simp only [hbg,if_false] at h2
     exact hr ⟨fun hn=>by simp [hn] at h1,h2⟩
 · simp [Cx.pass,hr]
theorem stn_drop {id:Nat}:Stn w X w (X.drop id):=by
 refine ⟨⟨rfl,⟨rfl,Nat.le_refl _⟩,rfl,Nat.le_refl _,fun b hb hr=>⟨rfl,?_⟩,fun b hb hr=>?_,rfl,rfl⟩,Nat.le_refl _,fun _ _=>rfl⟩
 · rintro ⟨h1,h2⟩
   simp only [Cx.drop] at h1 h2
   exact hr ⟨fun hn=>by simp [hn] at h1,h2⟩
 · simp [Cx.drop,hr]
theorem sr_drop (hS:SR T w X S)(id:Nat):SR T w (X.drop id) (S.set id none):=by
 refine ⟨by simp [Cx.drop,hS.n],fun b hb=>hS.lab b (fun hn=>by simp [Cx.drop,hn] at hb),hS.pro,fun id' ob h=>?_,hS.sft⟩
 obtain ⟨hne,h'⟩:=getOb_kill h
 refine (hS.obs id' ob h').keep stn_drop (by rw [hS.n];exact getOb_lt h') (fun b hb hr=>?_) (fun _ _=>rfl) (fun _ _ _ _ _=>rfl)
 have:¬X.root b=some id:=by rw [hr];simpa using hne
 simp [Cx.drop,hr,hne]
theorem sr_pass (hS:SR T w X S){id rid g:Nat}{loc:Nat×Nat}(hg:X.root g=some id)(hp:X.par g=none):SR T w (X.pass id rid g loc) (S.set id none):=by
 refine ⟨by simp [Cx.pass,hS.n],fun b hb=>hS.lab b (fun hn=>by simp [Cx.pass,hn] at hb),hS.pro,fun id' ob h=>?_,hS.sft⟩
 obtain ⟨hne,h'⟩:=getOb_kill h
 refine (hS.obs id' ob h').keep (stn_pass hp) (by rw [hS.n];exact getOb_lt h') (fun b hb hr=>?_) (fun _ _=>rfl) (fun _ _ _ _ _=>rfl)
 have hbg:b≠g:=by rintro rfl;rw [hg] at hr;simp at hr;exact hne hr.symm
 simp [Cx.pass,hr,hne,hbg]
theorem at2_window {els:List (List AV)}{lo n i:Nat}(hi:i<n)(j:Nat):at2 (window els lo n) i j=at2 els (lo+i) j:=by
 simp [at2,window,List.getD_eq_getElem?_getD,List.getElem?_drop,hi]
theorem window_length {els:List (List AV)}{lo n:Nat}(h:lo+n≤els.length):(window els lo n).length=n:=by
 simp [window];omega
theorem window_mem {els:List (List AV)}{lo n:Nat}{r:List AV}(h:r∈window els lo n):r∈els:=List.mem_of_mem_drop (List.mem_of_mem_take h)
theorem absorb_ok (hS:SR T w X S){e:Nat}{c c':AV}{S1:St}{u:Value}(h:absorb S e c=some (c',S1))(hv:VR w X c u)(rid:Nat)(loc:Nat×Nat)
    (hrid:∀id lo n,c=.sl id lo n→id≠rid) :
    ∃X1,Stn w X w X1∧SR T w X1 S1∧CR w X1 rid loc c' u∧X1.N=X.N∧X1.φ=X.φ∧(∀b,X.root b=some rid→X1.root b=some rid∧(X.par b≠none→X1.par b=X.par b)) ∧
     (∀b,X.root b=some rid→X.par b=none→X1.par b=none):=by
 have same : ∀ {c'' : AV} {S2 : St}, S2 = S → CR w X rid loc c'' u → some (c'', S2) = some (c', S1) →
     ∃X1,Stn w X w X1∧SR T w X1 S1∧CR w X1 rid loc c' u∧X1.N=X.N∧X1.φ=X.φ∧(∀b,X.root b=some rid→X1.root b=some rid∧(X.par b≠none→X1.par b=X.par b)) ∧
     (∀b,X.root b=some rid→X.par b=none→X1.par b=none):=by
  intro c'' S2 hS2 hc he;cases he;subst hS2
  exact ⟨X,Stn.refl w X,hS,hc,rfl,rfl,fun b hb=>⟨hb,fun _=>rfl⟩,fun b _ hp=>hp⟩
 unfold absorb at h;split at h
 · cases hv
   exact same rfl (.own loc e [] none 0 0 0 (fun _ _=>undef) (by simp) (by simp) (by simp) (by simp) (by simp)) h
 · rename_i id lo n;split at h
   · cases h
   · rename_i ob hob;split at h
     · rename_i hc;obtain ⟨hkd,hsz,hln⟩:=hc;have hne:id≠rid:=hrid id lo n rfl;cases h
       cases hv with
       | sl id lo n cap I hid hI hn hcap hm =>
        obtain ⟨cc,hor⟩:=row_of hS hob hI
        refine ⟨X.pass id rid I.g loc,stn_pass hor.par,sr_pass hS hor.root hor.par,?_,rfl,rfl,fun b hb=>?_,fun b hb hp=>?_⟩
        · have hwl:=window_length (els:=ob.els) hln
          have key:CR w (X.pass id rid I.g loc) rid loc (.ts .own e (window ob.els lo n)) (.slice (some ⟨I.g,I.o+lo*I.sz,none⟩) (window ob.els lo n).length cap):=by
           refine .own loc e _ _ cap I.g (I.o+lo*I.sz) (fun i j=>cc (lo+i) j) (fun r hr=>(hor.rows r (window_mem hr)).trans hsz) (by omega) (fun hpos=>?_) (fun i j hi hj=>?_) (fun i j hi hj=>?_)
           · obtain ⟨cur,e',hb,hbs⟩:=hor.blk
             refine ⟨rfl,by simp [Cx.pass,hor.root],by simp [Cx.pass],hor.npro,cur,e',hb,?_,hm⟩
             rw [hbs,←hsz,←hor.sz]
             have:I.o+lo*I.sz+cap*I.sz=I.o+(lo+cap)*I.sz:=by rw [Nat.add_mul];omega
             omega
           · rw [hwl] at hi
             have:=hor.cell (lo+i) j (by omega) (by omega)
             have e1:I.o+lo*I.sz+i*e+j=I.o+(lo+i)*I.sz+j:=by rw [Nat.add_mul,hor.sz,hsz];omega
             rw [e1];exact this
           · rw [hwl] at hi;rw [at2_window hi]
             have hval:=hor.val (lo+i) j (by omega) (by omega)
             rw [if_neg hkd] at hval
             have e1:I.o+lo*I.sz+i*e+j=I.o+(lo+i)*I.sz+j:=by rw [Nat.add_mul,hor.sz,hsz];omega
             rw [e1]
             refine hval.reloc (stn_pass hor.par).toStp (fun x=>x) (fun _ _ _=>rfl) (fun b hb hr hp=>?_) (fun _ _ _ _ _=>rfl)
             have hbg:b≠I.g:=by rintro rfl;exact hp hor.par
             simp [Cx.pass,hr,hbg]
          rw [hwl] at key;exact key
        · have hbg:b≠I.g:=by rintro rfl;rw [hor.root] at hb;simp at hb;exact hne hb
          have:¬rid=id:=fun k=>hne k.symm
          simp [Cx.pass,hb,this,hbg]
        · have hbg:b≠I.g:=by rintro rfl;rw [hor.root] at hb;simp at hb;exact hne hb
          simp [Cx.pass,hp,hbg]
       | slz id lo A hid =>
        refine ⟨X.drop id,stn_drop,sr_drop hS id,?_,rfl,rfl,fun b hb=>?_,fun b hb hp=>hp⟩
        · have:window ob.els lo 0=[]:=by simp [window]
          rw [this]
          exact .own loc e [] A 0 0 0 (fun _ _=>undef) (by simp) (by simp) (by simp) (by simp) (by simp)
        · have:¬rid=id:=fun k=>hne k.symm
          simp [Cx.drop,hb,this]
     · cases h
 · cases hv;exact same rfl (.int _ _ _) h
 · cases hv;exact same rfl (.bool _ _) h
 · cases hv;exact same rfl (.str _ _) h
 · cases hv;exact same rfl (.nilp _) h
 · cases hv with | ts q hq sz els v h'=>exact same rfl (.ts _ _ hq _ _ _ h') h
 · cases hv with | ts q hq sz els v h'=>exact same rfl (.ts _ _ hq _ _ _ h') h
 · cases hv with | tp q hq sz els i j v h'=>exact same rfl (.tp _ _ hq _ _ _ _ _ h') h
 · cases h
theorem absorb_len {e:Nat}{c c':AV}{S1:St}(h:absorb S e c=some (c',S1)):S1.length=S.length:=by
 unfold absorb at h
 split at h<;>try (cases h;first | rfl | done)
 split at h
 · cases h
 · split at h<;>cases h
   simp
theorem absorb_mono {e:Nat}{c c':AV}{S1:St}(h:absorb S e c=some (c',S1)){id:Nat}{ob:Ob}(hid:getOb S1 id=some ob):getOb S id=some ob:=by
 unfold absorb at h
 split at h<;>try (cases h;first | exact hid | done)
 split at h
 · cases h
 · split at h<;>cases h
   exact (getOb_kill hid).2
theorem absorb_ne {e id lo n:Nat}{c':AV}{S1:St}(h:absorb S e (.sl id lo n)=some (c',S1)):getOb S1 id=none∧id<S.length:=by
 simp only [absorb] at h;split at h
 · cases h
 · rename_i ob hob;have hlt:=getOb_lt hob
   split at h<;>cases h
   exact ⟨by simp [getOb,hlt],hlt⟩
theorem absorbL_len:∀ {cs:List AV} {es:List Nat} {S:St} {cs':List AV} {S1:St},absorbL S es cs=some (cs',S1)→S1.length=S.length∧cs'.length=cs.length:=by
 intro cs
 induction cs with
 | nil=>intro es S cs' S1 h;cases es<;>(simp only [absorbL] at h;cases h;exact ⟨rfl,rfl⟩)
 | cons c cs ih =>
  intro es S cs' S1 h
  cases es with
  | nil=>simp [absorbL] at h
  | cons e es =>
   simp only [absorbL] at h;split at h
   · cases h
   · rename_i c1 S2 h1
     split at h<;>cases h
     rename_i cs2 S3 h2;obtain ⟨k1,k2⟩:=ih h2
     exact ⟨k1.trans (absorb_len h1),by simp [k2]⟩
theorem absorbL_mono:∀ {cs:List AV} {es:List Nat} {S:St} {cs':List AV} {S1:St},absorbL S es cs=some (cs',S1)→∀ {id:Nat} {ob:Ob},getOb S1 id=some ob→getOb S id=some ob:=by
 intro cs
 induction cs with
 | nil=>intro es S cs' S1 h;cases es<;>(simp only [absorbL] at h;cases h;exact fun h=>h)
 | cons c cs ih =>
  intro es S cs' S1 h
  cases es with
  | nil=>simp [absorbL] at h
  | cons e es =>
   simp only [absorbL] at h;split at h
   · cases h
   · rename_i c1 S2 h1
     split at h<;>cases h
     rename_i cs2 S3 h2
     exact fun hid=>absorb_mono h1 (ih h2 hid)
structure Grew (X X1:Cx) (rid:Nat):Prop where
 n:X1.N=X.N
 φ:X1.φ=X.φ
 root:∀b,X.root b=some rid→X1.root b=some rid
 par:∀b,X.root b=some rid→X1.par b=X.par b
theorem Grew.refl (X:Cx)(rid:Nat):Grew X X rid:=⟨rfl,rfl,fun _ h=>h,fun _ _=>rfl⟩
theorem Grew.trans {X X1 X2:Cx}{rid:Nat}(h:Grew X X1 rid)(k:Grew X1 X2 rid):Grew X X2 rid :=
 ⟨k.n.trans h.n,k.φ.trans h.φ,fun b hb=>k.root b (h.root b hb),fun b hb=>(k.par b (h.root b hb)).trans (h.par b hb)⟩
theorem absorbL_ok:∀ {cs:List AV} {es:List Nat} {S:St} {X:Cx} {cs':List AV} {S1:St} {us:List Value} (_:SR T w X S) (_:absorbL S es cs=some (cs',S1))
    (_:cs.length=us.length) (_:∀i,i<cs.length→VR w X (cs.getD i .undef) (us.getD i Go.undef)) (rid B off:Nat) (_:rid<S.length→getOb S1 rid≠none),
    ∃X1,Stn w X w X1∧SR T w X1 S1∧Grew X X1 rid∧∀i,i<cs.length→CR w X1 rid (B,off+i) (cs'.getD i .undef) (us.getD i Go.undef):=by
 intro cs
 induction cs with
 | nil =>
  intro es S X cs' S1 us hS h hl hv rid B off hrid
  cases es<;>(simp only [absorbL] at h;cases h;exact ⟨X,Stn.refl w X,hS,Grew.refl X rid,fun i hi=>absurd hi (Nat.not_lt_zero i)⟩)
 | cons c cs ih =>
  intro es S X cs' S1 us hS h hl hv rid B off hrid
  cases es with
  | nil=>simp [absorbL] at h
  | cons e es =>
   cases us with
   | nil=>simp at hl
   | cons u us =>
    simp only [absorbL] at h;split at h
    · cases h
    · rename_i c1 S2 h1
      split at h<;>cases h
      rename_i cs2 h2
      have hv0:VR w X c u:=by simpa using hv 0 (by simp)
      have hrid0:∀id lo n,c=.sl id lo n→id≠rid:=by
       rintro id lo n rfl rfl
       obtain ⟨k1,k2⟩:=absorb_ne h1
       cases hg:getOb S1 id with
       | none=>exact hrid k2 hg
       | some ob=>have:=absorbL_mono h2 hg;rw [k1] at this;cases this
      obtain ⟨X1,s1,hS1,hc1,hN,hφ,hlab,hpar⟩:=absorb_ok hS h1 hv0 rid (B,off) hrid0
      have g1:Grew X X1 rid:=⟨hN,hφ,fun b hb=>(hlab b hb).1,fun b hb=>by
       cases hp:X.par b with
       | none=>exact hpar b hb hp
       | some l=>rw [(hlab b hb).2 (by rw [hp];simp),hp]⟩
      obtain ⟨X2,s2,hS2,g2,hc2⟩:=ih hS1 h2 (by simpa using hl) (fun i hi=>(by simpa using hv (i+1) (by simpa using hi):VR w X (cs.getD i .undef) (us.getD i Go.undef)).stn s1) rid B (off+1)
       (fun hlt=>hrid (by rw [absorb_len h1] at hlt;exact hlt))
      refine ⟨X2,s1.trans s2,hS2,g1.trans g2,fun i hi=>?_⟩
      cases i with
      | zero =>
       have:=hc1.keep s2.toStp (fun b _ hb _=>⟨g2.root b hb,g2.par b hb⟩)
       simpa using this
      | succ i =>
       have:=hc2 i (by simpa using hi)
       have e1:off+1+i=off+(i+1):=by omega
       rw [e1] at this;simpa using this
end Go.Pi

namespace Go.Pi
open Go
variable {P:Program} {T:Tab} {o:Oper} {a:Act} {w w':World} {X X':Cx} {fr:Fr} {S S':St} {v:AV} {C:Nat→List AV→St→Option (AV×St)} {mb:Nat}
theorem stn_setRow {id:Nat}{g:Nat}(hr:X.root g=some id)(hp:X.par g=none)(new:Array Value):Stn w X (w.setRow g new) X:=by
 refine ⟨⟨rfl,⟨rfl,Nat.le_refl _⟩,rfl,by simp,fun b hb hn=>⟨?_,hn⟩,fun b hb hn=>hn,rfl,rfl⟩,Nat.le_refl _,fun _ _=>rfl⟩
 have:b≠g:=by rintro rfl;exact hn ⟨by rw [hr];simp,.inl hp⟩
 exact setRow_other w g b _ this
theorem sr_setRow (hS:SR T w X S){id:Nat}{ob ob':Ob}{I:Info}(hob:getOb S id=some ob)(hI:X.φ id=some I){cur:Array Value}{e:TypeId}
    (hb:w.heap[I.g]?=some (.cells cur e (0,0))) {new:Array Value} (hnew:new.size=cur.size) (hkd:ob'.kd=ob.kd) (hsz:ob'.sz=ob.sz) (hlen:ob'.els.length=ob.els.length)
    (hrows:∀r∈ob'.els,r.length=ob'.sz) (c:Nat→Nat→Value) (hcell:∀i j,i<ob'.els.length→j<ob'.sz→new[I.o+i*I.sz+j]?=some (c i j))
    (hval:∀i j,i<ob'.els.length→j<ob'.sz→if ob'.kd=.box then VR w X (at2 ob'.els i j) (c i j) else CR w X id (I.g,I.o+i*I.sz+j) (at2 ob'.els i j) (c i j)) :
    Stn w X (w.setRow I.g new) X∧SR T (w.setRow I.g new) X (S.set id (some ob')):=by
 obtain ⟨c0,hor⟩:=row_of hS hob hI;have s:Stn w X (w.setRow I.g new) X:=stn_setRow hor.root hor.par new;have hrow:(w.setRow I.g new).heap[I.g]?=some (.cells new e (0,0)):=setRow_heap w I.g cur new e (0,0) hb
 refine ⟨s,by simp [hS.n],fun b hb=>by simpa using hS.lab b hb,fun b hb=>by simpa using hS.pro b hb,fun id' ob'' h=>?_,hS.sft⟩
 rcases getOb_set h with ⟨rfl,rfl⟩|⟨hne,h'⟩
 · unfold OK;rw [hI];obtain ⟨cur',e',hb',hs'⟩:=hor.blk
   have:cur'=cur:=by rw [hb] at hb';injection hb' with hb';injection hb' with h1 h2;exact h1.symm
   subst this
   refine ⟨c,hor.sz.trans hsz.symm,hrows,hor.root,hor.par,hor.npro,⟨new,e,hrow,hnew.trans hs'⟩,by rw [hlen];exact hor.fits,fun i j hi hj=>?_,fun i j hi hj=>?_⟩
   · simp only [World.cell?,hrow];simpa using hcell i j hi hj
   · have:=hval i j hi hj
     by_cases hk:ob''.kd=.box
     · rw [if_pos hk] at this ⊢;exact this.stn s
     · rw [if_neg hk] at this ⊢;exact this.keep s.toStp (fun b _ hr _=>⟨hr,rfl⟩) (fun _ b _ _ hp=>setRow_other w I.g b _ (by rintro rfl;exact hp hor.par))
 · refine (hS.obs id' ob'' h').keep s (by rw [hS.n];exact getOb_lt h') (fun b _ hr=>⟨hr,rfl⟩) (fun I' hI'=>?_) (fun _ b _ _ hp=>setRow_other w I.g b _ (by rintro rfl;exact hp hor.par))
   obtain ⟨c',hor'⟩:=row_of hS h' hI'
   have:I'.g≠I.g:=by
    intro he;have:=hor'.root;rw [he,hor.root] at this
    injection this with this
    exact hne this.symm
   exact setRow_other w I.g I'.g _ this
theorem VR.one {av:AV}{u:Value}(h:VR w X av u)(hna:∀cs,av≠.agg cs)(hnt:∀cs,av≠.tup cs):u.oneCell'=true:=by
 cases h with
 | agg cs=>exact absurd rfl (hna cs)
 | tup cs=>exact absurd rfl (hnt cs)
 | ts q hq sz els v h=>cases h;rfl
 | tp q hq sz els i j v h=>cases h;rfl
 | _=>rfl
theorem CR.one {rid:Nat}{loc:Nat×Nat}{av:AV}{u:Value}(h:CR w X rid loc av u):u.oneCell'=true:=by
 cases h with
 | ts loc q hq sz els v h=>cases h;rfl
 | tp loc q hq sz els i j v h=>cases h;rfl
 | _=>rfl
def over (c:Nat→Nat→Value)(i j:Nat)(us:List Value)(i' j':Nat):Value :=
 if i'=i∧j≤j'∧j'<j+us.length then us.getD (j' - j) Go.undef else c i' j'
theorem place_out {sz i j n i' j':Nat}(hj:j+n≤sz)(hj':j'<sz)(h:¬(i'=i∧j≤j'∧j'<j+n)):i'*sz+j'<i*sz+j∨i*sz+j+n≤i'*sz+j':=by
 rcases Nat.lt_trichotomy i' i with hlt|rfl|hgt
 · left
   have:(i'+1)*sz≤i*sz:=Nat.mul_le_mul_right _ hlt;rw [Nat.add_mul] at this;omega
 · omega
 · right
   have:(i+1)*sz≤i'*sz:=Nat.mul_le_mul_right _ hgt;rw [Nat.add_mul] at this;omega
theorem over_get {cur:Array Value}{O sz i j:Nat}{us:List Value}{c:Nat→Nat→Value}{n:Nat}(hi:i<n)(hj:j+us.length≤sz)
    (hfit:O+n*sz≤cur.size) (hc:∀i' j',i'<n→j'<sz→cur[O+i'*sz+j']?=some (c i' j')) {i' j':Nat} (hi':i'<n) (hj':j'<sz) :
    ((cur.toList.take (O+(i*sz+j))++us++cur.toList.drop (O+(i*sz+j)+us.length)).toArray)[O+i'*sz+j']?=some (over c i j us i' j'):=by
 have hb:i*sz+j+us.length≤n*sz:=by
  have:(i+1)*sz≤n*sz:=Nat.mul_le_mul_right _ hi;rw [Nat.add_mul] at this;omega
 have hb':i'*sz+j'<n*sz:=by
  have:(i'+1)*sz≤n*sz:=Nat.mul_le_mul_right _ hi';rw [Nat.add_mul] at this;omega
 have h0:=hc i' j' hi' hj';simp only [over,List.getElem?_toArray,List.append_assoc]
 by_cases hin:i'=i∧j≤j'∧j'<j+us.length
 · rw [if_pos hin];obtain ⟨rfl,h1,h2⟩:=hin
   rw [List.getElem?_append_right (by simp;omega),List.getElem?_append_left (by simp;omega)]
   have e:O+i'*sz+j' - (List.take (O+(i'*sz+j)) cur.toList).length=j' - j:=by simp;omega
   rw [e,List.getD_eq_getElem?_getD,List.getElem?_eq_getElem (by omega)]
   rfl
 · rw [if_neg hin]
   rcases place_out (n:=us.length) hj hj' hin with h1|h1
   · rw [List.getElem?_append_left (by simp;omega),List.getElem?_take,if_pos (by omega)]
     simpa using h0
   · rw [List.getElem?_append_right (by simp;omega),List.getElem?_append_right (by simp;omega),List.getElem?_drop]
     have e:O+(i*sz+j)+us.length+(O+i'*sz+j' - (List.take (O+(i*sz+j)) cur.toList).length-us.length)=O+i'*sz+j':=by simp;omega
     rw [e];simpa using h0
theorem at2_set {els:List (List AV)}{i i' j':Nat}{row:List AV}(hi:i<els.length) :
    at2 (els.set i row) i' j'=if i'=i then row.getD j' .undef else at2 els i' j':=by
 by_cases h:i'=i
 · subst h;simp [at2,List.getD_eq_getElem?_getD,hi]
 · have:i≠i':=fun k=>h k.symm
   simp [at2,List.getD_eq_getElem?_getD,this,h]
theorem getD_splice {row:List AV}{j:Nat}{cs:List AV}(h:j+cs.length≤row.length)(m:Nat) :
    (splice row j cs).getD m .undef=if j≤m∧m<j+cs.length then cs.getD (m-j) .undef else row.getD m .undef:=by
 simp only [List.getD_eq_getElem?_getD,splice_get h]
 split<;>rfl
theorem run_storeAt (hT:TabOk P T){t:Nat}{ti:TyI}(ht:T.ty t=some ti){g p:Nat}{u:Value}(hsz:u.cells.size=ti.size){cur:Array Value}{e:TypeId}
    (hb:w.heap[g]?=some (.cells cur e (0,0))) (hfit:p+ti.size≤cur.size) (h1:∀x∈u.cells.toList,x.oneCell'=true) :
    (Instr.storeAt t (.pointer (some ⟨g,p,none⟩)) u).run P w=.ok () (w.setRow g (cur.toList.take p++u.cells.toList++cur.toList.drop (p+u.cells.toList.length)).toArray):=by
 have hst:=run_storeCells_at P g p e u.cells.toList 0 cur w hb (by simp [hsz];omega) h1
 simp only [Nat.add_zero] at hst;simp only [Instr.storeAt,Instr.sureAddr,Sem.run_bind,Sem.run_pure,Result.andThen_ok,storeVar,(hT.ty _ _ ht).run_sizeOf,hsz,ne_eq,not_true_eq_false,if_false,hst]
theorem store_ok (hT:TabOk P T)(hS:SR T w X S){t:Nat}{av vv:AV}{au u:Value}(ha:VR w X av au)(hv:VR w X vv u)(h:evStore T t av vv S=some S') :
    ∃w' X',(Instr.storeAt t au u).run P w=.ok () w'∧Stn w X w' X'∧SR T w' X' S':=by
 unfold evStore at h;split at h
 · rename_i ti id i j hti;split at h
   · rename_i hlen;obtain ⟨hvl,hvc⟩:=hv.cells
     have husz:u.cells.size=ti.size:=by rw [←hlen,hvl];simp
     split at h
     · cases h
     · rename_i ob0 hob0
       cases ha with
       | ptr id i j I hid hI =>
       split at h
       · rename_i hkd;split at h
         · cases h
         · rename_i row hrow;split at h
           · rename_i hfit;obtain ⟨hfit,hcell⟩:=hfit;cases h;obtain ⟨c,hor⟩:=row_of hS hob0 hI;obtain ⟨hilt,hrow'⟩:=List.getElem?_eq_some_iff.1 hrow
             have hrl:row.length=ob0.sz:=hor.rows row (hrow'▸List.getElem_mem hilt)
             obtain ⟨cur,e,hb,hs⟩:=hor.blk;have hfits:=hor.fits;have hsz:=hor.sz
             have hbnd:i*I.sz+j+ti.size≤ob0.els.length*I.sz:=by
              have:(i+1)*I.sz≤ob0.els.length*I.sz:=Nat.mul_le_mul_right _ hilt;rw [Nat.add_mul] at this;omega
             have h1:∀x∈u.cells.toList,x.oneCell'=true:=by
              intro x hx;obtain ⟨k,hk,rfl⟩:=List.mem_iff_getElem.1 hx
              have hk':k<vv.cells.length:=by omega
              have:=hvc k hk';have hce:=List.all_eq_true.1 hcell _ (List.getElem_mem hk');rw [List.getD_eq_getElem?_getD,List.getD_eq_getElem?_getD,List.getElem?_eq_getElem hk,List.getElem?_eq_getElem hk'] at this
              exact this.one (fun cs he=>by simp only [Option.getD_some] at he;rw [he] at hce;simp [AV.isCell] at hce) (fun cs he=>by simp only [Option.getD_some] at he;rw [he] at hce;simp [AV.isCell] at hce)
             have hrun:=run_storeAt (P:=P) hT hti husz hb (p:=I.o+i*I.sz+j) (by omega) h1
             have hul:u.cells.toList.length=ti.size:=by simpa using husz
             obtain ⟨s,hS'⟩:=sr_setRow (ob':={ ob0 with els:=ob0.els.set i (splice row j vv.cells) }) hS hob0 hI hb
              (new:=(cur.toList.take (I.o+i*I.sz+j)++u.cells.toList++cur.toList.drop (I.o+i*I.sz+j+u.cells.toList.length)).toArray) (by simp;omega) rfl rfl (by simp)
              (fun r hr=>by
               rcases List.mem_or_eq_of_mem_set hr with h' | h'
               · exact hor.rows r h'
               · rw [h',splice_length (by omega)];exact hrl)
              (over c i j u.cells.toList) (fun i' j' hi' hj'=>by
               have:=over_get (O:=I.o) (i:=i) (j:=j) (sz:=I.sz) (us:=u.cells.toList) (c:=c) (cur:=cur) (n:=ob0.els.length) hilt (by omega) (by omega)
                (fun i' j' hi' hj'=>by
                 have h0:=hor.cell i' j' hi' (by omega)
                 simpa [World.cell?,hb] using h0) (by simpa using hi') (show j'<I.sz by simp only at hj';omega)
               rw [Nat.add_assoc I.o (i*I.sz) j]
               exact this)
              (fun i' j' hi' hj'=>by
               simp only at hj';rw [if_pos hkd];simp only [over];rw [at2_set hilt]
               by_cases hii:i'=i
               · subst hii
                 rw [if_pos rfl,getD_splice (by omega)]
                 by_cases hjj:j≤j'∧j'<j+vv.cells.length
                 · rw [if_pos hjj,if_pos ⟨rfl,hjj.1,by omega⟩]
                   exact hvc _ (by omega)
                 · rw [if_neg hjj,if_neg (by omega)]
                   have h0:=hor.val i' j' hilt hj';rw [if_pos hkd,at2_of hrow] at h0;exact h0
               · rw [if_neg hii,if_neg (by omega)]
                 have h0:=hor.val i' j' (by simpa using hi') hj'
                 rw [if_pos hkd] at h0
                 exact h0)
             exact ⟨_,X,hrun,s,hS'⟩
           · cases h
       · rename_i hkd;split at h
         · cases h
         · rename_i cs S1 habs;split at h
           · cases h
           · rename_i ob hob;split at h
             · cases h
             · rename_i row hrow;split at h
               · rename_i hfit;cases h
                 obtain ⟨X1,s1,hS1,g1,hcr⟩:=absorbL_ok hS habs hvl hvc id I.g (I.o+i*I.sz+j) (fun _=>by rw [hob];simp)
                 have hobeq:ob=ob0:=by
                  have:=absorbL_mono habs hob
                  rw [hob0] at this;injection this with this;exact this.symm
                 subst hobeq
                 have hI1:X1.φ id=some I:=by rw [g1.φ];exact hI
                 obtain ⟨c,hor⟩:=row_of hS1 hob hI1;obtain ⟨hilt,hrow'⟩:=List.getElem?_eq_some_iff.1 hrow
                 have hrl:row.length=ob.sz:=hor.rows row (hrow'▸List.getElem_mem hilt)
                 obtain ⟨cur,e,hb,hs⟩:=hor.blk;have hfits:=hor.fits;have hsz:=hor.sz;have hcl:=(absorbL_len habs).2
                 have hbnd:i*I.sz+j+ti.size≤ob.els.length*I.sz:=by
                  have:(i+1)*I.sz≤ob.els.length*I.sz:=Nat.mul_le_mul_right _ hilt;rw [Nat.add_mul] at this;omega
                 have h1:∀x∈u.cells.toList,x.oneCell'=true:=by
                  intro x hx;obtain ⟨k,hk,rfl⟩:=List.mem_iff_getElem.1 hx
                  have:=hcr k (by omega)
                  rw [List.getD_eq_getElem?_getD (l:=u.cells.toList),List.getElem?_eq_getElem hk] at this;exact this.one
                 have hrun:=run_storeAt (P:=P) hT hti husz hb (p:=I.o+i*I.sz+j) (by omega) h1
                 have hul:u.cells.toList.length=ti.size:=by simpa using husz
                 obtain ⟨s,hS'⟩:=sr_setRow (ob':={ ob with els:=ob.els.set i (splice row j cs) }) hS1 hob hI1 hb
                  (new:=(cur.toList.take (I.o+i*I.sz+j)++u.cells.toList++cur.toList.drop (I.o+i*I.sz+j+u.cells.toList.length)).toArray) (by simp;omega) rfl rfl (by simp)
                  (fun r hr=>by
                   rcases List.mem_or_eq_of_mem_set hr with h' | h'
                   · exact hor.rows r h'
                   · rw [h',splice_length (by omega)];exact hrl)
                  (over c i j u.cells.toList) (fun i' j' hi' hj'=>by
                   have:=over_get (O:=I.o) (i:=i) (j:=j) (sz:=I.sz) (us:=u.cells.toList) (c:=c) (cur:=cur) (n:=ob.els.length) hilt (by omega) (by omega)
                    (fun i' j' hi' hj'=>by
                     have h0:=hor.cell i' j' hi' (by omega)
                     simpa [World.cell?,hb] using h0) (by simpa using hi') (show j'<I.sz by simp only at hj';omega)
                   rw [Nat.add_assoc I.o (i*I.sz) j]
                   exact this)
                  (fun i' j' hi' hj'=>by
                   simp only at hj';rw [if_neg hkd];simp only [over];rw [at2_set hilt]
                   by_cases hii:i'=i
                   · subst hii
                     rw [if_pos rfl,getD_splice (by omega)]
                     by_cases hjj:j≤j'∧j'<j+cs.length
                     · rw [if_pos hjj,if_pos ⟨rfl,hjj.1,by omega⟩]
                       have:=hcr (j' - j) (by omega)
                       have e1:I.o+i'*I.sz+j+(j' - j)=I.o+i'*I.sz+j':=by omega
                       rw [e1] at this;exact this
                     · rw [if_neg hjj,if_neg (by omega)]
                       have h0:=hor.val i' j' hilt hj';rw [if_neg hkd,at2_of hrow] at h0;exact h0
                   · rw [if_neg hii,if_neg (by omega)]
                     have h0:=hor.val i' j' (by simpa using hi') hj'
                     rw [if_neg hkd] at h0
                     exact h0)
                 exact ⟨_,X1,hrun,s1.trans s,hS'⟩
               · cases h
   · cases h
 · cases h
theorem op_store (hT:TabOk P T)(hS:SR T w X S)(hf:FrR w X fr a){t:Nat}{x y:Operand}(hop:o.op=.store t x y)
    (h:evOp T C o.op fr S=some (v,S')):Good T P o a w X v S':=by
 rw [hop] at h;simp only [evOp] at h;split at h
 · rename_i av vv hx hy
   split at h<;>cases h
   rename_i hst;obtain ⟨w',X',hrun,s,hS'⟩:=store_ok hT hS (evO_ok hf hx) (evO_ok hf hy) hst;intro next Q hk;unfold Oper.wp;simp only [execOp,hop,Sem.run_bind,hrun,Result.andThen_ok,Sem.run_pure];exact hk Go.undef w' X' s hS' (VR.undef w' X')
 · cases h
end Go.Pi

namespace Go.Pi
open Go
variable {P:Program} {T:Tab} {o:Oper} {a:Act} {w w':World} {X X':Cx} {fr:Fr} {S S':St} {v:AV} {C:Nat→List AV→St→Option (AV×St)} {mb:Nat}
structure CLr (w:World) (X:Cx) (rid B sz:Nat) (els:List (List AV)) (arr:Array Value):Prop where
 rows:∀r∈els,r.length=sz
 size:arr.size=els.length*sz
 val:∀i j,i<els.length→j<sz→CR w X rid (B,i*sz+j) (at2 els i j) (arr.getD (i*sz+j) Go.undef)
theorem CLr.keep {rid B sz:Nat}{els:List (List AV)}{arr:Array Value}(h:CLr w X rid B sz els arr)(s:Stp w X w X')(g:Grew X X' rid):CLr w X' rid B sz els arr :=
 ⟨h.rows,h.size,fun i j hi hj=>(h.val i j hi hj).keep s (fun b _ hb _=>⟨g.root b hb,g.par b hb⟩) (fun _ _ _ _ _=>rfl)⟩
theorem idx_lt {i j n sz:Nat}(hi:i<n)(hj:j<sz):i*sz+j<n*sz:=by
 have:(i+1)*sz≤n*sz:=Nat.mul_le_mul_right _ hi;rw [Nat.add_mul] at this;omega
theorem CLr.put {rid B sz:Nat}{els:List (List AV)}{arr:Array Value}(h:CLr w X rid B sz els arr){i:Nat}(hi:i<els.length){cs:List AV}{u:Value}(hcl:cs.length=sz)(hul:u.cells.size=sz)
    (hcr:∀k,k<cs.length→CR w X rid (B,i*sz+k) (cs.getD k .undef) (u.cells.toList.getD k Go.undef)) :
    CLr w X rid B sz (els.set i cs) (u.cells.zipIdx.foldl (fun cs (x:Value×Nat)=>cs.setIfInBounds (i*sz+x.2) x.1) arr):=by
 have e:(u.cells.zipIdx.foldl (fun cs (x:Value×Nat)=>cs.setIfInBounds (i*sz+x.2) x.1) arr)=(u.cells.toList.zipIdx 0).foldl (fun cs (x:Value×Nat)=>cs.setIfInBounds (i*sz+x.2) x.1) arr:=by
  rw [←Array.foldl_toList];simp
 rw [e];obtain ⟨f1,f2⟩:=foldl_set (i*sz) u.cells.toList 0 arr
 have hull:u.cells.toList.length=sz:=by simpa using hul
 have hasz:=h.size
 have hbound:=Nat.mul_le_mul_right sz (show i+1≤els.length by omega)
 rw [Nat.add_mul] at hbound
 refine ⟨fun r hr=>?_,by rw [f1];simpa using h.size,fun i' j' hi' hj'=>?_⟩
 · rcases List.mem_or_eq_of_mem_set hr with h' | h'
   · exact h.rows r h'
   · rw [h',hcl]
 · rw [at2_set hi];simp only [Array.getD_eq_getD_getElem?,f2,Nat.add_zero]
   by_cases hii:i'=i
   · subst hii
     rw [if_pos rfl,if_pos (by omega)]
     have:=hcr j' (by omega)
     have e1:i'*sz+j' - i'*sz=j':=by omega
     rw [e1,←List.getD_eq_getElem?_getD];exact this
   · rw [if_neg hii]
     have hi'':i'<els.length:=by simpa using hi'
     have hout:=place_out (i:=i) (j:=0) (n:=sz) (i':=i') (j':=j') (sz:=sz) (by omega) hj' (by omega)
     rw [if_neg (by omega)]
     have:=h.val i' j' hi'' hj';rw [Array.getD_eq_getD_getElem?] at this;exact this
theorem fillRow_ok {es:List Nat}{sz rid B:Nat}:∀ {ps:List (Nat×AV)} {qs:List (Nat×Value)},
    All2 (fun (p:Nat×AV) (q:Nat×Value)=>p.1=q.1∧VR w X p.2 q.2) ps qs →
    ∀ {X0:Cx} {S:St} {els els':List (List AV)} {S':St} {arr:Array Value},Stn w X w X0→SR T w X0 S→S.length≤rid→CLr w X0 rid B sz els arr→fillRow es sz els S ps=some (els',S') →
    ∃X1 arr',Instr.fill (fun i=>some (i*sz,sz)) arr qs=some arr'∧Stn w X0 w X1∧SR T w X1 S'∧Grew X0 X1 rid∧CLr w X1 rid B sz els' arr'∧S'.length=S.length∧els'.length=els.length:=by
 intro ps qs h
 induction h with
 | nil =>
  intro X0 S els els' S' arr s0 hS hrid hc h;simp only [fillRow,Option.some.injEq,Prod.mk.injEq] at h;obtain ⟨rfl,rfl⟩:=h;exact ⟨X0,arr,rfl,Stn.refl w X0,hS,Grew.refl X0 rid,hc,rfl,rfl⟩
 | @cons p q ps qs hpq _ ih =>
  obtain ⟨i,av⟩:=p;obtain ⟨i',u⟩:=q;obtain ⟨hii,hv⟩:=hpq;simp only at hii hv;subst hii;intro X0 S els els' S' arr s0 hS hrid hc h;simp only [fillRow] at h;split at h
  · rename_i hcond;obtain ⟨hl,hi⟩:=hcond;split at h
    · cases h
    · rename_i cs S1 habs;obtain ⟨hvl,hvc⟩:=(hv.stn s0).cells
      obtain ⟨X1,s1,hS1,g1,hcr⟩:=absorbL_ok hS habs hvl hvc rid B (i*sz) (fun hlt=>absurd hlt (by omega))
      obtain ⟨hal,hcl⟩:=absorbL_len habs
      have hus:u.cells.size=sz:=by rw [←hl,hvl];simp
      have hc1:=(hc.keep s1.toStp g1).put hi (cs:=cs) (u:=u) (by omega) hus (fun k hk=>hcr k (by omega))
      obtain ⟨X2,arr',k1,k2,k3,k4,k5,k6,k7⟩:=ih (s0.trans s1) hS1 (by omega) hc1 h
      refine ⟨X2,arr',?_,s1.trans k2,k3,g1.trans k4,k5,by omega,by simpa using k7⟩
      have hasz:=hc.size
      have hbound:=Nat.mul_le_mul_right sz (show i+1≤els.length by omega)
      rw [Nat.add_mul] at hbound
      have c1:(decide (u.cells.size≠sz)||decide (i*sz+u.cells.size > arr.size))=false:=by simp;omega
      simp only [Instr.fill,c1,Bool.false_eq_true,if_false];exact k1
  · cases h
theorem CLr.zero {t:Nat}{ti:TyI}(hok:TyOk P t ti){zc:Array Value}(hzc:zc.toList=ti.zero.map zOf)(rid B n:Nat) :
    CLr w X rid B ti.size (List.replicate n (zeroRow ti)) ((Array.range (n*ti.size)).map (zc[· % zc.size]!)):=by
 have hzl:zc.size=ti.size:=by rw [←Array.length_toList,hzc];simp [hok.zlen]
 have hrl:(zeroRow ti).length=ti.size:=by simp [zeroRow,hok.zlen,hok.elen]
 refine ⟨fun r hr=>by rw [List.eq_of_mem_replicate hr,hrl],by simp,fun i j hi hj=>?_⟩
 have hi':i<n:=by simpa using hi
 have hb:=idx_lt hi' hj
 have e1:(i*ti.size+j) % zc.size=j:=by rw [hzl,Nat.add_comm,Nat.add_mul_mod_self_right,Nat.mod_eq_of_lt hj]
 have e2:((Array.range (n*ti.size)).map (zc[· % zc.size]!)).getD (i*ti.size+j) Go.undef=zOf (ti.zero.getD j .undef):=by
  have hjz:j<zc.size:=by omega
  have hjt:j<ti.zero.length:=by rw [hok.zlen];exact hj
  have h3:zc[j]?=some (zOf ti.zero[j]):=by
   rw [←Array.getElem?_toList,hzc];simp [hjt]
  have h4:zc[j]! = zOf ti.zero[j]:=by rw [getElem!_def,h3]
  simp [hb,e1,h4,hjt]
 rw [e2]
 have e3:at2 (List.replicate n (zeroRow ti)) i j=(zeroRow ti).getD j .undef:=by simp [at2,List.getD_eq_getElem?_getD,hi']
 rw [e3]
 have hjt:j<ti.zero.length:=by rw [hok.zlen];exact hj
 have hje:j<ti.es.length:=by rw [hok.elen];exact hj
 have hzk:zOk ti.zero[j]=true:=List.all_eq_true.1 hok.zok _ (List.getElem_mem hjt)
 have e4:(zeroRow ti).getD j .undef=(match ti.zero[j] with | .nil=>.ts .own ti.es[j] [] | c=>c):=by
  have h5:(ti.zero.zip ti.es)[j]?=some (ti.zero[j],ti.es[j]):=by simp [List.getElem?_zip_eq_some,hjt,hje]
  simp only [zeroRow,List.getD_eq_getElem?_getD,List.getElem?_map,h5,Option.map_some,Option.getD_some]
  all_goals (cases ti.zero[j]<;>rfl)
 have e5:ti.zero.getD j .undef=ti.zero[j]:=by simp [List.getD_eq_getElem?_getD,hjt]
 rw [e4,e5];generalize ti.zero[j]=z at hzk
 cases z<;>simp [zOk] at hzk
 · exact .int _ _ _
 · exact .bool _ _
 · exact .str _ _
 · exact .own _ _ [] none 0 0 0 (fun _ _=>undef) (by simp) (by simp) (by simp) (by simp) (by simp)
 · exact .nilp _
theorem VR.fresh {g n cap sz size:Nat}{A:Option Addr}(hA:A=some ⟨g,0,none⟩){id:Nat}(hid:id<X.N)(hI:X.φ id=some ⟨g,0,sz,size⟩)(hnc:n≤cap)(hn:cap*sz≤size)(hm:cap≤maxLen) :
    VR w X (.sl id 0 n) (.slice A n cap):=by
 subst hA
 have:=VR.sl (w:=w) (X:=X) id 0 n cap ⟨g,0,sz,size⟩ hid hI hnc (by simpa using hn) hm
 simpa using this
theorem op_buildSlice (hT:TabOk P T)(hS:SR T w X S)(hf:FrR w X fr a){t len:Nat}{parts:Array (Nat×Operand)}(hop:o.op=.buildSlice t len parts)
    (h:evOp T C o.op fr S=some (v,S')):Good T P o a w X v S':=by
 rw [hop] at h;simp only [evOp] at h;split at h
 · rename_i te ps hte hps;split at h
   · rename_i hlen
     split at h<;>cases h
     rename_i els S1 hfill;obtain ⟨e,hu,hok,hpos,hby⟩:=hT.elemSlice hte;obtain ⟨i,zv,hi,hs,hb,hz,hzc,e1,e2⟩:=hok.run_info;have hparts:=evParts_ok hf _ _ hps;have hzero:=CLr.zero (w:=w) (X:=X) hok hzc X.N w.heap.size len
     obtain ⟨X1,arr,k1,s1,hS1,g1,hc,hSl,hel⟩:=fillRow_ok hparts (Stn.refl w X) hS (by rw [hS.n];exact Nat.le_refl _) hzero hfill
     have hN:X1.N=X.N:=g1.n
     obtain ⟨s2,hS2⟩:=sr_alloc (e:=e) (cur:=arr) (ob:=⟨.lit,te.size,els⟩) hS1 (fun i j=>arr.getD (i*te.size+j) Go.undef) hc.rows (by simp [hc.size])
      (fun i j hi hj=>by
       have hb:=idx_lt hi hj
       have:i*te.size+j<arr.size:=by rw [hc.size];exact hb
       simp [this])
      (fun i j hi hj=>by
       have:=hc.val i j hi hj;rw [hN]
       simpa using this)
     refine Good.one _ _ (s1.trans s2) hS2 (.slice (some ⟨w.heap.size,0,none⟩) len len) ?_ ?_
     · have hlt:¬len*te.size > 2 ^ 24:=by omega
       have hk:Instr.fill (fun i=>some (i*te.size,te.size)) ((Array.range (len*te.size)).map (zv.cells[· % zv.cells.size]!)) (parts.map fun (i,x)=>(i,a.eval x)).toList=some arr:=by
        simpa using k1
       simp only [execOp,hop,Instr.buildSlice,Sem.run_bind,run_underlying hu,Result.andThen_ok,hok.run_sizeOf,hlt,if_false]
       by_cases h0:len*te.size=0
       · have hk0 : Instr.fill (fun i => some (i * te.size, te.size)) ((Array.range (len * te.size)).map ((#[] : Array Value)[· % (#[] : Array Value).size]!)) (parts.map fun (i, x) => (i, a.eval x)).toList = some arr := by
           rw [h0,show Array.range 0=#[] from rfl] at hk ⊢
           simpa using hk
         simp only [h0,if_true,Sem.run_bind,Sem.run_pure,Result.andThen_ok] at hk0 ⊢;simp only [hk0,newRow,Sem.run_bind,run_newObj_alloc,Sem.run_pure,Result.andThen_ok]
       · simp only [h0,if_false,Sem.run_bind,e2,Sem.run_pure,Result.andThen_ok,hk,newRow,run_newObj_alloc]
     · have hell:els.length=len:=by rw [hel];simp
       refine VR.fresh (g:=w.heap.size) (sz:=te.size) (size:=arr.size) rfl (by simp [Cx.add,hN,hS.n,hSl]) (by simp [Cx.add,hN,hS.n,hSl]) (Nat.le_refl _) ?_ ?_
       · rw [hc.size,hell];exact Nat.le_refl _
       · have:len≤len*te.size:=Nat.le_mul_of_pos_right _ hpos;simp only [maxLen];omega
   · cases h
 · cases h
theorem op_makeSlice (hT:TabOk P T)(hS:SR T w X S)(hf:FrR w X fr a){t:Nat}{x y:Operand}(hop:o.op=.makeSlice t x y)
    (h:evOp T C o.op fr S=some (v,S')):Good T P o a w X v S':=by
 rw [hop] at h;simp only [evOp] at h;split at h
 · rename_i te k ln k' cn hte hx hy;split at h
   · rename_i hc;obtain ⟨h0,h1,h2⟩:=hc;cases h;obtain ⟨e,hu,hok,hpos,hby⟩:=hT.elemSlice hte;obtain ⟨i,zv,hi,hs,hb,hz,hzc,e1,e2⟩:=hok.run_info;have hzero:=CLr.zero (w:=w) (X:=X) hok hzc X.N w.heap.size ln.toNat
     have hcur:∀i j,i<ln.toNat→j<te.size→((Array.range (cn.toNat*te.size)).map (zv.cells[· % zv.cells.size]!))[i*te.size+j]?=some (((Array.range (ln.toNat*te.size)).map (zv.cells[· % zv.cells.size]!)).getD (i*te.size+j) Go.undef):=by
      intro i j hi hj;have hb:=idx_lt hi hj
      have hb2:i*te.size+j<cn.toNat*te.size:=Nat.lt_of_lt_of_le hb (Nat.mul_le_mul_right _ (by omega))
      simp [hb,hb2]
     obtain ⟨s2,hS2⟩:=sr_alloc (e:=e) (cur:=(Array.range (cn.toNat*te.size)).map (zv.cells[· % zv.cells.size]!)) (ob:=⟨.arr,te.size,List.replicate ln.toNat (zeroRow te)⟩) hS
      (fun i j=>((Array.range (ln.toNat*te.size)).map (zv.cells[· % zv.cells.size]!)).getD (i*te.size+j) Go.undef) hzero.rows (by simp;exact Nat.mul_le_mul_right _ (by omega))
      (fun i j hi hj=>hcur i j (by simpa using hi) hj)
      (fun i j hi hj=>by
       have:=hzero.val i j hi hj
       simpa using this)
     have hmr:maxRow=68719476736:=rfl
     have hbig:(te.bytes:Int)*cn≤281474976710656:=by
      have h3:(te.bytes:Int)≤1024:=by omega
      have h4:cn≤68719476736:=by omega
      have:(te.bytes:Int)*cn≤1024*68719476736:=Int.le_trans (Int.mul_le_mul_of_nonneg_right h3 (by omega)) (Int.mul_le_mul_of_nonneg_left h4 (by omega))
      omega
     have hrun:=run_make (P:=P) w t e i zv hu hi hz k k' ln cn h0 h1 (by rw [hb];exact hbig) (by omega)
     rw [hs] at hrun
     refine Good.one _ _ s2 hS2 (.slice (some ⟨w.heap.size,0,none⟩) ln.toNat cn.toNat) ?_ (VR.fresh (g:=w.heap.size) (sz:=te.size) rfl (by simp [Cx.add,hS.n]) (by simp [Cx.add,hS.n];rfl) (by omega) (by simp) (by simp only [maxLen];omega))
     simp only [execOp,hop,(evO_ok hf hx).int_inv,(evO_ok hf hy).int_inv,Sem.run_bind,hrun,Result.andThen_ok,Sem.run_pure];rfl
   · cases h
 · cases h
end Go.Pi

namespace Go.Pi
open Go
variable {P:Program} {T:Tab} {o:Oper} {a:Act} {w w':World} {X X':Cx} {fr:Fr} {S S':St} {v:AV} {C:Nat→List AV→St→Option (AV×St)} {mb:Nat}
def Cx.move (X:Cx)(id rid g:Nat)(ρ:Nat×Nat→Nat×Nat):Cx where
 N:=X.N
 root b:=if X.root b=some id then (if b=g then none else some rid) else X.root b
 par b:=if X.root b=some id then (X.par b).map ρ else X.par b
 φ:=X.φ
 pro:=X.pro
 soft:=X.soft
theorem stn_move {id g rid:Nat}{ρ:Nat×Nat→Nat×Nat}:Stn w X w (X.move id rid g ρ):=by
 refine ⟨⟨rfl,⟨rfl,Nat.le_refl _⟩,rfl,Nat.le_refl _,fun b hb hr=>⟨rfl,?_⟩,fun b hb hr=>?_,rfl,rfl⟩,Nat.le_refl _,fun _ _=>rfl⟩
 · rintro ⟨h1,h2⟩
   simp only [Cx.move] at h1 h2
   refine hr ⟨fun hn=>by simp [hn] at h1,?_⟩
   split at h2
   · simpa using h2
   · exact h2
 · simp [Cx.move,hr]
theorem sr_move (hS:SR T w X S)(id rid g:Nat)(ρ:Nat×Nat→Nat×Nat):SR T w (X.move id rid g ρ) (S.set id none):=by
 refine ⟨by simp [Cx.move,hS.n],fun b hb=>hS.lab b (fun hn=>by simp [Cx.move,hn] at hb),hS.pro,fun id' ob h=>?_,hS.sft⟩
 obtain ⟨hne,h'⟩:=getOb_kill h
 refine (hS.obs id' ob h').keep stn_move (by rw [hS.n];exact getOb_lt h') (fun b hb hr=>?_) (fun _ _=>rfl) (fun _ _ _ _ _=>rfl)
 simp [Cx.move,hr,hne]
theorem cr_move {id rid g:Nat}{ρ:Nat×Nat→Nat×Nat}(hg:X.par g=none)(hρ:∀b off,b≠g→ρ (b,off)=(b,off)){loc:Nat×Nat}{av:AV}{u:Value}
    (h:CR w X id loc av u):CR w (X.move id rid g ρ) rid (ρ loc) av u:=by
 refine h.reloc stn_move.toStp ρ (fun b off hp=>hρ b off (by rintro rfl;exact hp hg)) (fun b hb hr hp=>?_) (fun _ _ _ _ _=>rfl)
 have hbg:b≠g:=by rintro rfl;exact hp hg
 simp [Cx.move,hr,hbg]
theorem cr_move_other {id rid r g:Nat}{ρ:Nat×Nat→Nat×Nat}(hne:r≠id){loc:Nat×Nat}{av:AV}{u:Value}(h:CR w X r loc av u):CR w (X.move id rid g ρ) r loc av u:=by
 refine h.keep stn_move.toStp (fun b hb hr hp=>?_) (fun _ _ _ _ _=>rfl)
 simp [Cx.move,hr,hne]
structure Src (w:World) (xv:Value) (sz:Nat) (news:List (List AV)) (c:Nat→Nat→Value):Prop where
 rows:∀r∈news,r.length=sz
 val:∃A cap,xv=.slice A news.length cap∧(0<news.length→∃g p,A=some ⟨g,p,none⟩∧∀i j,i<news.length→j<sz→w.cell? ⟨g,p+i*sz+j,none⟩=some (c i j))
theorem sourceView_ok (hS:SR T w X S){sz:Nat}{x:AV}{xv:Value}{news:List (List AV)}(h:sourceView T S sz x=some news)(hv:VR w X x xv) :
    ∃c,Src w xv sz news c∧∀rid loc i j,i<news.length→j<sz→CR w X rid loc (at2 news i j) (c i j):=by
 unfold sourceView at h;split at h
 · cases h;cases hv
   exact ⟨fun _ _=>undef,⟨by simp,none,0,rfl,by simp⟩,by simp⟩
 · rename_i q sz' els;split at h
   · rename_i hc;obtain ⟨rfl,hq⟩:=hc;cases h
     cases hv with
     | ts q hq sz els v hr =>
      cases hr with
      | ts _ _ _ A cap g p c hrow hcap hA hc hr =>
       refine ⟨c,⟨rows_map _ _ hrow,A,cap,by simp,fun hn=>⟨g,p,(hA (by simpa using hn)).1,by simpa using hc⟩⟩,fun rid loc i j hi hj=>?_⟩
       rw [at2_map _ _ hrow (by simpa using hi) hj]
       exact (hr i j (by simpa using hi) hj).cell hq rid loc
   · cases h
 · rename_i id lo n;split at h
   · cases h
   · rename_i ob hrow;split at h
     · rename_i hc;obtain ⟨rfl,hln,hsf⟩:=hc;cases h;obtain ⟨hob,hkd⟩:=isRow_ob hrow;have hwl:=window_length (els:=ob.els) hln
       cases hv with
       | sl id lo n cap I hid hI hn hcap hm =>
        obtain ⟨c,hor⟩:=row_of hS hob hI
        have hwr:∀r∈window ob.els lo n,r.length=ob.sz:=fun r hr=>hor.rows r (window_mem hr)
        refine ⟨fun i j=>c (lo+i) j,⟨rows_map _ _ hwr,_,cap,by rw [List.length_map,hwl],fun hpos=>⟨I.g,I.o+lo*I.sz,rfl,fun i j hi hj=>?_⟩⟩,fun rid loc i j hi hj=>?_⟩
        · rw [List.length_map,hwl] at hi
          have:=hor.cell (lo+i) j (by omega) hj
          have e1:I.o+lo*I.sz+i*ob.sz+j=I.o+(lo+i)*I.sz+j:=by rw [Nat.add_mul,hor.sz];omega
          rw [e1];exact this
        · have hi':i<(window ob.els lo n).length:=by simpa using hi
          rw [at2_map _ _ hwr hi' hj];rw [hwl] at hi';rw [at2_window hi']
          have:=hor.val (lo+i) j (by omega) hj
          rw [if_neg hkd] at this
          exact this.viewTopCell (fun k=>by have:=hS.sft.1 k;rw [hsf] at this;cases this) rid loc
       | slz id lo A hid =>
        have:window ob.els lo 0=[]:=by simp [window]
        rw [this]
        exact ⟨fun _ _=>undef,⟨by simp,A,0,rfl,by simp⟩,by simp⟩
     · cases h
 · cases h
theorem sourceOf_ok (hS:SR T w X S){mv:Bool}{sz:Nat}{x:AV}{xv:Value}{news:List (List AV)}{S1:St}(h:sourceOf T S mv sz x=some (news,S1))(hv:VR w X x xv)(rid G B:Nat)
    (hrid:X.N≤rid) :
    ∃c X1,Src w xv sz news c∧Stn w X w X1∧SR T w X1 S1∧X1.N=X.N∧X1.φ=X.φ∧S1.length=S.length∧(∀id ob,getOb S1 id=some ob→getOb S id=some ob) ∧
     ∀i j,i<news.length→j<sz→CR w X1 rid (G,B+i*sz+j) (at2 news i j) (c i j):=by
 have viewed : ∀ {n' : List (List AV)}, sourceView T S sz x = some n' → some (n', S) = some (news, S1) →
     ∃c X1,Src w xv sz news c∧Stn w X w X1∧SR T w X1 S1∧X1.N=X.N∧X1.φ=X.φ∧S1.length=S.length∧(∀id ob,getOb S1 id=some ob→getOb S id=some ob) ∧
     ∀i j,i<news.length→j<sz→CR w X1 rid (G,B+i*sz+j) (at2 news i j) (c i j):=by
  intro n' h1 h2;cases h2;obtain ⟨c,k1,k2⟩:=sourceView_ok hS h1 hv
  exact ⟨c,X,k1,Stn.refl w X,hS,rfl,rfl,rfl,fun _ _ h=>h,fun i j hi hj=>k2 rid _ i j hi hj⟩
 unfold sourceOf at h;split at h
 · rename_i id lo n;split at h
   · cases h
   · rename_i ob hrow;split at h
     · rename_i hc;obtain ⟨hlit,rfl,hnl,rfl⟩:=hc;cases h;obtain ⟨hob,hkd⟩:=isRow_ob hrow;have hidlt:=getOb_lt hob
       have hne:id≠rid:=by have:=hS.n;omega
       cases hv with
       | sl id lo n cap I hid hI hn hcap hm =>
        obtain ⟨c,hor⟩:=row_of hS hob hI
        refine ⟨c,X.move id rid I.g (fun l=>if l.1=I.g then (G,B+(l.2-I.o)) else l),⟨hor.rows,_,cap,by rw [hnl],fun hpos=>⟨I.g,I.o,by simp,fun i j hi hj=>?_⟩⟩,stn_move,sr_move hS id rid I.g _,rfl,rfl,by simp,fun id' ob' h'=>(getOb_kill h').2,fun i j hi hj=>?_⟩
        · have:=hor.cell i j hi hj;rw [hor.sz] at this;exact this
        · have h0:=hor.val i j hi hj;rw [if_neg hkd] at h0
          have:=cr_move (rid:=rid) hor.par (ρ:=fun l=>if l.1=I.g then (G,B+(l.2-I.o)) else l) (fun b off hb=>by simp [hb]) h0
          simp only [if_true] at this
          have e1:B+(I.o+i*I.sz+j-I.o)=B+i*ob.sz+j:=by rw [hor.sz];omega
          rw [e1] at this;exact this
       | slz id lo A hid =>
        have he:ob.els=[]:=List.eq_nil_of_length_eq_zero hnl.symm;rw [he]
        exact ⟨fun _ _=>undef,X.drop id,⟨by simp,A,0,rfl,by simp⟩,stn_drop,sr_drop hS id,rfl,rfl,by simp,fun id' ob' h'=>(getOb_kill h').2,by simp⟩
     · split at h
       · rename_i els hvw;exact viewed hvw h
       · cases h
 · split at h
   · rename_i els hvw;exact viewed hvw h
   · cases h
theorem run_append_in {t ty e:Nat}{i:TypeInfo}(ht:P.underlying t=some (.slice e))(hi:P.info? e=some i)
    (g p sLen sCap:Nat) (cur:Array Value) (e':TypeId) (hg:w.heap[g]?=some (.cells cur e' (0,0)))
    (a:Addr) (m c:Nat) (news:List Value) (hl:news.length=m*i.size) (hnews:∀j u,news[j]?=some u→w.cell? (a.add j)=some u) (h1:∀u∈news,u.oneCell'=true)
    (hroom:sLen+m≤sCap) (hfit:p+sLen*i.size+news.length≤cur.size) :
    (Builtin.append_ #[t,t] ty #[.slice (some ⟨g,p,none⟩) sLen sCap,.slice (some a) m c]).run P w =
     .ok (.slice (some ⟨g,p,none⟩) (sLen+m) sCap) (w.setRow g (cur.toList.take (p+sLen*i.size)++news++cur.toList.drop (p+sLen*i.size+news.length)).toArray):=by
 have hf:=run_firstCells_some (P:=P) w i.size m a m c news hl hnews
 have hst:=run_storeCells_at P g (p+sLen*i.size) e' news 0 cur w hg (by simpa using hfit) h1
 simp only [Nat.add_zero] at hst;simp [Builtin.append_,run_underlying ht,sizeOf,typeInfo,hi,Builtin.lenOf,hroom,hf,Addr.add_lit,hst]
theorem run_append_none {t ty e:Nat}{i:TypeInfo}(ht:P.underlying t=some (.slice e))(hi:P.info? e=some i)(A A':Option Addr)(sLen sCap c:Nat)(h:sLen≤sCap) :
    (Builtin.append_ #[t,t] ty #[.slice A sLen sCap,.slice A' 0 c]).run P w=.ok (.slice A sLen sCap) w:=by
 cases A<;>cases A'<;>simp [Builtin.append_,run_underlying ht,sizeOf,typeInfo,hi,Builtin.lenOf,h,Builtin.firstCells,loadCells,loadCellsFrom,storeCells]
def flat (n sz:Nat)(c:Nat→Nat→Value):List Value:=(List.range (n*sz)).map fun k=>c (k / sz) (k % sz)
theorem flat_length (n sz:Nat)(c:Nat→Nat→Value):(flat n sz c).length=n*sz:=by simp [flat]
theorem flat_get {n sz:Nat}{c:Nat→Nat→Value}{k:Nat}(hk:k<n*sz):(flat n sz c)[k]?=some (c (k / sz) (k % sz)):=by simp [flat,hk]
theorem flat_at {n sz:Nat}{c:Nat→Nat→Value}{i j:Nat}(hi:i<n)(hj:j<sz):(flat n sz c)[i*sz+j]?=some (c i j):=by
 have hb:=idx_lt hi hj;rw [flat_get hb]
 have e1:(i*sz+j) / sz=i:=by rw [Nat.add_comm,Nat.add_mul_div_right _ _ (by omega),Nat.div_eq_of_lt hj];omega
 have e2:(i*sz+j) % sz=j:=by rw [Nat.add_comm,Nat.add_mul_mod_self_right,Nat.mod_eq_of_lt hj]
 rw [e1,e2]
theorem flat_split {n sz k:Nat}(hk:k<n*sz):k / sz<n∧k % sz<sz∧k=k / sz*sz+k % sz:=by
 have hpos:0<sz:=by
  rcases Nat.eq_zero_or_pos sz with h|h
  · subst h;simp at hk
  · exact h
 refine ⟨?_,Nat.mod_lt _ hpos,?_⟩
 · rw [Nat.div_lt_iff_lt_mul hpos];exact hk
 · rw [Nat.mul_comm];exact (Nat.div_add_mod k sz).symm
theorem flat_read {n sz:Nat}{c:Nat→Nat→Value}{g p:Nat}(h:∀i j,i<n→j<sz→w.cell? ⟨g,p+i*sz+j,none⟩=some (c i j)) :
    ∀k u,(flat n sz c)[k]?=some u→w.cell? ((⟨g,p,none⟩:Addr).add k)=some u:=by
 intro k u hk
 have hlt:k<n*sz:=by
  have:=(List.getElem?_eq_some_iff.1 hk).1;simpa [flat_length] using this
 obtain ⟨h1,h2,h3⟩:=flat_split hlt;rw [flat_get hlt] at hk;rw [Addr_add,←hk];have:=h _ _ h1 h2;rw [Nat.add_assoc,←h3] at this;exact this
theorem stn_drew:Stn w X w.drew X:=⟨⟨rfl,⟨rfl,Nat.le_succ _⟩,rfl,Nat.le_refl _,fun _ _ hr=>⟨rfl,hr⟩,fun _ _ hr=>hr,rfl,rfl⟩,Nat.le_refl _,fun _ _=>rfl⟩
theorem sr_drew (hS:SR T w X S):SR T w.drew X S :=
 ⟨hS.n,hS.lab,hS.pro,fun id ob h=>(hS.obs id ob h).keep stn_drew (by rw [hS.n];exact getOb_lt h) (fun b _ hr=>⟨hr,rfl⟩) (fun _ _=>rfl) (fun _ _ _ _ _=>rfl),hS.sft⟩
end Go.Pi

namespace Go.Pi
open Go
variable {P:Program} {T:Tab} {o:Oper} {a:Act} {w w':World} {X X':Cx} {fr:Fr} {S S':St} {v:AV} {C:Nat→List AV→St→Option (AV×St)} {mb:Nat}
theorem at2_append {xs ys:List (List AV)}(i j:Nat):at2 (xs++ys) i j=if i<xs.length then at2 xs i j else at2 ys (i-xs.length) j:=by
 by_cases h:i<xs.length
 · simp [at2,List.getD_eq_getElem?_getD,h,List.getElem?_append_left h]
 · simp [at2,List.getD_eq_getElem?_getD,h,List.getElem?_append_right (Nat.le_of_not_lt h)]
theorem sr_addnil (hS:SR T w X S)(kd:Kd)(hkd:kd≠.box)(sz g:Nat):Stn w X w (X.add X.N g none)∧SR T w (X.add X.N g none) (S++[some ⟨kd,sz,[]⟩]):=by
 have s:Stn w X w (X.add X.N g none) :=
  ⟨⟨rfl,⟨rfl,Nat.le_refl _⟩,rfl,Nat.le_refl _,fun b _ hr=>⟨rfl,by simpa [Cx.isRoot,Cx.add] using hr⟩,fun b _ hr=>by simpa [Cx.add] using hr,rfl,rfl⟩,by simp [Cx.add],fun id hid=>by
   have:id≠X.N:=by omega
   simp [Cx.add,this]⟩
 refine ⟨s,by simp [Cx.add,hS.n],fun b hb=>hS.lab b (by simpa [Cx.add] using hb),hS.pro,fun id ob h=>?_,hS.sft⟩
 rcases getOb_append h with ⟨hlt,h'⟩|⟨rfl,rfl⟩
 · exact (hS.obs id ob h').keep s (by rw [hS.n];exact hlt) (fun b _ hr=>⟨by simp [Cx.add,hr],by simp [Cx.add]⟩) (fun _ _=>rfl) (fun _ _ _ _ _=>rfl)
 · unfold OK
   have:(X.add X.N g none).φ S.length=none:=by simp [Cx.add,hS.n]
   rw [this];exact ⟨rfl,hkd⟩
theorem grow_ok (hS:SR T w X S){e:TypeId}{sz:Nat}{os news:List (List AV)}{co c:Nat→Nat→Value}(zs:Array Value)(hro:∀r∈os,r.length=sz)(hrn:∀r∈news,r.length=sz)
    (ho:∀i j,i<os.length→j<sz→CR w X X.N (w.heap.size,0+i*sz+j) (at2 os i j) (co i j))
    (hn:∀i j,i<news.length→j<sz→CR w X X.N (w.heap.size,os.length*sz+i*sz+j) (at2 news i j) (c i j)) :
    ∃X',Stn w X (w.drew.alloc (.cells ((flat os.length sz co).toArray++(flat news.length sz c).toArray++zs) e (0,0))) X' ∧
     SR T (w.drew.alloc (.cells ((flat os.length sz co).toArray++(flat news.length sz c).toArray++zs) e (0,0))) X' (S++[some ⟨.arr,sz,os++news⟩]) ∧
     X'.N=X.N+1∧X'.φ X.N=some ⟨w.heap.size,0,sz,((flat os.length sz co).toArray++(flat news.length sz c).toArray++zs).size⟩:=by
 have hS1:=sr_drew hS
 have hsz:((flat os.length sz co).toArray++(flat news.length sz c).toArray++zs).size=(os.length+news.length)*sz+zs.size:=by
  simp [flat_length,Nat.add_mul]
 obtain ⟨s,hS2⟩:=sr_alloc (e:=e) (cur:=(flat os.length sz co).toArray++(flat news.length sz c).toArray++zs) (ob:=⟨.arr,sz,os++news⟩) hS1
  (fun i j=>if i<os.length then co i j else c (i-os.length) j)
  (fun r hr=>by
   rcases List.mem_append.1 hr with h|h
   · exact hro r h
   · exact hrn r h)
  (by rw [hsz];simp)
  (fun i j hi hj=>by
   simp only [List.length_append] at hi hj
   by_cases hlt:i<os.length
   · have hb:=idx_lt hlt hj
     rw [if_pos hlt,Array.getElem?_append_left (by simp [flat_length];omega),Array.getElem?_append_left (by simpa [flat_length] using hb)]
     simpa using flat_at (c:=co) hlt hj
   · have hlt':i-os.length<news.length:=by omega
     have hb:=idx_lt hlt' hj
     have hge:os.length*sz≤i*sz:=Nat.mul_le_mul_right _ (by omega)
     have he:i*sz+j-os.length*sz=(i-os.length)*sz+j:=by rw [Nat.sub_mul];omega
     rw [if_neg hlt,Array.getElem?_append_left (by simp [flat_length];omega),Array.getElem?_append_right (by simp [flat_length];omega)]
     have:=flat_at (c:=c) hlt' hj;simp only [List.size_toArray,flat_length,he]
     simpa using this)
  (fun i j hi hj=>by
   simp only [List.length_append] at hi hj
   rw [if_neg (by simp),at2_append]
   by_cases hlt:i<os.length
   · rw [if_pos hlt,if_pos hlt];have:=ho i j hlt hj;rw [Nat.zero_add] at this
     exact this.keep (stn_drew (w:=w) (X:=X)).toStp (fun b _ hr _=>⟨hr,rfl⟩) (fun _ _ _ _ _=>rfl)
   · rw [if_neg hlt,if_neg hlt]
     have hge:os.length*sz≤i*sz:=Nat.mul_le_mul_right _ (by omega)
     have:=hn (i-os.length) j (by omega) hj
     have he:os.length*sz+(i-os.length)*sz+j=i*sz+j:=by rw [Nat.sub_mul];omega
     rw [he] at this
     exact this.keep (stn_drew (w:=w) (X:=X)).toStp (fun b _ hr _=>⟨hr,rfl⟩) (fun _ _ _ _ _=>rfl))
 exact ⟨_,(stn_drew (w:=w) (X:=X)).trans s,hS2,rfl,by simp [Cx.add]⟩
def Cx.ren (X:Cx)(id:Nat)(I:Info):Cx where
 N:=X.N+1
 root b:=if X.root b=some id then some X.N else X.root b
 par:=X.par
 φ i:=if i=X.N then some I else X.φ i
 pro:=X.pro
 soft:=X.soft
theorem room_ok (hS:SR T w X S){id:Nat}{ob:Ob}{I:Info}(hob:getOb S id=some ob)(hkd:ob.kd≠.box)(hI:X.φ id=some I){cur:Array Value}{e:TypeId}(hb:w.heap[I.g]?=some (.cells cur e (0,0)))
    {news:List (List AV)} {c:Nat→Nat→Value} {lo n:Nat} (hln:lo+n=ob.els.length) (hrn:∀r∈news,r.length=ob.sz) (hfit:I.o+(lo+n+news.length)*I.sz≤I.size)
    (hn:∀i j,i<news.length→j<ob.sz→CR w X X.N (I.g,I.o+(lo+n)*I.sz+i*ob.sz+j) (at2 news i j) (c i j)) :
    ∃X',Stn w X (w.setRow I.g (cur.toList.take (I.o+(lo+n)*I.sz)++flat news.length ob.sz c++cur.toList.drop (I.o+(lo+n)*I.sz+(flat news.length ob.sz c).length)).toArray) X' ∧
     SR T (w.setRow I.g (cur.toList.take (I.o+(lo+n)*I.sz)++flat news.length ob.sz c++cur.toList.drop (I.o+(lo+n)*I.sz+(flat news.length ob.sz c).length)).toArray) X' (S.set id none++[some ⟨.arr,ob.sz,ob.els.drop lo++news⟩]) ∧
     X'.N=X.N+1∧X'.φ X.N=some ⟨I.g,I.o+lo*I.sz,I.sz,I.size⟩:=by
 obtain ⟨co,hor⟩:=row_of hS hob hI;have hidlt:=getOb_lt hob;have hN:=hS.n
 have hne:id≠X.N:=by omega
 obtain ⟨cur',e',hb',hs'⟩:=hor.blk
 have hcc:cur'=cur:=by rw [hb] at hb';injection hb' with hb';injection hb' with h1 h2;exact h1.symm
 subst hcc;have hsz:=hor.sz;have hfl:(flat news.length ob.sz c).length=news.length*ob.sz:=flat_length _ _ _
 have hmul:(lo+n+news.length)*I.sz=(lo+n)*I.sz+news.length*ob.sz:=by rw [Nat.add_mul,hsz]
 have s:Stn w X (w.setRow I.g (cur'.toList.take (I.o+(lo+n)*I.sz)++flat news.length ob.sz c++cur'.toList.drop (I.o+(lo+n)*I.sz+(flat news.length ob.sz c).length)).toArray) (X.ren id ⟨I.g,I.o+lo*I.sz,I.sz,I.size⟩):=by
  refine ⟨⟨rfl,⟨rfl,Nat.le_refl _⟩,rfl,by simp,fun b hb hr=>⟨?_,?_⟩,fun b hb hr=>by simp [Cx.ren,hr],rfl,rfl⟩,by simp [Cx.ren],fun i hi=>by
   have:i≠X.N:=by omega
   simp [Cx.ren,this]⟩
  · have:b≠I.g:=by rintro rfl;exact hr ⟨by rw [hor.root];simp,.inl hor.par⟩
    exact setRow_other w I.g b _ this
  · rintro ⟨h1,h2⟩
    exact hr ⟨fun hn=>by simp [Cx.ren,hn] at h1,h2⟩
 have hrow:=setRow_heap w I.g cur' (cur'.toList.take (I.o+(lo+n)*I.sz)++flat news.length ob.sz c++cur'.toList.drop (I.o+(lo+n)*I.sz+(flat news.length ob.sz c).length)).toArray e (0,0) hb
 refine ⟨_,s,⟨by simp [Cx.ren,hN],fun b hb=>?_,fun b hb=>by simpa using hS.pro b hb,fun id' ob' h=>?_,hS.sft⟩,rfl,by simp [Cx.ren]⟩
 · have:=hS.lab b (fun hn=>by simp [Cx.ren,hn] at hb)
   simpa using this
 · rcases getOb_append h with ⟨hlt,h'⟩|⟨rfl,rfl⟩
   · obtain ⟨hne',h''⟩:=getOb_kill h'
     refine (hS.obs id' ob' h'').keep s (by rw [hN];exact getOb_lt h'') (fun b hb hr=>by simp [Cx.ren,hr,hne']) (fun I' hI'=>?_) (fun _ b _ _ hp=>setRow_other w I.g b _ (by rintro rfl;exact hp hor.par))
     obtain ⟨c',hor'⟩:=row_of hS h'' hI'
     have:I'.g≠I.g:=by
      intro he;have:=hor'.root;rw [he,hor.root] at this
      injection this with this
      exact hne' this.symm
     exact setRow_other w I.g I'.g _ this
   · unfold OK
     have e1:(X.ren id ⟨I.g,I.o+lo*I.sz,I.sz,I.size⟩).φ (S.set id none).length=some ⟨I.g,I.o+lo*I.sz,I.sz,I.size⟩:=by simp [Cx.ren,hN]
     rw [e1]
     have hdl:(ob.els.drop lo).length=n:=by simp;omega
     have hdat:∀i j,i<n→at2 (ob.els.drop lo) i j=at2 ob.els (lo+i) j:=fun i j hi=>by simp [at2,List.getD_eq_getElem?_getD,List.getElem?_drop]
     refine ⟨fun i j=>if i<n then co (lo+i) j else c (i-n) j,hsz,fun r hr=>?_,by simp [Cx.ren,hor.root,hN],by simp [Cx.ren,hor.par],hor.npro,⟨_,e,hrow,?_⟩,?_,fun i j hi hj=>?_,fun i j hi hj=>?_⟩
     · rcases List.mem_append.1 hr with h|h
       · exact hor.rows r (List.mem_of_mem_drop h)
       · exact hrn r h
     · simp;omega
     · simp only [List.length_append,hdl];have:(n+news.length)*I.sz=n*I.sz+news.length*I.sz:=Nat.add_mul _ _ _;rw [Nat.add_mul,Nat.add_mul] at hfit;rw [this];omega
     · simp only [List.length_append,hdl] at hi;have hj:j<ob.sz:=hj;simp only [World.cell?,hrow];simp only [Option.isSome_none,Bool.false_eq_true,if_false,List.getElem?_toArray,List.append_assoc]
       by_cases hlt:i<n
       · rw [if_pos hlt]
         have h0:=hor.cell (lo+i) j (by omega) hj
         have hb1:(lo+i)*I.sz+j<(lo+n)*I.sz:=idx_lt (by omega) (by omega)
         have he:I.o+lo*I.sz+i*I.sz+j=I.o+(lo+i)*I.sz+j:=by rw [Nat.add_mul];omega
         rw [he,List.getElem?_append_left (by simp;omega),List.getElem?_take,if_pos (by omega)]
         simpa [World.cell?,hb] using h0
       · rw [if_neg hlt]
         have hlt':i-n<news.length:=by omega
         have hge:n*I.sz≤i*I.sz:=Nat.mul_le_mul_right _ (by omega)
         have hb1:=idx_lt hlt' hj
         have he:I.o+lo*I.sz+i*I.sz+j=I.o+(lo+n)*I.sz+((i-n)*ob.sz+j):=by rw [Nat.add_mul,Nat.sub_mul,←hsz];omega
         rw [he,List.getElem?_append_right (by simp;omega)]
         have he2:I.o+(lo+n)*I.sz+((i-n)*ob.sz+j)-(cur'.toList.take (I.o+(lo+n)*I.sz)).length=(i-n)*ob.sz+j:=by simp;omega
         rw [he2,List.getElem?_append_left (by rw [hfl];exact hb1)]
         exact flat_at hlt' hj
     · simp only [List.length_append,hdl] at hi;have hj:j<ob.sz:=hj
       rw [if_neg (by simp),at2_append,hdl]
       by_cases hlt:i<n
       · rw [if_pos hlt,if_pos hlt,hdat i j hlt]
         have h0:=hor.val (lo+i) j (by omega) hj
         rw [if_neg hkd] at h0
         have he:I.o+(lo+i)*I.sz+j=I.o+lo*I.sz+i*I.sz+j:=by rw [Nat.add_mul];omega
         rw [he] at h0
         have:=h0.reloc s.toStp (rid:=X.N) (fun l=>l) (fun _ _ _=>rfl) (fun b _ hr _=>by simp [Cx.ren,hr]) (fun _ b _ _ hp=>setRow_other w I.g b _ (by rintro rfl;exact hp hor.par))
         simpa [hN] using this
       · rw [if_neg hlt,if_neg hlt]
         have hge:n*I.sz≤i*I.sz:=Nat.mul_le_mul_right _ (by omega)
         have h0:=hn (i-n) j (by omega) hj
         have he:I.o+(lo+n)*I.sz+(i-n)*ob.sz+j=I.o+lo*I.sz+i*I.sz+j:=by rw [Nat.add_mul,Nat.sub_mul,←hsz];omega
         rw [he] at h0
         have:=h0.keep s.toStp (fun b _ hr _=>by
          have:¬X.N=id:=fun k=>hne k.symm
          simp [Cx.ren,hr,this]) (fun _ b _ _ hp=>setRow_other w I.g b _ (by rintro rfl;exact hp hor.par))
         simpa [hN] using this
end Go.Pi

namespace Go.Pi
open Go
variable {P:Program} {T:Tab} {o:Oper} {a:Act} {w w':World} {X X':Cx} {fr:Fr} {S S':St} {v:AV} {C:Nat→List AV→St→Option (AV×St)} {mb:Nat}
theorem mul_le_bytes {n b:Nat}(hn:n≤maxRow)(hb:b≤1024):n*b≤140737488355328:=by
 have:n*b≤maxRow*1024:=Nat.mul_le_mul hn hb;simp only [maxRow] at this;omega
theorem append_ok (hT:TabOk P T)(hS:SR T w X S){t:Nat}{ty:TypeId}{s x:AV}{sv xv:Value}(hs:VR w X s sv)(hx:VR w X x xv)(h:evAppend T t s x S=some (v,S')) :
    ∃v' w' X',(Builtin.append_ #[t,t] ty #[sv,xv]).run P w=.ok v' w'∧Stn w X w' X'∧SR T w' X' S'∧VR w' X' v v':=by
 unfold evAppend at h;split at h
 · cases h
 · rename_i te hte;obtain ⟨e,hu,hok,hpos,hby⟩:=hT.elemSlice hte;obtain ⟨i,zv,hi,hsz,hb,hz,hzc,e1,e2⟩:=hok.run_info;have hmr:maxRow=68719476736:=rfl;split at h
   · cases h
   · rename_i news S1 hsrc
     have grow : ∀ {X2 : Cx} {S2 : St} {os : List (List AV)} {co c : Nat → Nat → Value} {cap0 : Nat}, Src w xv te.size news c → Stn w X w X2 → SR T w X2 S2 → X2.N = X.N →
         (∀r∈os,r.length=te.size)→(∀i j,i<os.length→j<te.size→CR w X2 X2.N (w.heap.size,0+i*te.size+j) (at2 os i j) (co i j)) →
         (∀i j,i<news.length→j<te.size→CR w X2 X2.N (w.heap.size,os.length*te.size+i*te.size+j) (at2 news i j) (c i j)) →
         os.length+news.length≤maxRow→(∀(A:Addr) (cc:Nat),xv=.slice (some A) news.length cc→∀zz,(∀j u,(flat news.length te.size c)[j]?=some u→w.cell? (A.add j)=some u) →
          zz=grownCap w (os.length+news.length) cap0 e →
          (Builtin.append_ #[t,t] ty #[sv,xv]).run P w=.ok (.slice (some ⟨w.heap.size,0,none⟩) (os.length+news.length) zz) (w.drew.alloc (.cells ((flat os.length te.size co).toArray++(flat news.length te.size c).toArray++Builtin.zeroCells zv.cells (zz-(os.length+news.length))) e))) →
         0<news.length →
         ∃v' w' X',(Builtin.append_ #[t,t] ty #[sv,xv]).run P w=.ok v' w'∧Stn w X w' X'∧SR T w' X' (S2++[some ⟨.arr,te.size,os++news⟩])∧VR w' X' (.sl X2.N 0 (os.length+news.length)) v':=by
      intro X2 S2 os co c cap0 hsrc s2 hS2 hN hro hco hcn hbig hrun hpn;obtain ⟨A,cc,hxv,hrd⟩:=hsrc.val;obtain ⟨g,p,rfl,hcell⟩:=hrd hpn;have hr:=hrun ⟨g,p,none⟩ cc hxv _ (flat_read hcell) rfl;obtain ⟨X3,s3,hS3,hN3,hφ⟩:=grow_ok hS2 (e:=e) (Builtin.zeroCells zv.cells (grownCap w (os.length+news.length) cap0 e-(os.length+news.length))) hro hsrc.rows hco hcn;have hge:=grownCap_ge w (os.length+news.length) cap0 e
      have hle:=grownCap_le_maxLen w (os.length+news.length) cap0 e (by simp only [maxLen];omega)
      refine ⟨_,_,X3,hr,s2.trans s3,hS3,VR.fresh (g:=w.heap.size) (sz:=te.size) rfl (by omega) hφ hge ?_ hle⟩
      have hzl:zv.cells.size=te.size:=by rw [←Array.length_toList,hzc];simp [hok.zlen]
      simp only [Array.size_append,List.size_toArray,flat_length,size_zeroCells,hzl];rw [←Nat.add_mul,←Nat.add_mul]
      exact Nat.mul_le_mul_right _ (by omega)
     split at h
     · 
       split at h<;>cases h
       rename_i hbig;cases hs;obtain ⟨c,X1,hsr,s1,hS1,hN1,hφ1,hl1,_,hc1⟩:=sourceOf_ok hS hsrc hx X.N w.heap.size 0 (Nat.le_refl _)
       rcases Nat.eq_zero_or_pos news.length with h0|hp
       · have hnil:news=[]:=List.eq_nil_of_length_eq_zero h0;subst hnil;obtain ⟨A,cc,hxv,_⟩:=hsr.val
         obtain ⟨s2,hS2⟩:=sr_addnil hS1 .arr (by simp) te.size 0
         refine ⟨.slice none 0 0,w,_,?_,s1.trans s2,hS2,?_⟩
         · rw [hxv];exact run_append_none hu hi none A 0 0 cc (Nat.le_refl _)
         · exact .slz _ 0 none (by simp [Cx.add,hN1,hl1,hS.n])
       · have := grow (X2 := X1) (S2 := S1) (os := []) (co := fun _ _ => undef) (c := c) (cap0 := 0) hsr s1 hS1 hN1 (by simp) (by simp) (fun i j hi hj => by
             rw [hN1];simpa using hc1 i j hi hj) (by simpa using hbig) (fun A cc hxv zz hrd hzz=>by
             have hr:=run_append_nil (P:=P) w t ty e i zv hu hi hz A news.length cc (flat news.length te.size c) (by rw [flat_length,hsz]) hrd hp (by omega) (by
              have:=mul_le_bytes hbig hby
              rw [hb];omega)
             rw [hxv,hr]
             simp [hzz,flat]) hp
         rw [hN1,show X.N=S1.length by have:=hS.n;omega] at this
         simpa using this
     · 
       rename_i id lo n;split at h
       · cases h
       · rename_i ob hrow;split at h
         · rename_i hcond;obtain ⟨hobsz,hln,hbig⟩:=hcond;cases h;obtain ⟨hob1,hkd⟩:=isRow_ob hrow
           cases hs with
           | slz id lo A hid =>
            have hdrop:ob.els.drop lo=[]:=by simp;omega
            rw [hdrop];obtain ⟨c,X1,hsr,s1,hS1,hN1,hφ1,hl1,hmono,hc1⟩:=sourceOf_ok hS hsrc hx X.N w.heap.size 0 (Nat.le_refl _)
            have hne:X.N≠id:=by omega
            have hS2:=sr_drop hS1 id;have s2:Stn w X1 w (X1.drop id):=stn_drop
            rcases Nat.eq_zero_or_pos news.length with h0|hp
            · have hnil:news=[]:=List.eq_nil_of_length_eq_zero h0;subst hnil;obtain ⟨A',cc,hxv,_⟩:=hsr.val
              obtain ⟨s3,hS3⟩:=sr_addnil hS2 .arr (by simp) te.size 0
              refine ⟨.slice A 0 0,w,_,?_,(s1.trans s2).trans s3,hS3,?_⟩
              · rw [hxv];exact run_append_none hu hi A A' 0 0 cc (Nat.le_refl _)
              · exact .slz _ 0 A (by simp [Cx.add,Cx.drop,hN1,hl1,hS.n])
            · have := grow (X2 := X1.drop id) (S2 := S1.set id none) (os := []) (co := fun _ _ => undef) (c := c) (cap0 := 0) hsr (s1.trans s2) hS2 hN1 (by simp) (by simp) (fun i j hi hj => by
                  have h0:=hc1 i j hi hj
                  have:=h0.keep s2.toStp (fun b _ hr _=>by simp [Cx.drop,hr,hne]) (fun _ _ _ _ _=>rfl)
                  simpa [Cx.drop,hN1] using this) (by simpa using hbig) (fun A' cc hxv zz hrd hzz=>by
                  cases A with
                  | none =>
                   have hr:=run_append_nil (P:=P) w t ty e i zv hu hi hz A' news.length cc (flat news.length te.size c) (by rw [flat_length,hsz]) hrd hp (by omega) (by
                    have:=mul_le_bytes (n:=news.length) (by omega) hby
                    rw [hb];omega)
                   rw [hxv,hr];simp [hzz,flat]
                  | some A0 =>
                   have hr:=run_append_grow (P:=P) w t ty e i zv hu hi hz A0 0 0 [] (by simp) (by simp) A' news.length cc (flat news.length te.size c) (by rw [flat_length,hsz]) hrd (by omega) (by omega)
                    (growslice_fits (by omega) (by rw [hb];exact mul_le_bytes (by omega) hby))
                   rw [hxv,hr]
                   simp [hzz,flat]) hp
              have hN2:(X1.drop id).N=S1.length:=by simp [Cx.drop,hN1,hS.n,hl1]
              rw [hN2] at this;simpa using this
           | sl id lo n cap I hid hI hn hcap hm =>
            by_cases hroom:n+news.length≤cap
            · 
              obtain ⟨c,X1,hsr,s1,hS1,hN1,hφ1,hl1,hmono,hc1⟩:=sourceOf_ok hS hsrc hx X.N I.g (I.o+(lo+n)*I.sz) (Nat.le_refl _)
              have hI1:X1.φ id=some I:=by rw [hφ1];exact hI
              obtain ⟨co,hor⟩:=row_of hS1 hob1 hI1;obtain ⟨cur,e',hblk,hcs⟩:=hor.blk;have hIsz:=hor.sz
              have hfit:I.o+(lo+n+news.length)*I.sz≤I.size:=by
               refine Nat.le_trans ?_ hcap
               have:(lo+n+news.length)*I.sz≤(lo+cap)*I.sz:=Nat.mul_le_mul_right _ (by omega)
               omega
              obtain ⟨X2,s2,hS2,hN2,hφ2⟩:=room_ok hS1 hob1 hkd hI1 hblk (news:=news) (c:=c) hln (fun r hr=>(hsr.rows r hr).trans hobsz.symm) hfit (fun i j hi hj=>by
               have:=hc1 i j hi (by omega)
               rw [hN1,hobsz];exact this)
              obtain ⟨A,cc,hxv,hrd⟩:=hsr.val
              have hvr:VR (w.setRow I.g (cur.toList.take (I.o+(lo+n)*I.sz)++flat news.length ob.sz c++cur.toList.drop (I.o+(lo+n)*I.sz+(flat news.length ob.sz c).length)).toArray) X2 (.sl S1.length 0 (n+news.length)) (.slice (some ⟨I.g,I.o+lo*I.sz,none⟩) (n+news.length) cap):=by
               have:=VR.sl (w:=w.setRow I.g (cur.toList.take (I.o+(lo+n)*I.sz)++flat news.length ob.sz c++cur.toList.drop (I.o+(lo+n)*I.sz+(flat news.length ob.sz c).length)).toArray) (X:=X2) S1.length 0 (n+news.length) cap ⟨I.g,I.o+lo*I.sz,I.sz,I.size⟩
                (by rw [hN2,hS1.n];omega) (by rw [←hS1.n];exact hφ2) hroom (by
                 have:I.o+lo*I.sz+(0+cap)*I.sz=I.o+(lo+cap)*I.sz:=by rw [Nat.add_mul,Nat.add_mul];omega
                 rw [this];exact hcap) hm
               simpa using this
              refine ⟨_,_,X2,?_,s1.trans s2,by rw [←hobsz];simpa using hS2,hvr⟩
              have hp0:I.o+lo*I.sz+n*te.size=I.o+(lo+n)*I.sz:=by rw [Nat.add_mul,hIsz,hobsz];omega
              rcases Nat.eq_zero_or_pos news.length with h0|hp
              · rw [hxv,h0]
                have hself:(cur.toList.take (I.o+(lo+n)*I.sz)++flat 0 ob.sz c++cur.toList.drop (I.o+(lo+n)*I.sz+(flat 0 ob.sz c).length)).toArray=cur:=by simp [flat]
                rw [hself,setRow_self w I.g cur e' (0,0) hblk]
                exact run_append_none hu hi _ A n cap cc (by omega)
              · obtain ⟨g,p,rfl,hcell⟩:=hrd hp
                have hrun:=run_append_in (P:=P) (ty:=ty) hu hi I.g (I.o+lo*I.sz) n cap cur e' hblk ⟨g,p,none⟩ news.length cc (flat news.length te.size c) (by rw [flat_length,hsz]) (flat_read hcell)
                 (fun u hu'=>by
                  obtain ⟨k,hk,rfl⟩:=List.mem_iff_getElem.1 hu';rw [flat_length] at hk;obtain ⟨h1,h2,_⟩:=flat_split hk;have:=(hc1 _ _ h1 h2).one;have hg:=flat_get (c:=c) hk
                  rw [List.getElem?_eq_getElem (by rw [flat_length];exact hk)] at hg
                  injection hg with hg
                  rw [hg];exact this) hroom (by
                  have h3:=hfit;rw [Nat.add_mul (lo+n)] at h3;rw [flat_length,hsz,hp0,hcs,←hobsz,←hIsz]
                  omega)
                rw [hxv,hrun,hsz,hp0,hobsz]
            · 
              have hne:X.N≠id:=by omega
              obtain ⟨c,X1,hsr,s1,hS1,hN1,hφ1,hl1,hmono,hc1⟩:=sourceOf_ok hS hsrc hx X.N w.heap.size (n*te.size) (Nat.le_refl _)
              have hI1:X1.φ id=some I:=by rw [hφ1];exact hI
              obtain ⟨co,hor⟩:=row_of hS1 hob1 hI1;have hIsz:=hor.sz
              have hS2:=sr_move hS1 id X.N I.g (fun l=>if l.1=I.g then (w.heap.size,l.2-(I.o+lo*I.sz)) else l)
              have s2:Stn w X1 w (X1.move id X.N I.g (fun l=>if l.1=I.g then (w.heap.size,l.2-(I.o+lo*I.sz)) else l)):=stn_move
              have hdl:(ob.els.drop lo).length=n:=by simp;omega
              have hdat:∀i j,i<n→at2 (ob.els.drop lo) i j=at2 ob.els (lo+i) j:=fun i j hi=>by simp [at2,List.getD_eq_getElem?_getD,List.getElem?_drop]
              have hocell:∀i j,i<n→j<te.size→w.cell? ⟨I.g,I.o+lo*I.sz+i*te.size+j,none⟩=some (co (lo+i) j):=fun i j hi hj=>by
               have h0:=hor.cell (lo+i) j (by omega) (by omega)
               have he:I.o+lo*I.sz+i*te.size+j=I.o+(lo+i)*I.sz+j:=by rw [Nat.add_mul,hIsz,hobsz];omega
               rw [he];exact h0
              have:=grow (X2:=X1.move id X.N I.g (fun l=>if l.1=I.g then (w.heap.size,l.2-(I.o+lo*I.sz)) else l)) (S2:=S1.set id none) (os:=ob.els.drop lo) (co:=fun i j=>co (lo+i) j) (c:=c) (cap0:=cap)
               hsr (s1.trans s2) hS2 hN1 (fun r hr=>(hor.rows r (List.mem_of_mem_drop hr)).trans hobsz) (fun i j hi hj=>by
                rw [hdl] at hi;rw [hdat i j hi]
                have h0:=hor.val (lo+i) j (by omega) (by omega)
                rw [if_neg hkd] at h0
                have:=cr_move (rid:=X.N) hor.par (ρ:=fun l=>if l.1=I.g then (w.heap.size,l.2-(I.o+lo*I.sz)) else l) (fun b off hb=>by simp [hb]) h0
                simp only [if_true] at this
                have he:I.o+(lo+i)*I.sz+j-(I.o+lo*I.sz)=0+i*te.size+j:=by rw [Nat.add_mul,hIsz,hobsz];omega
                rw [he] at this
                simpa [Cx.move,hN1] using this) (fun i j hi hj=>by
                have h0:=hc1 i j hi hj;rw [hdl]
                have:=cr_move_other (id:=id) (rid:=X.N) (g:=I.g) (ρ:=fun l=>if l.1=I.g then (w.heap.size,l.2-(I.o+lo*I.sz)) else l) hne h0
                simpa [Cx.move,hN1] using this) (by rw [hdl];omega) (fun A' cc hxv zz hrd hzz=>by
                have hr:=run_append_grow (P:=P) w t ty e i zv hu hi hz ⟨I.g,I.o+lo*I.sz,none⟩ n cap (flat n te.size (fun i j=>co (lo+i) j)) (by rw [flat_length,hsz]) (flat_read hocell)
                 A' news.length cc (flat news.length te.size c) (by rw [flat_length,hsz]) hrd (by omega) (by omega) (growslice_fits (by omega) (by rw [hb];exact mul_le_bytes (by omega) hby))
                rw [hxv,hr,hdl];rw [hdl] at hzz
                simp [hzz]) (by omega)
              have hN2:(X1.move id X.N I.g (fun l=>if l.1=I.g then (w.heap.size,l.2-(I.o+lo*I.sz)) else l)).N=S1.length:=by simp [Cx.move,hN1,hS.n,hl1]
              rw [hN2,hdl] at this;exact this
         · cases h
     · cases h
end Go.Pi
