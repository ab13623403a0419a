/- Part of a proof: Abs Rel Mem ToP Ops Del. -/
import GoSem.Step
import Derived.Calls
import Derived.Below
import Derived.Laws.Entries
import Derived.Laws.Cells
import Derived.Laws.CopyRow
import Derived.Laws.Append
import Derived.WalkKit
import Derived.Deep.RegionLaw
import Derived.Deep.LoopGhost
import Derived.Lib.Walk
import Derived.Lib.SliceRun
import Derived.Shelf.RegionOpenPlain
import Derived.Lib.SlicesDelete
import Derived.Sort.WalkB12
import Derived.Test.YtgiedlcjlalpcaaGreatProg
set_option linter.all false
namespace Go.Abs
inductive P where
 | bool (b:Bool)
 | int (k:IntKind) (n:Int)
 | str (s:ByteArray)
 | nilp | nilf | nilm | nili
 | agg (cs:List P)
 | lst (es:List P)
 | fn (f:Fn) (first cap:List P)
 | imm (cs:List P) (off:Nat)
 | obj (tag:Nat) (ps:List P) (off:Nat)
 | imap (ks vs:List P)
 deriving Inhabited
inductive V where
 | p (x:P)
 | nils
 | any
 | ref (nm off:Nat)
 | own (nm len:Nat)
 | elem (nm len i j:Nat)
 | mp (nm:Nat)
 | fn (f:Fn) (first cap:List V)
 | agg (cs:List V)
 | tup (vs:List V)
 deriving Inhabited
inductive Blk where
 | cells (cs:List V)
 | frz (cs:List P)
 | arr (sz:Nat) (es:List P) (sh:Bool)
 | map (ks vs:List P)
 | vmap (ks:List P) (vs:List V)
 deriving Inhabited
abbrev Blks:=List (Nat × Blk)
def getB:Blks→Nat→Option Blk
 | [],_=>none
 | (m,x) :: r,n=>if n=m then some x else getB r n
def setB:Blks→Nat→Blk→Blks
 | [],n,x=>[(n,x)]
 | (m,y) :: r,n,x=>if n=m then (m,x) :: r else (m,y) :: setB r n x
structure St where
 t:List V
 b:Blks
 u:List Nat
def P.cells:P→List P
 | .agg cs=>cs
 | x=>[x]
def V.cells:V→Option (List V)
 | .agg cs=>some cs
 | .p x=>some (x.cells.map .p)
 | .any=>none
 | .tup _=>none
 | v=>some [v]
def allP:List V→Option (List P)
 | []=>some []
 | .p x :: r=>(allP r).map (x :: ·)
 | _ :: _=>none
def mkAgg (cs:List V):V:=
 match allP cs with
 | some ps=>.p (.agg ps)
 | none=>.agg cs
def mkFn (f:Fn) (first cap:List V):V:=
 match allP first,allP cap with
 | some a,some b=>.p (.fn f a b)
 | _,_=>.fn f first cap
inductive TK where
 | int (k:IntKind)
 | bool
 | str
 | slice (elem:TypeId)
 | ptr (elem:TypeId)
 | map (key elem:TypeId)
 | func
 | struct (fs:List (Nat × TypeId))
 | arr (n:Nat) (elem:TypeId)
 deriving Inhabited
structure Ty where
 k:TK
 size:Nat
 bytes:Nat
 zero:List V
 eqs:List TK:=[]
 deriving Inhabited
def Ty.agg (i:Ty):Bool:=
 match i.k with
 | .struct _ | .arr _ _=>true
 | _=>false
structure Cfg where
 ty:TypeId→Option Ty
 obj:Nat→List P→List P
 imp:FuncId→Bool:=fun _=>false
def constV:Value→V
 | .bool b=>.p (.bool b)
 | .int k n=>.p (.int k n)
 | .string s=>.p (.str s)
 | .slice none 0 0=>.nils
 | .pointer none=>.p .nilp
 | .nilFunc=>.p .nilf
 | .map none=>.p .nilm
 | .nilIface=>.p .nili
 | _=>.any
def opnd (t:List V):Operand→V
 | .tmp i=>t.getD i .any
 | .const v=>constV v
 | .global _=>.any
 | .func f=>.p (.fn (.func f) [] [])
def partV (agg:Bool) (size off:Nat) (cs:List V):Option V:=
 if off + size ≤ cs.length then
  if agg then some (mkAgg ((cs.drop off).take size)) else if size=1 then cs[off]? else none
 else none
def partP (agg:Bool) (size off:Nat) (cs:List P):Option V:=
 if off + size ≤ cs.length then
  if agg then some (.p (.agg ((cs.drop off).take size))) else if size=1 then (cs[off]?).map .p else none
 else none
mutual
def toP (b:Blks):V→Option (P × Blks)
 | .p x=>some (x,b)
 | .nils=>some (.lst [],b)
 | .own nm len=>
  match getB b nm with
  | some (.arr sz es _)=>if es.length=len then some (.lst es,setB b nm (.arr sz es true)) else none
  | _=>none
 | .ref nm off=>
  match getB b nm with
  | some (.cells cs)=>
   match allP cs with
   | some ps=>some (.imm ps off,setB b nm (.frz ps))
   | none=>none
  | some (.frz ps)=>some (.imm ps off,b)
  | _=>none
 | .mp nm=>
  match getB b nm with
  | some (.map ks vs)=>some (.imap ks vs,setB b nm (.frz []))
  | some (.vmap ks vs)=>match allP vs with | some ps=>some (.imap ks ps,setB b nm (.frz [])) | none=>none
  | _=>none
 | .agg cs=>match toPs b cs with | some (ps,b')=>some (.agg ps,b') | none=>none
 | .fn f first cap=>
  match toPs b first with
  | some (ps,b')=>match toPs b' cap with | some (qs,b'')=>some (.fn f ps qs,b'') | none=>none
  | none=>none
 | _=>none
def toPs (b:Blks):List V→Option (List P × Blks)
 | []=>some ([],b)
 | v :: r=>
  match toP b v with
  | some (x,b')=>match toPs b' r with | some (xs,b'')=>some (x :: xs,b'') | none=>none
  | none=>none
end
def eqCells:List TK→List P→List P→Option Bool
 | [],[],[]=>some true
 | .int k :: ks,.int i a :: r,.int j b :: s=>if i=k∧j=k then (eqCells ks r s).map (a == b && ·) else none
 | .bool :: ks,.bool a :: r,.bool b :: s=>(eqCells ks r s).map (a == b && ·)
 | .str :: ks,.str a :: r,.str b :: s=>(eqCells ks r s).map (a == b && ·)
 | _,_,_=>none
def intBin (op:BinOp) (k:IntKind) (a b:Int):Option V:=
 match op with
 | .add=>some (.p (.int k (k.wrap (a + b))))
 | .sub=>some (.p (.int k (k.wrap (a - b))))
 | .mul=>some (.p (.int k (k.wrap (a * b))))
 | .quo=>if b=0 then none else some (.p (.int k (k.wrap (a.tdiv b))))
 | .rem=>if b=0 then none else some (.p (.int k (a.tmod b)))
 | .eql=>some (.p (.bool (a == b)))
 | .neq=>some (.p (.bool (a != b)))
 | .lss=>some (.p (.bool (decide (a < b))))
 | .leq=>some (.p (.bool (decide (a ≤ b))))
 | .gtr=>some (.p (.bool (decide (a > b))))
 | .geq=>some (.p (.bool (decide (a ≥ b))))
 | _=>none
def strBin (op:BinOp) (x y:ByteArray):Option V:=
 let eq:=x == y
 let lt:=Op.bytesLess x.toList y.toList
 match op with
 | .add=>if x.size + y.size ≤ 4294967296 then some (.p (.str (x ++ y))) else none
 | .eql=>some (.p (.bool eq))
 | .neq=>some (.p (.bool !eq))
 | .lss=>some (.p (.bool lt))
 | .leq=>some (.p (.bool (lt || eq)))
 | .gtr=>some (.p (.bool !(lt || eq)))
 | .geq=>some (.p (.bool !lt))
 | _=>none
def nilKind:V→Option Nat
 | .p .nilp=>some 0
 | .p .nilf=>some 1
 | _=>none
def eqV (ty:Option Ty) (x y:V):Option Bool:=
 match x,y with
 | .p (.bool a),.p (.bool b)=>match ty with | some ⟨.bool,_,_,_,_⟩=>some (a == b) | _=>none
 | .p (.agg a),.p (.agg b)=>match ty with | some i=>if i.eqs.isEmpty then none else eqCells i.eqs a b | none=>none
 | x,.p .nilp=>match ty with | some ⟨.ptr _,_,_,_,_⟩=>(match x with | .p .nilp=>some true | .p (.imm _ _) | .p (.obj _ _ _) | .ref _ _=>some false | _=>none) | _=>none
 | x,.p .nilf=>match ty with | some ⟨.func,_,_,_,_⟩=>(match x with | .p .nilf=>some true | .p (.fn _ _ _) | .fn _ _ _=>some false | _=>none) | _=>none
 | _,_=>none
def binV (ty:Option Ty) (op:BinOp) (x y:V):Option V:=
 match x,y with
 | .p (.int k a),.p (.int k' b)=>if k=k' then intBin op k a b else none
 | .p (.str a),.p (.str b)=>strBin op a b
 | x,y=>
  match op with
  | .eql=>(eqV ty x y).map fun r=>.p (.bool r)
  | .neq=>(eqV ty x y).map fun r=>.p (.bool !r)
  | _=>none
def natOf:V→Option Nat
 | .p (.int _ n)=>if 0 ≤ n then some n.toNat else none
 | _=>none
def spliceV (cs:List V) (off:Nat) (vs:List V):List V:=cs.take off ++ vs ++ cs.drop (off + vs.length)
def addedP (b:Blks):V→Option (List P × Blks)
 | .p (.lst es)=>some (es,b)
 | .nils=>some ([],b)
 | .own nm len=>
  match getB b nm with
  | some (.arr _ es _)=>if es.length=len then some (es,b) else none
  | _=>none
 | _=>none
def roomFor (n bytes:Nat):Bool:=decide (n * bytes ≤ 70368744177664∧n ≤ 4294967296)
def oneP:P→Bool
 | .agg _=>false
 | _=>true
def oneV:V→Bool
 | .agg _=>false
 | .tup _=>false
 | .any=>false
 | .p x=>oneP x
 | _=>true
def elemOk (sz:Nat) (x:P):Bool:=x.cells.length == sz && x.cells.all oneP
def sizesOk (sz:Nat) (es:List P):Bool:=es.all (elemOk sz)
def appendV (cfg:Cfg) (t:TypeId) (d:Nat) (S:St) (x y:V):Option (V × Blks × List Nat):=
 match cfg.ty t with
 | some ⟨.slice e,_,_,_,_⟩=>
  match cfg.ty e with
  | some i=>
   match addedP S.b y with
   | some (ys,b)=>
    if sizesOk i.size ys then
     match x with
     | .nils=>
      if roomFor ys.length i.bytes then
       if d ∈ S.u then none else some (.own d ys.length,setB b d (.arr i.size ys false),d :: S.u)
      else none
     | .own nm len=>
      match getB b nm with
      | some (.arr sz es sh)=>
       if es.length=len∧sz=i.size then
        if roomFor (len + ys.length) i.bytes then some (.own nm (len + ys.length),setB b nm (.arr sz (es ++ ys) sh),S.u) else none
       else none
      | _=>none
     | _=>none
    else none
   | none=>none
  | none=>none
 | _=>none
def placesOf (fs:List (Nat × TypeId)) (ty:TypeId→Option Ty) (i:Nat):Option (Nat × Nat):=
 match fs[i]? with
 | some (o,t)=>(ty t).map fun x=>(o,x.size)
 | none=>none
def fillV (place:Nat→Option (Nat × Nat)) (cs:List V):List (Nat × V)→Option (List V)
 | []=>some cs
 | (i,v) :: rest=>
  match place i,v.cells with
  | some (o,n),some vs=>if vs.length=n∧o + n ≤ cs.length then fillV place (spliceV cs o vs) rest else none
  | _,_=>none
def partsToP (b:Blks):Nat→List (Nat × V)→Option (List P × Blks)
 | _,[]=>some ([],b)
 | i,(j,v) :: r=>
  if i=j then
   match toP b v with
   | some (x,b')=>match partsToP b' (i + 1) r with | some (xs,b'')=>some (x :: xs,b'') | none=>none
   | none=>none
  else none
def evalOp (cfg:Cfg) (d:Nat) (op:Op) (S:St):Option (V × Blks × List Nat):=
 let ρ:=opnd S.t
 let pure (v:V):Option (V × Blks × List Nat):=some (v,S.b,S.u)
 match op with
 | .move x | .assign x=>pure (ρ x)
 | .pick c a b=>match ρ c with | .p (.bool x)=>pure (if x then ρ a else ρ b) | _=>none
 | .alloc t=>
  match cfg.ty t with
  | some i=>if d ∈ S.u then none else some (.ref d 0,setB S.b d (.cells i.zero),d :: S.u)
  | none=>none
 | .box _ x=>
  match (ρ x).cells with
  | some cs=>if d ∈ S.u then none else some (.ref d 0,setB S.b d (.cells cs),d :: S.u)
  | none=>none
 | .build t parts=>
  match cfg.ty t with
  | some ⟨.struct fs,_,_,z,_⟩=>if fs.all (fun x=>(cfg.ty x.2).isSome) then (fillV (placesOf fs cfg.ty) z (parts.toList.map fun (i,x)=>(i, ρ x))).bind fun cs=>pure (mkAgg cs) else none
  | some ⟨.arr _ e,_,_,z,_⟩=>
   match cfg.ty e with
   | some i=>(fillV (fun k=>some (k * i.size,i.size)) z (parts.toList.map fun (i,x)=>(i, ρ x))).bind fun cs=>pure (mkAgg cs)
   | none=>none
  | _=>none
 | .buildSlice t len parts=>
  match cfg.ty t with
  | some ⟨.slice e,_,_,_,_⟩=>
   match cfg.ty e with
   | some i=>
    match partsToP S.b 0 (parts.toList.map fun (i,x)=>(i, ρ x)) with
    | some (es,b)=>
     if d ∈ S.u then none
     else if es.length=len∧sizesOk i.size es∧len ≤ 1000∧i.size ≤ 1000 then some (.own d len,setB b d (.arr i.size es false),d :: S.u)
     else none
    | none=>none
   | none=>none
  | _=>none
 | .load t a=>
  match cfg.ty t with
  | some i=>
   match ρ a with
   | .ref nm off=>
    match getB S.b nm with
    | some (.cells cs)=>(partV i.agg i.size off cs).bind pure
    | some (.frz cs)=>(partP i.agg i.size off cs).bind pure
    | _=>none
   | .elem nm len k j=>
    match getB S.b nm with
    | some (.arr _ es _)=>if es.length=len then match es[k]? with | some x=>(partP i.agg i.size j x.cells).bind pure | none=>none else none
    | _=>none
   | .p (.imm cs off)=>(partP i.agg i.size off cs).bind pure
   | .p (.obj tag ps off)=>(partP i.agg i.size off (cfg.obj tag ps)).bind pure
   | _=>none
  | none=>none
 | .store t a x=>
  match cfg.ty t with
  | some i=>
   match ρ a,(ρ x).cells with
   | .ref nm off,some vs=>
    match getB S.b nm with
    | some (.cells cs)=>if vs.length=i.size∧off + i.size ≤ cs.length∧vs.all oneV=true then some (.any,setB S.b nm (.cells (spliceV cs off vs)),S.u) else none
    | _=>none
   | _,_=>none
  | none=>none
 | .nilCheck x=>
  match ρ x with
  | .ref nm off=>pure (.ref nm off)
  | .p (.imm cs off)=>pure (.p (.imm cs off))
  | .p (.obj g ps off)=>pure (.p (.obj g ps off))
  | _=>none
 | .binOp o t x y _=>(binV (cfg.ty t) o (ρ x) (ρ y)).bind pure
 | .unOp o _ x=>
  match o, ρ x with
  | .not,.p (.bool b)=>pure (.p (.bool !b))
  | .neg,.p (.int k n)=>pure (.p (.int k (k.wrap (0 - n))))
  | _,_=>none
 | .convert s t x=>
  match cfg.ty s,cfg.ty t, ρ x with
  | some _,some ⟨.int k,_,_,_,_⟩,.p (.int _ n)=>pure (.p (.int k (k.wrap n)))
  | some _,some ⟨.str,_,_,_,_⟩,.p (.str s)=>pure (.p (.str s))
  | _,_,_=>none
 | .makeFunc f first cap=>pure (mkFn f (first.toList.map ρ) (cap.toList.map ρ))
 | .slice t x lo hi none=>
  match cfg.ty t, ρ x with
  | some ⟨.slice e,_,_,_,_⟩,v=>
   match cfg.ty e,toP S.b v with
   | some i,some (.lst es,b)=>
    if sizesOk i.size es then
     match (match lo with | some l=>natOf (ρ l) | none=>some 0),(match hi with | some h=>natOf (ρ h) | none=>some es.length) with
     | some l,some h=>if l ≤ h∧h ≤ es.length then some (.p (.lst ((es.take h).drop l)),b,S.u) else none
     | _,_=>none
    else none
   | _,_=>none
  | some ⟨.str,_,_,_,_⟩,.p (.str s)=>
   match (match lo with | some l=>natOf (ρ l) | none=>some 0),(match hi with | some h=>natOf (ρ h) | none=>some s.size) with
   | some l,some h=>if l ≤ h∧h ≤ s.size then pure (.p (.str (s.extract l h))) else none
   | _,_=>none
  | _,_=>none
 | .fieldAddr t x f=>
  match cfg.ty t with
  | some ⟨.struct fs,_,_,_,_⟩=>
   match placesOf fs cfg.ty f with
   | some (o,n)=>
    if n=0 then none else
    match ρ x with
    | .ref nm off=>pure (.ref nm (off + o))
    | .elem nm len i j=>match getB S.b nm with | some (.arr _ es _)=>if es.length=len then pure (.elem nm len i (j + o)) else none | _=>none
    | .p (.imm cs off)=>pure (.p (.imm cs (off + o)))
    | .p (.obj g ps off)=>pure (.p (.obj g ps (off + o)))
    | _=>none
   | none=>none
  | _=>none
 | .field t x f=>
  match cfg.ty t with
  | some ⟨.struct fs,_,_,_,_⟩=>
   match fs[f]? with
   | some (o,ft)=>
    match cfg.ty ft,(ρ x) with
    | some i,.p (.agg cs)=>(partP i.agg i.size o cs).bind pure
    | some i,.agg cs=>(partV i.agg i.size o cs).bind pure
    | _,_=>none
   | none=>none
  | _=>none
 | .indexAddr t x ix=>
  match cfg.ty t,natOf (ρ ix) with
  | some ⟨.slice e,_,_,_,_⟩,some k=>
   match cfg.ty e with
   | some i=>
    match ρ x with
    | .p (.lst es)=>
     match es[k]? with
     | some y=>if y.cells.length=i.size then pure (.p (.imm y.cells 0)) else none
     | none=>none
    | .own nm len=>
     match getB S.b nm with
     | some (.arr sz es _)=>if es.length=len∧k < len∧sz=i.size then pure (.elem nm len k 0) else none
     | _=>none
    | _=>none
   | none=>none
  | some ⟨.arr n e,_,_,_,_⟩,some k=>
   match cfg.ty e with
   | some i=>
    match ρ x with
    | .ref nm off=>if k < n then pure (.ref nm (off + k * i.size)) else none
    | _=>none
   | none=>none
  | _,_=>none
 | .index t x ix=>
  match cfg.ty t, ρ x,natOf (ρ ix) with
  | some ⟨.str,_,_,_,_⟩,.p (.str s),some k=>match s[k]? with | some c=>pure (.p (.int .u8 c.toNat)) | none=>none
  | _,_,_=>none
 | .extract x i=>match ρ x with | .tup vs=>(vs[i]?).bind pure | _=>none
 | .call { callee:=.builtin b,args,argTypes }=>
  match b,args.toList.map ρ,argTypes.toList with
  | .len,[v],[t]=>
   match cfg.ty t,v with
   | some ⟨.slice _,_,_,_,_⟩,.p (.lst es)=>pure (.p (.int .i64 es.length))
   | some ⟨.slice _,_,_,_,_⟩,.nils=>pure (.p (.int .i64 0))
   | some ⟨.slice _,_,_,_,_⟩,.own nm len=>
    match getB S.b nm with
    | some (.arr _ es _)=>if es.length=len then pure (.p (.int .i64 len)) else none
    | _=>none
   | some ⟨.str,_,_,_,_⟩,.p (.str s)=>pure (.p (.int .i64 s.size))
   | _,_=>none
  | .append,[x,y],[t,t']=>(match cfg.ty t' with | some ⟨.slice _,_,_,_,_⟩=>appendV cfg t d S x y | _=>none)
  | .min,[.p (.int k a),.p (.int _ c)],_=>pure (.p (.int k (if c < a then c else a)))
  | .max,[.p (.int k a),.p (.int _ c)],_=>pure (.p (.int k (if c > a then c else a)))
  | _,_,_=>none
 | _=>none
def St.put (S:St) (dst:Option Tmp) (v:V) (b:Blks) (u:List Nat):St:=
 match dst with
 | some d=>⟨S.t.set d v,b,u⟩
 | none=>⟨S.t,b,u⟩
def isCall:Op→Bool
 | .call { callee:=.value _,.. }=>true
 | _=>false
def wantedA (ops:Array Oper) (t:List V) (o:Oper):Option Bool:=
 match o.guard with
 | none=>some true
 | some (j,want)=>
  match (ops[j]?).bind (·.dst) with
  | some d=>(match t.getD d .any with | .p (.bool q)=>if d < t.length then some (q == want) else none | .tup []=>if d < t.length then some false else none | _=>none)
  | none=>none
def evalSeq (cfg:Cfg) (ops:Array Oper):List Oper→St→Option (List Oper × St)
 | [],S=>some ([],S)
 | o :: r,S=>
  match wantedA ops S.t o with
  | some true=>
   if isCall o.op then some (o :: r,S) else
   match evalOp cfg (o.dst.getD 0) o.op S with
   | some (v,b,u)=>evalSeq cfg ops r (S.put o.dst v b u)
   | none=>none
  | some false=>evalSeq cfg ops r (S.put o.dst (.tup []) S.b S.u)
  | none=>none
end Go.Abs
namespace Go.Abs
open Go.RowKit
structure Env where
 cell:Nat→Nat→Option Value
 obj:Nat→Option (Nat × List P)
 mp:Nat→Option (List P × List P)
structure Env.le (E E':Env):Prop where
 cell:∀ b o v,E.cell b o=some v→E'.cell b o=some v
 obj:∀ b x,E.obj b=some x→E'.obj b=some x
 mp:∀ b x,E.mp b=some x→E'.mp b=some x
theorem Env.le_refl (E:Env):E.le E:=⟨fun _ _ _ h=>h,fun _ _ h=>h,fun _ _ h=>h⟩
theorem Env.le.trans {A B C:Env} (h:A.le B) (k:B.le C):A.le C:=⟨fun b o v e=>k.cell _ _ _ (h.cell b o v e),fun b x e=>k.obj _ _ (h.obj b x e),fun b x e=>k.mp _ _ (h.mp b x e)⟩
inductive RepP (E:Env):Value→P→Prop
 | bool (b:Bool):RepP E (.bool b) (.bool b)
 | int (k:IntKind) (n:Int):RepP E (.int k n) (.int k n)
 | str (s:ByteArray):RepP E (.string s) (.str s)
 | nilp:RepP E (.pointer none) .nilp
 | nilf:RepP E .nilFunc .nilf
 | nilm:RepP E (.map none) .nilm
 | nili:RepP E .nilIface .nili
 | agg (vs:List Value) (ps:List P) (hl:vs.length=ps.length) (h:∀ (i:Nat) (v:Value) (p:P),vs[i]? = some v→ps[i]? = some p→RepP E v p):RepP E (.agg vs.toArray) (.agg ps)
 | lst (base:Option Addr) (cap:Nat) (es:List P) (f:Nat→Nat→Value) (b off sz:Nat) (hcap:es.length ≤ cap) (hlen:es.length ≤ 4294967296)
   (hb:es ≠ []→base=some ⟨b,off,none⟩) (hsz:∀ (i:Nat) (x:P),es[i]? = some x→x.cells.length=sz)
   (hc:∀ (i:Nat) (x:P),es[i]? = some x→∀ (j:Nat) (y:P),x.cells[j]? = some y→E.cell b (off + i * sz + j)=some (f i j))
   (hr:∀ (i:Nat) (x:P),es[i]? = some x→∀ (j:Nat) (y:P),x.cells[j]? = some y→RepP E (f i j) y):RepP E (.slice base es.length cap) (.lst es)
 | fn (f:Fn) (vs ws:List Value) (ps qs:List P) (hl:vs.length=ps.length) (hm:ws.length=qs.length)
   (h:∀ (i:Nat) (v:Value) (p:P),vs[i]? = some v→ps[i]? = some p→RepP E v p) (k:∀ (i:Nat) (v:Value) (p:P),ws[i]? = some v→qs[i]? = some p→RepP E v p):RepP E (.func f vs.toArray ws.toArray) (.fn f ps qs)
 | imm (b off0 off:Nat) (cs:List P) (f:Nat→Value) (hc:∀ (i:Nat) (y:P),cs[i]? = some y→E.cell b (off0 + i)=some (f i)) (hr:∀ (i:Nat) (y:P),cs[i]? = some y→RepP E (f i) y) :
   RepP E (.pointer (some ⟨b,off0 + off,none⟩)) (.imm cs off)
 | obj (b tag off:Nat) (ps:List P) (h:E.obj b=some (tag,ps)):RepP E (.pointer (some ⟨b,off,none⟩)) (.obj tag ps off)
 | imap (b:Nat) (ks vs:List P) (h:E.mp b=some (ks,vs)):RepP E (.map (some b)) (.imap ks vs)
theorem RepP.mono {E E':Env} (h:E.le E') {v:Value} {x:P} (r:RepP E v x):RepP E' v x:=by
 induction r with
 | bool b=>exact .bool b
 | int k n=>exact .int k n
 | str s=>exact .str s
 | nilp=>exact .nilp
 | nilf=>exact .nilf
 | nilm=>exact .nilm
 | nili=>exact .nili
 | agg vs ps hl _ ih=>exact .agg vs ps hl ih
 | lst base cap es f b off sz hcap hlen hb hsz hc _ ih=>exact .lst base cap es f b off sz hcap hlen hb hsz (fun i x hi j y hj=>h.cell _ _ _ (hc i x hi j y hj)) ih
 | fn f vs ws ps qs hl hm _ _ ih ik=>exact .fn f vs ws ps qs hl hm ih ik
 | imm b off0 off cs f hc _ ih=>exact .imm b off0 off cs f (fun i y hi=>h.cell _ _ _ (hc i y hi)) ih
 | obj b tag off ps ho=>exact .obj b tag off ps (h.obj _ _ ho)
 | imap b ks vs hm=>exact .imap b ks vs (h.mp _ _ hm)
abbrev Places:=Nat→Option (Nat × Nat)
def cur (μ:Places) (nm len:Nat):Value:=
 match μ nm with
 | some (b,cap)=>.slice (some ⟨b,0,none⟩) len cap
 | none=>.slice none 0 0
inductive Rep (E:Env) (μ:Places) (b:Blks) (u:List Nat):Value→V→Prop
 | p (v:Value) (x:P) (h:RepP E v x):Rep E μ b u v (.p x)
 | nils:Rep E μ b u (.slice none 0 0) .nils
 | any (v:Value):Rep E μ b u v .any
 | mp (nm B cap:Nat) (hu:nm ∈ u) (hm:μ nm=some (B,cap)) (hb:∀ sz es sh,getB b nm ≠ some (.arr sz es sh)):Rep E μ b u (.map (some B)) (.mp nm)
 | ref (nm off B cap:Nat) (hu:nm ∈ u) (hm:μ nm=some (B,cap)) (hb:∀ sz es sh,getB b nm ≠ some (.arr sz es sh)):Rep E μ b u (.pointer (some ⟨B,off,none⟩)) (.ref nm off)
 | own (v:Value) (nm len sz:Nat) (es:List P) (sh:Bool) (hu:nm ∈ u) (hb:getB b nm=some (.arr sz es sh)) (hs:v.oneCell'=true) (hl:len ≤ es.length) (hv:len=es.length→v=cur μ nm len):Rep E μ b u v (.own nm len)
 | elem (v:Value) (nm len i j sz:Nat) (es:List P) (sh:Bool) (hu:nm ∈ u) (hb:getB b nm=some (.arr sz es sh)) (hs:v.oneCell'=true) (hl:len ≤ es.length)
   (hv:len=es.length→∃ B cap, μ nm=some (B,cap)∧v = .pointer (some ⟨B,i * sz + j,none⟩)):Rep E μ b u v (.elem nm len i j)
 | fn (f:Fn) (vs ws:List Value) (ps qs:List V) (hl:vs.length=ps.length) (hm:ws.length=qs.length)
   (h:∀ (i:Nat) (v:Value) (p:V),vs[i]? = some v→ps[i]? = some p→Rep E μ b u v p) (k:∀ (i:Nat) (v:Value) (p:V),ws[i]? = some v→qs[i]? = some p→Rep E μ b u v p):Rep E μ b u (.func f vs.toArray ws.toArray) (.fn f ps qs)
 | agg (vs:List Value) (ps:List V) (hl:vs.length=ps.length) (h:∀ (i:Nat) (v:Value) (p:V),vs[i]? = some v→ps[i]? = some p→Rep E μ b u v p):Rep E μ b u (.agg vs.toArray) (.agg ps)
 | tup (vs:List Value) (ps:List V) (hl:vs.length=ps.length) (h:∀ (i:Nat) (v:Value) (p:V),vs[i]? = some v→ps[i]? = some p→Rep E μ b u v p):Rep E μ b u (.tuple vs.toArray) (.tup ps)
structure Chg (E E':Env) (μ μ':Places) (b b':Blks) (u u':List Nat):Prop where
 env:E.le E'
 sub:∀ n,n ∈ u→n ∈ u'
 arr:∀ n,n ∈ u→∀ sz es sh,getB b n=some (.arr sz es sh)→∃ es' sh',getB b' n=some (.arr sz es' sh')∧es.length ≤ es'.length∧(es.length=es'.length→μ' n = μ n)
 oth:∀ n,n ∈ u→(∀ sz es sh,getB b n ≠ some (.arr sz es sh))→μ' n = μ n∧∀ sz es sh,getB b' n ≠ some (.arr sz es sh)
theorem Chg.refl (E:Env) (μ:Places) (b:Blks) (u:List Nat):Chg E E μ μ b b u u:=
 ⟨Env.le_refl E,fun _ h=>h,fun _ _ sz es sh h=>⟨es,sh,h,Nat.le_refl _,fun _=>rfl⟩,fun _ _ h=>⟨rfl,h⟩⟩
theorem Chg.trans {E E' E'':Env} {μ μ' μ'':Places} {b b' b'':Blks} {u u' u'':List Nat} (h:Chg E E' μ μ' b b' u u') (k:Chg E' E'' μ' μ'' b' b'' u' u''):Chg E E'' μ μ'' b b'' u u'':=by
 refine ⟨h.env.trans k.env,fun n hn=>k.sub n (h.sub n hn),?_,?_⟩
 ·intro n hn sz es sh he
  obtain ⟨es',sh',he',hl,hm⟩:=h.arr n hn sz es sh he
  obtain ⟨es'',sh'',he'',hl',hm'⟩:=k.arr n (h.sub n hn) sz es' sh' he'
  exact ⟨es'',sh'',he'',by omega,fun e=>(hm' (by omega)).trans (hm (by omega))⟩
 ·intro n hn he
  obtain ⟨h1,h2⟩:=h.oth n hn he
  obtain ⟨k1,k2⟩:=k.oth n (h.sub n hn) h2
  exact ⟨k1.trans h1,k2⟩
theorem Rep.chg {E E':Env} {μ μ':Places} {b b':Blks} {u u':List Nat} (c:Chg E E' μ μ' b b' u u') {v:Value} {x:V} (r:Rep E μ b u v x):Rep E' μ' b' u' v x:=by
 induction r with
 | p v x h=>exact .p v x (h.mono c.env)
 | nils=>exact .nils
 | any v=>exact .any v
 | mp nm B cap hu hm hb=>
  obtain ⟨h1,h2⟩:=c.oth nm hu hb
  exact .mp nm B cap (c.sub _ hu) (h1.trans hm) h2
 | ref nm off B cap hu hm hb=>
  obtain ⟨h1,h2⟩:=c.oth nm hu hb
  exact .ref nm off B cap (c.sub _ hu) (h1.trans hm) h2
 | own v nm len sz es sh hu hb hs hl hv=>
  obtain ⟨es',sh',he,hl',hm⟩:=c.arr nm hu sz es sh hb
  refine .own v nm len sz es' sh' (c.sub _ hu) he hs (by omega) fun e=>?_
  have e1:es.length=es'.length:=by omega
  rw [hv (by omega)]
  simp only [cur,hm e1]
 | elem v nm len i j sz es sh hu hb hs hl hv=>
  obtain ⟨es',sh',he,hl',hm⟩:=c.arr nm hu sz es sh hb
  refine .elem v nm len i j sz es' sh' (c.sub _ hu) he hs (by omega) fun e=>?_
  have e1:es.length=es'.length:=by omega
  rw [hm e1]
  exact hv (by omega)
 | fn f vs ws ps qs hl hm _ _ ih ik=>exact .fn f vs ws ps qs hl hm ih ik
 | agg vs ps hl _ ih=>exact .agg vs ps hl ih
 | tup vs ps hl _ ih=>exact .tup vs ps hl ih
def Blk.mut:Blk→Bool
 | .frz _=>false
 | _=>true
def blockAt (w:World) (B:Nat) (c:Array Value):Prop:=∃ t,w.heap[B]? = some (.cells c t (0,0))
def Stamped (es:Array MapEntry) (clock:Nat):Prop:=(∀ e ∈ es.toList,e.born < clock)∧(es.toList.map (·.born)).Nodup
def MapAt (E:Env) (w:World) (B:Nat) (ks vs:List P):Prop:=∃ es clock,w.heap[B]? = some (.map es clock)∧es.size=ks.length∧es.size=vs.length ∧
 (∀ (i:Nat) (e:MapEntry),es[i]? = some e→(∀ k,ks[i]? = some k→RepP E e.key k)∧(∀ v,vs[i]? = some v→RepP E e.val v))∧Stamped es clock
theorem MapAt.mono {E E':Env} {w w':World} {B:Nat} {ks vs:List P} (h:MapAt E w B ks vs) (he:E.le E') (hw:w'.heap[B]? = w.heap[B]?):MapAt E' w' B ks vs:=by
 obtain ⟨es,clock,h1,h2,h3,h4,h5⟩:=h
 exact ⟨es,clock,hw.trans h1,h2,h3,fun i e hi=>⟨fun k hk=>((h4 i e hi).1 k hk).mono he,fun v hv=>((h4 i e hi).2 v hv).mono he⟩,h5⟩
theorem MapAt.lt {E:Env} {w:World} {B:Nat} {ks vs:List P} (h:MapAt E w B ks vs):B < w.heap.size:=by
 obtain ⟨es,clock,h1,_⟩:=h
 exact (Array.getElem?_eq_some_iff.1 h1).1
def MapV (E:Env) (μ:Places) (b:Blks) (u:List Nat) (w:World) (B:Nat) (ks:List P) (vs:List V):Prop:=∃ es clock,w.heap[B]? = some (.map es clock)∧es.size=ks.length∧es.size=vs.length ∧
 (∀ (i:Nat) (e:MapEntry),es[i]? = some e→(∀ k,ks[i]? = some k→RepP E e.key k)∧(∀ v,vs[i]? = some v→Rep E μ b u e.val v))∧Stamped es clock
theorem MapV.chg {E E':Env} {μ μ':Places} {b b':Blks} {u u':List Nat} {w w':World} {B:Nat} {ks:List P} {vs:List V} (h:MapV E μ b u w B ks vs) (hc:Chg E E' μ μ' b b' u u') (hw:w'.heap[B]? = w.heap[B]?):MapV E' μ' b' u' w' B ks vs:=by
 obtain ⟨es,clock,h1,h2,h3,h4,h5⟩:=h
 exact ⟨es,clock,hw.trans h1,h2,h3,fun i e hi=>⟨fun k hk=>((h4 i e hi).1 k hk).mono hc.env,fun v hv=>((h4 i e hi).2 v hv).chg hc⟩,h5⟩
theorem MapV.lt {E:Env} {μ:Places} {b:Blks} {u:List Nat} {w:World} {B:Nat} {ks:List P} {vs:List V} (h:MapV E μ b u w B ks vs):B < w.heap.size:=by
 obtain ⟨es,clock,h1,_⟩:=h
 exact (Array.getElem?_eq_some_iff.1 h1).1
def BlkOk (E:Env) (μ:Places) (b:Blks) (u:List Nat) (w:World) (nm:Nat):Blk→Prop
 | .cells cs=>∃ B cap c, μ nm=some (B,cap)∧blockAt w B c∧c.size=cs.length∧(∀ (i:Nat) (v:Value) (x:V),c[i]? = some v→cs[i]? = some x→Rep E μ b u v x)∧∀ o,E.cell B o=none
 | .frz cs=>∃ B cap, μ nm=some (B,cap)∧∀ (i:Nat) (x:P),cs[i]? = some x→∃ v,E.cell B i=some v∧RepP E v x
 | .arr sz es sh=>(es.length ≤ 4294967296∧∀ (i:Nat) (x:P),es[i]? = some x→x.cells.length=sz)∧((μ nm=none∧es=[]) ∨ ∃ B cap c, μ nm=some (B,cap)∧blockAt w B c∧cap * sz=c.size∧es.length ≤ cap ∧
   (∀ (i:Nat) (x:P),es[i]? = some x→∀ (j:Nat) (y:P),x.cells[j]? = some y→∃ v,c[i * sz + j]? = some v∧RepP E v y∧(sh=true→E.cell B (i * sz + j)=some v)) ∧
   ∀ o,(sh=true→es.length * sz ≤ o)→E.cell B o=none)
 | .map ks vs=>∃ B cap, μ nm=some (B,cap)∧MapAt E w B ks vs∧(∀ o,E.cell B o=none)∧E.mp B=none
 | .vmap ks vs=>∃ B cap, μ nm=some (B,cap)∧MapV E μ b u w B ks vs∧(∀ o,E.cell B o=none)∧E.mp B=none
structure Base where
 w:World
 L:Nat→Prop
 E:Env
 pin:Nat→Option (Nat × Nat):=fun _=>none
structure Mem (cfg:Cfg) (base:Base) (E:Env) (μ:Places) (b:Blks) (u:List Nat) (w:World):Prop where
 dom:∀ n k,getB b n=some k→n ∈ u
 blk:∀ n k,getB b n=some k→BlkOk E μ b u w n k
 inj:∀ n m k l B C c d,getB b n=some k→getB b m=some l→k.mut=true→l.mut=true→μ n=some (B,c)→μ m=some (C,d)→n ≠ m→B ≠ C
 live:∀ n k B c,getB b n=some k→k.mut=true→μ n=some (B,c)→base.w.heap.size ≤ B ∨ base.L B
 cell:∀ B o v,E.cell B o=some v→w.cell? ⟨B,o,none⟩=some v
 obj:∀ B tag ps,E.obj B=some (tag,ps)→∀ (i:Nat) (y:P),(cfg.obj tag ps)[i]? = some y→∃ v,E.cell B i=some v∧RepP E v y
 le:base.E.le E
 cnew:∀ B o v,E.cell B o=some v→base.E.cell B o=some v ∨ base.w.heap.size ≤ B ∨ base.L B
 onew:∀ B x,E.obj B=some x→base.E.obj B=some x ∨ base.w.heap.size ≤ B ∨ base.L B
 os:w.os=base.w.os
 tape:w.tape=base.w.tape
 output:w.output=base.w.output
 size:base.w.heap.size ≤ w.heap.size
 keep:∀ k,k < base.w.heap.size→¬ base.L k→w.heap[k]? = base.w.heap[k]?
 mp:∀ B ks vs,E.mp B=some (ks,vs)→MapAt E w B ks vs
 mnew:∀ B x,E.mp B=some x→base.E.mp B=some x ∨ base.w.heap.size ≤ B ∨ base.L B
 pin:∀ n B,base.pin n=some B→n ∈ u∧(∀ sz es sh,getB b n ≠ some (.arr sz es sh))∧1000 ≤ n∧μ n=some B
theorem pin_chg {cfg:Cfg} {base:Base} {E E':Env} {μ μ':Places} {b b':Blks} {u u':List Nat} {w:World} (hm:Mem cfg base E μ b u w) (hc:Chg E E' μ μ' b b' u u') :
  ∀ n B,base.pin n=some B→n ∈ u'∧(∀ sz es sh,getB b' n ≠ some (.arr sz es sh))∧1000 ≤ n∧μ' n=some B:=by
 intro n B h
 obtain ⟨h1,h2,h3,h4⟩:=hm.pin n B h
 obtain ⟨g1,g2⟩:=hc.oth n h1 h2
 exact ⟨hc.sub n h1,g2,h3,g1.trans h4⟩
def Tm (E:Env) (μ:Places) (S:St) (a:Act):Prop:=
 a.defers=[]∧a.tmps.size=S.t.length∧∀ (i:Nat) (v:Value) (x:V),a.tmps[i]? = some v→S.t[i]? = some x→Rep E μ S.b S.u v x
def Con (cfg:Cfg) (base:Base) (S:St) (a:Act) (w:World):Prop:=∃ E μ,Mem cfg base E μ S.b S.u w∧Tm E μ S a
theorem getB_setB (b:Blks) (n m:Nat) (x:Blk):getB (setB b n x) m=if m=n then some x else getB b m:=by
 induction b with
 | nil=>simp only [setB,getB]
 | cons h r ih=>
  obtain ⟨k,y⟩:=h
  simp only [setB]
  by_cases e:n=k
  ·subst e
   simp only [if_true,getB]
   by_cases e2:m=n
   ·simp [e2]
   ·simp [e2]
  ·simp only [e,if_false,getB,ih]
   by_cases e2:m=k
   ·subst e2
    simp [Ne.symm e]
   ·simp [e2]
theorem cells_of_one {v:Value} (h:v.oneCell'=true):v.cells = #[v]:=by
 cases v <;> first | rfl | simp [Value.oneCell'] at h
theorem Rep.cells {E:Env} {μ:Places} {b:Blks} {u:List Nat} {v:Value} {x:V} (r:Rep E μ b u v x) {cs:List V} (h:x.cells=some cs) :
  v.cells.size=cs.length∧∀ (i:Nat) (w:Value) (y:V),v.cells[i]? = some w→cs[i]? = some y→Rep E μ b u w y:=by
 have one:∀ {v:Value} {x:V},Rep E μ b u v x→v.cells = #[v]→cs=[x]→v.cells.size=cs.length∧∀ (i:Nat) (w:Value) (y:V),v.cells[i]? = some w→cs[i]? = some y→Rep E μ b u w y:=by
  intro v x r e1 e2
  subst e2
  rw [e1]
  refine ⟨rfl,fun i w y hw hy=>?_⟩
  cases i with
  | zero=>simp at hw hy;subst hw;subst hy;exact r
  | succ i=>simp at hy
 cases r with
 | p v x h'=>
  cases h' with
  | agg vs ps hl hh=>
   simp only [V.cells,P.cells,Option.some.injEq] at h
   subst h
   refine ⟨by simpa [Value.cells] using hl,fun i w y hw hy=>?_⟩
   simp only [Value.cells,List.getElem?_toArray,List.getElem?_map,Option.map_eq_some_iff] at hw hy
   obtain ⟨q,hq,rfl⟩:=hy
   exact .p _ _ (hh i w q hw hq)
  | _=>
   all_goals
    simp only [V.cells,P.cells,List.map_cons,List.map_nil,Option.some.injEq] at h
    refine one (x:=.p _) ?_ rfl h.symm
    exact .p _ _ (by first | exact RepP.bool _ | exact RepP.int _ _ | exact RepP.str _ | exact RepP.nilp | exact RepP.nilf | exact RepP.nilm | exact RepP.nili | (constructor <;> assumption))
 | nils=>simp only [V.cells,Option.some.injEq] at h;exact one .nils rfl h.symm
 | any v=>simp [V.cells] at h
 | mp nm B cap hu hm hb=>simp only [V.cells,Option.some.injEq] at h;exact one (.mp nm B cap hu hm hb) rfl h.symm
 | ref nm off B cap hu hm hb=>simp only [V.cells,Option.some.injEq] at h;exact one (.ref nm off B cap hu hm hb) rfl h.symm
 | own v nm len sz es sh hu hb hs hl hv=>
  simp only [V.cells,Option.some.injEq] at h
  exact one (.own v nm len sz es sh hu hb hs hl hv) (cells_of_one hs) h.symm
 | elem v nm len i j sz es sh hu hb hs hl hv=>
  simp only [V.cells,Option.some.injEq] at h
  exact one (.elem v nm len i j sz es sh hu hb hs hl hv) (cells_of_one hs) h.symm
 | fn f vs ws ps qs hl hm hh kk=>simp only [V.cells,Option.some.injEq] at h;exact one (.fn f vs ws ps qs hl hm hh kk) rfl h.symm
 | agg vs ps hl hh=>
  simp only [V.cells,Option.some.injEq] at h
  subst h
  exact ⟨by simpa [Value.cells] using hl,fun i w y hw hy=>hh i w y (by simpa [Value.cells] using hw) hy⟩
 | tup vs ps hl hh=>simp [V.cells] at h
end Go.Abs
namespace Go.Abs
open Go.RowKit
theorem cell_of_blockAt {w:World} {B:Nat} {c:Array Value} (h:blockAt w B c) (o:Nat):w.cell? ⟨B,o,none⟩=c[o]?:=by
 obtain ⟨t,ht⟩:=h
 simp [World.cell?,ht]
theorem blockAt_lt {w:World} {B:Nat} {c:Array Value} (h:blockAt w B c):B < w.heap.size:=by
 obtain ⟨t,ht⟩:=h
 rcases Nat.lt_or_ge B w.heap.size with h' | h'
 ·exact h'
 ·simp [Array.getElem?_eq_none h'] at ht
theorem lt_of_cell {w:World} {B o:Nat} {v:Value} (h:w.cell? ⟨B,o,none⟩=some v):B < w.heap.size:=World.block_lt_of_cell? w ⟨B,o,none⟩ h
theorem BlkOk.other {cfg:Cfg} {base:Base} {E E':Env} {μ μ':Places} {b b':Blks} {u u':List Nat} {w w':World} (hm:Mem cfg base E μ b u w) (hc:Chg E E' μ μ' b b' u u') {m:Nat} {k:Blk}
  (hk:getB b m=some k) (hμ:μ' m = μ m) (hw:∀ B c,k.mut=true→μ m=some (B,c)→w'.heap[B]? = w.heap[B]?∧∀ o,E'.cell B o=E.cell B o) (hmp:∀ B c,k.mut=true→μ m=some (B,c)→E'.mp B=E.mp B:=by intro _ _ _ _;rfl):BlkOk E' μ' b' u' w' m k:=by
 have h:=hm.blk m k hk
 cases k with
 | cells cs=>
  obtain ⟨B,cap,c,h1,⟨t,h2⟩,h3,h4,h5⟩:=h
  obtain ⟨g1,g2⟩:=hw B cap rfl h1
  exact ⟨B,cap,c,hμ.trans h1,⟨t,g1.trans h2⟩,h3,fun i v x hi hx=>(h4 i v x hi hx).chg hc,fun o=>(g2 o).trans (h5 o)⟩
 | frz cs=>
  obtain ⟨B,cap,h1,h2⟩:=h
  refine ⟨B,cap,hμ.trans h1,fun i x hx=>?_⟩
  obtain ⟨v,hv,hr⟩:=h2 i x hx
  exact ⟨v,hc.env.cell _ _ _ hv,hr.mono hc.env⟩
 | arr sz es sh=>
  obtain ⟨hs,h⟩:=h
  refine ⟨hs,?_⟩
  rcases h with ⟨h1,h2⟩ | ⟨B,cap,c,h1,⟨t,h2⟩,h3,h4,h5,h6⟩
  ·exact .inl ⟨hμ.trans h1,h2⟩
  ·obtain ⟨g1,g2⟩:=hw B cap rfl h1
   refine .inr ⟨B,cap,c,hμ.trans h1,⟨t,g1.trans h2⟩,h3,h4,fun i x hi j y hj=>?_,fun o ho=>(g2 o).trans (h6 o ho)⟩
   obtain ⟨v,hv,hr,hE⟩:=h5 i x hi j y hj
   exact ⟨v,hv,hr.mono hc.env,fun e=>(g2 _).trans (hE e)⟩
 | map ks vs=>
  obtain ⟨B,cap,h1,h2,h3,h4⟩:=h
  obtain ⟨g1,g2⟩:=hw B cap rfl h1
  exact ⟨B,cap,hμ.trans h1,h2.mono hc.env g1,fun o=>(g2 o).trans (h3 o),(hmp B cap rfl h1).trans h4⟩
 | vmap ks vs=>
  obtain ⟨B,cap,h1,h2,h3,h4⟩:=h
  obtain ⟨g1,g2⟩:=hw B cap rfl h1
  exact ⟨B,cap,hμ.trans h1,h2.chg hc g1,fun o=>(g2 o).trans (h3 o),(hmp B cap rfl h1).trans h4⟩
theorem Mem.step {cfg:Cfg} {base:Base} {E E':Env} {μ μ':Places} {b:Blks} {u u':List Nat} {w w':World} {n:Nat} {k:Blk} (hm:Mem cfg base E μ b u w)
  (hc:Chg E E' μ μ' b (setB b n k) u u') (hn:n ∈ u') (hμ:∀ m,m ≠ n→μ' m = μ m) (B:Nat) (hB:∀ C d, μ' n=some (C,d)→C=B)
  (hfr:(∃ k₁ d,getB b n=some k₁∧k₁.mut=true∧μ n=some (B,d)) ∨ w.heap.size ≤ B)
  (hw:∀ j,j ≠ B→j < w.heap.size→w'.heap[j]? = w.heap[j]?) (hsz:w.heap.size ≤ w'.heap.size) (hos:w'.os=w.os) (htape:w'.tape=w.tape) (hout:w'.output=w.output)
  (hE:∀ C o,C ≠ B→E'.cell C o=E.cell C o) (hEo:∀ C,E'.obj C=E.obj C) (hEB:∀ o v,E'.cell B o=some v→w'.cell? ⟨B,o,none⟩=some v)
  (hk:BlkOk E' μ' (setB b n k) u' w' n k) (hEm:∀ C,E'.mp C=E.mp C:=by intro _;rfl):Mem cfg base E' μ' (setB b n k) u' w':=by
 have hne:∀ m l C d,m ≠ n→getB b m=some l→l.mut=true→μ m=some (C,d)→C ≠ B∧C < w.heap.size:=by
  intro m l C d hmn hl hlm hC
  have hlt:C < w.heap.size:=by
   have hb:=hm.blk m l hl
   cases l with
   | cells cs=>obtain ⟨B',cap,c,h1,h2,_⟩:=hb;rw [hC] at h1;cases h1;exact blockAt_lt h2
   | frz cs=>simp [Blk.mut] at hlm
   | arr sz es sh=>
    obtain ⟨_,h⟩:=hb
    rcases h with ⟨h1,_⟩ | ⟨B',cap,c,h1,h2,_⟩
    ·rw [hC] at h1;cases h1
    ·rw [hC] at h1;cases h1;exact blockAt_lt h2
   | map ks vs=>obtain ⟨B',cap,h1,h2,_⟩:=hb;rw [hC] at h1;cases h1;exact h2.lt
   | vmap ks vs=>obtain ⟨B',cap,h1,h2,_⟩:=hb;rw [hC] at h1;cases h1;exact h2.lt
  refine ⟨?_,hlt⟩
  rcases hfr with ⟨k₁,d₁,h1,h2,h3⟩ | h
  ·exact hm.inj m n l k₁ C B d d₁ hl h1 hlm h2 hC h3 hmn
  ·omega
 have hlive:base.w.heap.size ≤ B ∨ base.L B:=by
  rcases hfr with ⟨k₁,d₁,h1,h2,h3⟩ | h
  ·exact hm.live n k₁ B d₁ h1 h2 h3
  ·exact .inl (Nat.le_trans hm.size h)
 have hcell:∀ C o v,C ≠ B→w.cell? ⟨C,o,none⟩=some v→w'.cell? ⟨C,o,none⟩=some v:=by
  intro C o v hC hv
  rw [← hv]
  exact World.cell?_of_block (hw C hC (lt_of_cell hv))
 refine ⟨?_,?_,?_,?_,?_,?_,?_,?_,?_,hos.trans hm.os,htape.trans hm.tape,hout.trans hm.output,Nat.le_trans hm.size hsz,?_,?_,?_,pin_chg hm hc⟩
 ·intro m l hl
  rw [getB_setB] at hl
  by_cases e:m=n
  ·rw [e];exact hn
  ·rw [if_neg e] at hl;exact hc.sub _ (hm.dom m l hl)
 ·intro m l hl
  rw [getB_setB] at hl
  by_cases e:m=n
  ·subst e
   rw [if_pos rfl] at hl
   cases hl
   exact hk
  ·rw [if_neg e] at hl
   refine BlkOk.other hm hc hl (hμ m e) (fun C d hlm hC=>?_) (fun C d _ _=>hEm C)
   obtain ⟨h1,h2⟩:=hne m l C d e hl hlm hC
   exact ⟨hw C h1 h2,fun o=>hE C o h1⟩
 ·intro m m' l l' C D c d hl hl' hlm hlm' hC hD hmm
  rw [getB_setB] at hl hl'
  by_cases e:m=n
  ·subst e
   rw [if_neg (Ne.symm hmm)] at hl'
   rw [hμ m' (Ne.symm hmm)] at hD
   rw [hB C c hC]
   exact (hne m' l' D d (Ne.symm hmm) hl' hlm' hD).1.symm
  ·rw [if_neg e] at hl
   rw [hμ m e] at hC
   by_cases e':m'=n
   ·subst e'
    rw [hB D d hD]
    exact (hne m l C c e hl hlm hC).1
   ·rw [if_neg e'] at hl'
    rw [hμ m' e'] at hD
    exact hm.inj m m' l l' C D c d hl hl' hlm hlm' hC hD hmm
 ·intro m l C d hl hlm hC
  rw [getB_setB] at hl
  by_cases e:m=n
  ·subst e
   rw [hB C d hC]
   exact hlive
  ·rw [if_neg e] at hl
   rw [hμ m e] at hC
   exact hm.live m l C d hl hlm hC
 ·intro C o v hv
  by_cases e:C=B
  ·subst e;exact hEB o v hv
  ·rw [hE C o e] at hv
   exact hcell C o v e (hm.cell C o v hv)
 ·intro C tag ps ho i y hy
  rw [hEo] at ho
  obtain ⟨v,hv,hr⟩:=hm.obj C tag ps ho i y hy
  exact ⟨v,hc.env.cell _ _ _ hv,hr.mono hc.env⟩
 ·exact hm.le.trans hc.env
 ·intro C o v hv
  by_cases e:C=B
  ·subst e;exact .inr hlive
  ·rw [hE C o e] at hv
   exact hm.cnew C o v hv
 ·intro C x hx
  rw [hEo] at hx
  exact hm.onew C x hx
 ·intro j hj hL
  by_cases e:j=B
  ·subst e
   rcases hlive with h | h
   ·omega
   ·exact (hL h).elim
  ·rw [hw j e (Nat.lt_of_lt_of_le hj hm.size)]
   exact hm.keep j hj hL
 ·intro C ks vs hC
  rw [hEm] at hC
  have hma:=hm.mp C ks vs hC
  refine hma.mono hc.env (hw C ?_ hma.lt)
  rintro rfl
  rcases hfr with ⟨k₁,d₁,h1,h2,h3⟩ | h
  ·have hb:=hm.blk n k₁ h1
   obtain ⟨es,clock,hes,_⟩:=hma
   cases k₁ with
   | cells cs=>obtain ⟨B',cap,c,g1,⟨t,g2⟩,_⟩:=hb;rw [h3] at g1;cases g1;rw [hes] at g2;cases g2
   | frz cs=>simp [Blk.mut] at h2
   | arr sz es sh=>
    obtain ⟨_,hb⟩:=hb
    rcases hb with ⟨g1,_⟩ | ⟨B',cap,c,g1,⟨t,g2⟩,_⟩
    ·rw [h3] at g1;cases g1
    ·rw [h3] at g1;cases g1;rw [hes] at g2;cases g2
   | map ks vs=>obtain ⟨B',cap,g1,_,_,g4⟩:=hb;rw [h3] at g1;cases g1;rw [hC] at g4;cases g4
   | vmap ks vs=>obtain ⟨B',cap,g1,_,_,g4⟩:=hb;rw [h3] at g1;cases g1;rw [hC] at g4;cases g4
  ·have:=hma.lt;omega
 ·intro C x hx
  rw [hEm] at hx
  exact hm.mnew C x hx
def Env.prom (E:Env) (B:Nat) (c:Array Value) (k:Nat):Env:=
 {cell:=fun b o=>if b=B then (if o < k then c[o]? else none) else E.cell b o,obj:=E.obj,mp:=E.mp }
theorem Env.le_prom {E:Env} {B:Nat} {c:Array Value} {k:Nat} (h:∀ o v,E.cell B o=some v→o < k∧c[o]? = some v):E.le (E.prom B c k):=by
 refine ⟨fun b o v hv=>?_,fun _ _ h=>h,fun _ _ h=>h⟩
 simp only [Env.prom]
 by_cases e:b=B
 ·subst e
  obtain ⟨h1,h2⟩:=h o v hv
  rw [if_pos rfl,if_pos h1,h2]
 ·rw [if_neg e];exact hv
theorem Chg.same {E E':Env} {μ:Places} {b:Blks} {u:List Nat} (h:E.le E') {n:Nat} {k:Blk} (hk:∀ sz es sh,getB b n=some (.arr sz es sh)→∃ sh',k = .arr sz es sh')
  (hk':(∀ sz es sh,getB b n ≠ some (.arr sz es sh))→∀ sz es sh,k ≠ .arr sz es sh):Chg E E' μ μ b (setB b n k) u u:=by
 refine ⟨h,fun _ h=>h,?_,?_⟩
 ·intro m _ sz es sh hm
  by_cases e:m=n
  ·subst e
   obtain ⟨sh',rfl⟩:=hk sz es sh hm
   exact ⟨es,sh',by rw [getB_setB,if_pos rfl],Nat.le_refl _,fun _=>rfl⟩
  ·exact ⟨es,sh,by rw [getB_setB,if_neg e];exact hm,Nat.le_refl _,fun _=>rfl⟩
 ·intro m _ hm
  refine ⟨rfl,fun sz es sh=>?_⟩
  rw [getB_setB]
  by_cases e:m=n
  ·subst e
   rw [if_pos rfl]
   intro h'
   cases h'
   exact hk' hm sz es sh rfl
  ·rw [if_neg e];exact hm sz es sh
theorem Chg.fresh {E E':Env} {μ μ':Places} {b:Blks} {u:List Nat} (h:E.le E') {n:Nat} {k:Blk} (hn:n ∉ u) (hμ:∀ m,m ≠ n→μ' m = μ m):Chg E E' μ μ' b (setB b n k) u (n :: u):=by
 refine ⟨h,fun m h=>List.mem_cons_of_mem _ h,?_,?_⟩
 ·intro m hm sz es sh he
  have e:m ≠ n:=fun e=>hn (e ▸ hm)
  exact ⟨es,sh,by rw [getB_setB,if_neg e];exact he,Nat.le_refl _,fun _=>hμ m e⟩
 ·intro m hm he
  have e:m ≠ n:=fun e=>hn (e ▸ hm)
  exact ⟨hμ m e,fun sz es sh=>by rw [getB_setB,if_neg e];exact he sz es sh⟩
theorem Chg.grow {E E':Env} {μ μ':Places} {b:Blks} {u:List Nat} (h:E.le E') {n:Nat} {sz:Nat} {es es':List P} {sh sh':Bool} (hb:getB b n=some (.arr sz es sh)) (hl:es.length ≤ es'.length)
  (hμ:∀ m,m ≠ n→μ' m = μ m) (hμn:es.length=es'.length→μ' n = μ n):Chg E E' μ μ' b (setB b n (.arr sz es' sh')) u u:=by
 refine ⟨h,fun _ h=>h,?_,?_⟩
 ·intro m _ sz₁ es₁ sh₁ he
  by_cases e:m=n
  ·subst e
   rw [hb] at he
   cases he
   exact ⟨es',sh',by rw [getB_setB,if_pos rfl],hl,hμn⟩
  ·exact ⟨es₁,sh₁,by rw [getB_setB,if_neg e];exact he,Nat.le_refl _,fun _=>hμ m e⟩
 ·intro m _ hm
  have e:m ≠ n:=fun e=>hm sz es sh (e ▸ hb)
  exact ⟨hμ m e,fun sz es sh=>by rw [getB_setB,if_neg e];exact hm sz es sh⟩
theorem allP_some {cs:List V} {ps:List P} (h:allP cs=some ps):cs=ps.map .p:=by
 induction cs generalizing ps with
 | nil=>simp only [allP,Option.some.injEq] at h;subst h;rfl
 | cons v r ih=>
  cases v <;> simp only [allP,reduceCtorEq,Option.map_eq_some_iff] at h
  obtain ⟨q,hq,rfl⟩:=h
  rw [ih hq];rfl
theorem repP_of_map {E:Env} {μ:Places} {b:Blks} {u:List Nat} {vs:List Value} {ps:List P} (h:∀ (i:Nat) (v:Value) (x:V),vs[i]? = some v→(ps.map V.p)[i]? = some x→Rep E μ b u v x) :
  ∀ (i:Nat) (v:Value) (x:P),vs[i]? = some v→ps[i]? = some x→RepP E v x:=by
 intro i v x hv hx
 have:=h i v (.p x) hv (by simp [hx])
 cases this with
 | p _ _ h=>exact h
end Go.Abs
namespace Go.Abs
open Go.RowKit
variable {cfg:Cfg} {base:Base}
theorem Rep.inv_fn {E:Env} {μ:Places} {b:Blks} {u:List Nat} {v:Value} {f:Fn} {ps qs:List V} (r:Rep E μ b u v (.fn f ps qs)) :
  ∃ vs ws:List Value,v = .func f vs.toArray ws.toArray∧vs.length=ps.length∧ws.length=qs.length∧(∀ (i:Nat) (v:Value) (p:V),vs[i]? = some v→ps[i]? = some p→Rep E μ b u v p) ∧
   ∀ (i:Nat) (v:Value) (p:V),ws[i]? = some v→qs[i]? = some p→Rep E μ b u v p:=by
 cases r with
 | fn _ vs ws _ _ hl hm h k=>exact ⟨vs,ws,rfl,hl,hm,h,k⟩
theorem Rep.inv_p {E:Env} {μ:Places} {b:Blks} {u:List Nat} {v:Value} {x:P} (r:Rep E μ b u v (.p x)):RepP E v x:=by
 cases r with
 | p _ _ h=>exact h
theorem Rep.inv_agg {E:Env} {μ:Places} {b:Blks} {u:List Nat} {v:Value} {ps:List V} (r:Rep E μ b u v (.agg ps)) :
  ∃ vs:List Value,v = .agg vs.toArray∧vs.length=ps.length∧∀ (i:Nat) (v:Value) (p:V),vs[i]? = some v→ps[i]? = some p→Rep E μ b u v p:=by
 cases r with
 | agg vs _ hl h=>exact ⟨vs,rfl,hl,h⟩
theorem repP_lst {E:Env} {B cap off sz:Nat} {c:Nat→Option Value} {es:List P} (hcap:es.length ≤ cap) (hlen:es.length ≤ 4294967296) (hsz:∀ (i:Nat) (x:P),es[i]? = some x→x.cells.length=sz)
  (h:∀ (i:Nat) (x:P),es[i]? = some x→∀ (j:Nat) (y:P),x.cells[j]? = some y→∃ v,c (i * sz + j)=some v∧RepP E v y∧E.cell B (off + i * sz + j)=some v) :
  RepP E (.slice (some ⟨B,off,none⟩) es.length cap) (.lst es):=by
 refine .lst _ cap es (fun i j=>(c (i * sz + j)).getD undef) B off sz hcap hlen (fun _=>rfl) hsz ?_ ?_
 ·intro i x hi j y hj
  obtain ⟨v,h1,h2,h3⟩:=h i x hi j y hj
  simp only [h1,Option.getD_some,h3]
 ·intro i x hi j y hj
  obtain ⟨v,h1,h2,h3⟩:=h i x hi j y hj
  simp only [h1,Option.getD_some]
  exact h2
theorem repP_nil (E:Env) (base:Option Addr) (cap:Nat):RepP E (.slice base 0 cap) (.lst []):=
 RepP.lst base cap [] (fun _ _=>undef) 0 0 0 (Nat.zero_le _) (Nat.zero_le _) (fun h=>(h rfl).elim) (fun i x h=>by simp at h) (fun i x h=>by simp at h) (fun i x h=>by simp at h)
theorem share_sound {E:Env} {μ:Places} {b:Blks} {u:List Nat} {w:World} (hm:Mem cfg base E μ b u w) {nm sz:Nat} {es:List P} {sh:Bool} (hb:getB b nm=some (.arr sz es sh)) :
  ∃ E',Chg E E' μ μ b (setB b nm (.arr sz es true)) u u∧Mem cfg base E' μ (setB b nm (.arr sz es true)) u w∧RepP E' (cur μ nm es.length) (.lst es):=by
 have hk:=hm.blk nm _ hb
 have hu:=hm.dom nm _ hb
 obtain ⟨hs,hk⟩:=hk
 have same:∀ E',E.le E'→Chg E E' μ μ b (setB b nm (.arr sz es true)) u u:=fun E' h=>Chg.same h (fun sz₁ es₁ sh₁ h'=>by rw [hb] at h';cases h';exact ⟨true,rfl⟩) (fun h'=>(h' sz es sh hb).elim)
 rcases hk with ⟨h1,h2⟩ | ⟨B,cap,c,h1,h2,h3,h4,h5,h6⟩
 ·subst h2
  refine ⟨E,same E (Env.le_refl E),?_,?_⟩
  ·refine hm.step (same E (Env.le_refl E)) hu (fun _ _=>rfl) w.heap.size (fun C d h=>by rw [h1] at h;cases h) (.inr (Nat.le_refl _)) (fun _ _ _=>rfl) (Nat.le_refl _) rfl rfl rfl (fun _ _ _=>rfl) (fun _=>rfl) ?_ ⟨hs,.inl ⟨h1,rfl⟩⟩
   intro o v hv
   exact hm.cell _ _ _ hv
  ·simp only [cur,h1]
   exact repP_nil E none 0
 ·have hcell:∀ o v,E.cell B o=some v→o < es.length * sz∧c[o]? = some v:=by
   intro o v hv
   have h7:¬ (sh=true→es.length * sz ≤ o):=fun h=>by rw [h6 o h] at hv;cases hv
   have h8:=hm.cell B o v hv
   rw [cell_of_blockAt h2] at h8
   exact ⟨Classical.byContradiction fun h=>h7 fun _=>by omega,h8⟩
  have hle:E.le (E.prom B c (es.length * sz)):=Env.le_prom hcell
  have hin:∀ (i:Nat) (x:P),es[i]? = some x→∀ (j:Nat) (y:P),x.cells[j]? = some y→i * sz + j < es.length * sz:=by
   intro i x hi j y hj
   have e1:i < es.length:=by
    rcases Nat.lt_or_ge i es.length with h | h
    ·exact h
    ·simp [List.getElem?_eq_none h] at hi
   have e2:j < x.cells.length:=by
    rcases Nat.lt_or_ge j x.cells.length with h | h
    ·exact h
    ·simp [List.getElem?_eq_none h] at hj
   rw [hs.2 i x hi] at e2
   calc i * sz + j < i * sz + sz:=by omega
    _=(i + 1) * sz:=by rw [Nat.add_mul,Nat.one_mul]
    _ ≤ es.length * sz:=Nat.mul_le_mul_right _ e1
  have h5':∀ (i:Nat) (x:P),es[i]? = some x→∀ (j:Nat) (y:P),x.cells[j]? = some y→∃ v,c[i * sz + j]? = some v∧RepP (E.prom B c (es.length * sz)) v y∧(E.prom B c (es.length * sz)).cell B (i * sz + j)=some v:=by
   intro i x hi j y hj
   obtain ⟨v,g1,g2,g3⟩:=h5 i x hi j y hj
   refine ⟨v,g1,g2.mono hle,?_⟩
   simp only [Env.prom,if_true]
   rw [if_pos (hin i x hi j y hj),g1]
  refine ⟨_,same _ hle,?_,?_⟩
  ·refine hm.step (same _ hle) hu (fun _ _=>rfl) B (fun C d h=>by rw [h1] at h;cases h;rfl) (.inl ⟨_,cap,hb,rfl,h1⟩) (fun _ _ _=>rfl) (Nat.le_refl _) rfl rfl rfl (fun C o h=>by simp [Env.prom,h]) (fun _=>rfl) ?_ ?_
   ·intro o v hv
    simp only [Env.prom,if_true] at hv
    by_cases e:o < es.length * sz
    ·rw [if_pos e] at hv;rw [cell_of_blockAt h2];exact hv
    ·rw [if_neg e] at hv;cases hv
   ·refine ⟨hs,.inr ⟨B,cap,c,h1,h2,h3,h4,fun i x hi j y hj=>?_,fun o ho=>?_⟩⟩
    ·obtain ⟨v,g1,g2,g3⟩:=h5' i x hi j y hj
     exact ⟨v,g1,g2,fun _=>g3⟩
    ·simp only [Env.prom,if_true]
     rw [if_neg (by have:=ho rfl;omega)]
  ·simp only [cur,h1]
   exact repP_lst (off:=0) (c:=fun o=>c[o]?) h4 hs.1 hs.2 (fun i x hi j y hj=>by simpa using h5' i x hi j y hj)
theorem MapV.pure {E:Env} {μ:Places} {b:Blks} {u:List Nat} {w:World} {B:Nat} {ks vs:List P} (h:MapV E μ b u w B ks (vs.map .p)):MapAt E w B ks vs:=by
 obtain ⟨es,clock,h1,h2,h3,h4,h5⟩:=h
 refine ⟨es,clock,h1,h2,by simpa using h3,fun i e hi=>⟨(h4 i e hi).1,fun v hv=>?_⟩,h5⟩
 exact ((h4 i e hi).2 (.p v) (by simp [hv])).inv_p
theorem freezeMap_sound {E:Env} {μ:Places} {b:Blks} {u:List Nat} {w:World} (hm:Mem cfg base E μ b u w) {nm:Nat} {ks vs:List P} (hb:getB b nm=some (.map ks vs) ∨ getB b nm=some (.vmap ks (vs.map .p))) {B cap:Nat} (hB:μ nm=some (B,cap)) :
  ∃ E',Chg E E' μ μ b (setB b nm (.frz [])) u u∧Mem cfg base E' μ (setB b nm (.frz [])) u w∧RepP E' (.map (some B)) (.imap ks vs):=by
 obtain ⟨k₀,hb,hk₀,hna,h2,h3,h4⟩:∃ k,getB b nm=some k∧k.mut=true∧(∀ sz es sh,k ≠ .arr sz es sh)∧MapAt E w B ks vs∧(∀ o,E.cell B o=none)∧E.mp B=none:=by
  rcases hb with hb | hb
  ·obtain ⟨B',cap',h1,h2,h3,h4⟩:=hm.blk nm _ hb
   rw [hB] at h1;cases h1
   exact ⟨_,hb,rfl,by simp,h2,h3,h4⟩
  ·obtain ⟨B',cap',h1,h2,h3,h4⟩:=hm.blk nm _ hb
   rw [hB] at h1;cases h1
   exact ⟨_,hb,rfl,by simp,h2.pure,h3,h4⟩
 let E':Env:={ cell:=E.cell,obj:=E.obj,mp:=fun C=>if C=B then some (ks,vs) else E.mp C }
 have hle:E.le E':=⟨fun _ _ _ h=>h,fun _ _ h=>h,fun C x h=>by
  show (if C=B then some (ks,vs) else E.mp C)=some x
  by_cases e:C=B
  ·subst e;rw [h4] at h;cases h
  ·rw [if_neg e];exact h⟩
 have same:Chg E E' μ μ b (setB b nm (.frz [])) u u:=Chg.same hle (fun sz₁ es₁ sh₁ h'=>by rw [hb] at h';exact (hna _ _ _ (Option.some.inj h')).elim) (fun _ _ _ _ h'=>by cases h')
 have hother:∀ m l,m ≠ nm→getB b m=some l→BlkOk E' μ (setB b nm (.frz [])) u w m l:=by
  intro m l hmn hl
  refine BlkOk.other hm same hl rfl (fun _ _ _ _=>⟨rfl,fun _=>rfl⟩) (fun C c hlm hC=>?_)
  have hne:=hm.inj m nm l _ C B c cap hl hb hlm hk₀ hC hB hmn
  show (if C=B then some (ks,vs) else E.mp C)=E.mp C
  rw [if_neg hne]
 refine ⟨E',same,⟨?_,?_,?_,?_,hm.cell,?_,hm.le.trans hle,hm.cnew,hm.onew,hm.os,hm.tape,hm.output,hm.size,hm.keep,?_,?_,pin_chg hm same⟩,.imap B ks vs (if_pos rfl)⟩
 ·intro m l hl
  rw [getB_setB] at hl
  by_cases e:m=nm
  ·subst e;exact hm.dom m _ hb
  ·rw [if_neg e] at hl;exact hm.dom m l hl
 ·intro m l hl
  rw [getB_setB] at hl
  by_cases e:m=nm
  ·subst e
   rw [if_pos rfl] at hl
   cases hl
   exact ⟨B,cap,hB,fun i x hi=>by simp at hi⟩
  ·rw [if_neg e] at hl;exact hother m l e hl
 ·intro n m k l C D c d hk hl hkm hlm hC hD hnm
  rw [getB_setB] at hk hl
  split at hk
  ·cases hk;simp [Blk.mut] at hkm
  ·split at hl
   ·cases hl;simp [Blk.mut] at hlm
   ·exact hm.inj n m k l C D c d hk hl hkm hlm hC hD hnm
 ·intro n k C c hk hkm hC
  rw [getB_setB] at hk
  split at hk
  ·cases hk;simp [Blk.mut] at hkm
  ·exact hm.live n k C c hk hkm hC
 ·intro C tag ps ho i y hy
  obtain ⟨v,hv,hr⟩:=hm.obj C tag ps ho i y hy
  exact ⟨v,hv,hr.mono hle⟩
 ·intro C ks' vs' hC
  have hC':(if C=B then some (ks,vs) else E.mp C)=some (ks',vs'):=hC
  by_cases e:C=B
  ·subst e
   rw [if_pos rfl] at hC'
   cases hC'
   exact h2.mono hle rfl
  ·rw [if_neg e] at hC'
   exact (hm.mp C ks' vs' hC').mono hle rfl
 ·intro C x hC
  have hC':(if C=B then some (ks,vs) else E.mp C)=some x:=hC
  by_cases e:C=B
  ·subst e;exact .inr (hm.live nm _ C cap hb hk₀ hB)
  ·rw [if_neg e] at hC'
   exact hm.mnew C x hC'
theorem freeze_sound {E:Env} {μ:Places} {b:Blks} {u:List Nat} {w:World} (hm:Mem cfg base E μ b u w) {nm:Nat} {ps:List P} (hb:getB b nm=some (.cells (ps.map .p))) {B cap:Nat} (hB:μ nm=some (B,cap)) (off:Nat) :
  ∃ E',Chg E E' μ μ b (setB b nm (.frz ps)) u u∧Mem cfg base E' μ (setB b nm (.frz ps)) u w∧RepP E' (.pointer (some ⟨B,off,none⟩)) (.imm ps off):=by
 have hk:=hm.blk nm _ hb
 have hu:=hm.dom nm _ hb
 obtain ⟨B',cap',c,h1,h2,h3,h4,h5⟩:=hk
 rw [hB] at h1
 cases h1
 have hle:E.le (E.prom B c c.size):=Env.le_prom fun o v hv=>by rw [h5 o] at hv;cases hv
 have same:Chg E (E.prom B c c.size) μ μ b (setB b nm (.frz ps)) u u:=Chg.same hle (fun sz₁ es₁ sh₁ h'=>by rw [hb] at h';cases h') (fun _ _ _ _ h'=>by cases h')
 have hcell:∀ (i:Nat) (x:P),ps[i]? = some x→∃ v,c[i]? = some v∧RepP (E.prom B c c.size) v x∧(E.prom B c c.size).cell B i=some v:=by
  intro i x hi
  have hlt:i < c.size:=by
   rw [h3,List.length_map]
   rcases Nat.lt_or_ge i ps.length with h | h
   ·exact h
   ·simp [List.getElem?_eq_none h] at hi
  have hv:c[i]? = some c[i]:=by simp [hlt]
  have r:=(h4 i c[i] (.p x) hv (by simp [hi])).inv_p
  refine ⟨c[i],hv,r.mono hle,?_⟩
  simp only [Env.prom,if_true]
  rw [if_pos hlt,hv]
 refine ⟨_,same,?_,?_⟩
 ·refine hm.step same hu (fun _ _=>rfl) B (fun C d h=>by rw [hB] at h;cases h;rfl) (.inl ⟨_,cap,hb,rfl,hB⟩) (fun _ _ _=>rfl) (Nat.le_refl _) rfl rfl rfl (fun C o h=>by simp [Env.prom,h]) (fun _=>rfl) ?_ ?_
  ·intro o v hv
   simp only [Env.prom,if_true] at hv
   by_cases e:o < c.size
   ·rw [if_pos e] at hv;rw [cell_of_blockAt h2];exact hv
   ·rw [if_neg e] at hv;cases hv
  ·refine ⟨B,cap,hB,fun i x hi=>?_⟩
   obtain ⟨v,_,h7,h8⟩:=hcell i x hi
   exact ⟨v,h8,h7⟩
 ·have:=RepP.imm (E:=E.prom B c c.size) B 0 off ps (fun i=>(c[i]?).getD undef) (fun i y hy=>by
   obtain ⟨v,h6,_,h8⟩:=hcell i y hy
   simp only [Nat.zero_add,h6,Option.getD_some,h8]) (fun i y hy=>by
   obtain ⟨v,h6,h7,_⟩:=hcell i y hy
   simp only [h6,Option.getD_some];exact h7)
  simpa using this
mutual
theorem toP_sound (x:V):∀ {E:Env} {μ:Places} {b:Blks} {u:List Nat} {w:World} {v:Value} {p:P} {b':Blks},Mem cfg base E μ b u w→Rep E μ b u v x→toP b x=some (p,b') →
  ∃ E',Chg E E' μ μ b b' u u∧Mem cfg base E' μ b' u w∧RepP E' v p:=by
 intro E μ b u w v p b' hm hr h
 match x with
 | .p y=>
  simp only [toP,Option.some.injEq,Prod.mk.injEq] at h
  obtain ⟨rfl,rfl⟩:=h
  cases hr with
  | p _ _ h=>exact ⟨E,Chg.refl _ _ _ _,hm,h⟩
 | .nils=>
  simp only [toP,Option.some.injEq,Prod.mk.injEq] at h
  obtain ⟨rfl,rfl⟩:=h
  cases hr with
  | nils=>exact ⟨E,Chg.refl _ _ _ _,hm,repP_nil E none 0⟩
 | .own nm len=>
  simp only [toP] at h
  split at h
  ·rename_i sz es sh hb
   split at h
   ·rename_i hl
    simp only [Option.some.injEq,Prod.mk.injEq] at h
    obtain ⟨rfl,rfl⟩:=h
    obtain ⟨E',h1,h2,h3⟩:=share_sound hm hb
    refine ⟨E',h1,h2,?_⟩
    cases hr with
    | own _ _ _ sz' es' sh' hu hb' hs hl' hv=>
     rw [hb] at hb'
     cases hb'
     rw [hv hl.symm,← hl]
     exact h3
   ·cases h
  ·cases h
 | .mp nm=>
  simp only [toP] at h
  split at h
  ·rename_i ks vs hb
   simp only [Option.some.injEq,Prod.mk.injEq] at h
   obtain ⟨rfl,rfl⟩:=h
   cases hr with
   | mp _ B cap hu hB hnb=>exact freezeMap_sound hm (.inl hb) hB
  ·rename_i ks vs hb
   split at h
   ·rename_i ps hps
    simp only [Option.some.injEq,Prod.mk.injEq] at h
    obtain ⟨rfl,rfl⟩:=h
    cases hr with
    | mp _ B cap hu hB hnb=>
     rw [allP_some hps] at hb
     exact freezeMap_sound hm (.inr hb) hB
   ·cases h
  ·cases h
 | .ref nm off=>
  simp only [toP] at h
  split at h
  ·rename_i cs hb
   split at h
   ·rename_i ps hps
    simp only [Option.some.injEq,Prod.mk.injEq] at h
    obtain ⟨rfl,rfl⟩:=h
    cases hr with
    | ref _ _ B cap hu hB hnb=>
     rw [allP_some hps] at hb
     exact freeze_sound hm hb hB off
   ·cases h
  ·rename_i ps hb
   simp only [Option.some.injEq,Prod.mk.injEq] at h
   obtain ⟨rfl,rfl⟩:=h
   cases hr with
   | ref _ _ B cap hu hB hnb=>
    refine ⟨E,Chg.refl _ _ _ _,hm,?_⟩
    obtain ⟨B',cap',h1,h2⟩:=hm.blk nm _ hb
    rw [hB] at h1
    cases h1
    have:=RepP.imm (E:=E) B 0 off ps (fun i=>(E.cell B i).getD undef) (fun i y hy=>by
     obtain ⟨v,h6,_⟩:=h2 i y hy
     simp only [Nat.zero_add,h6,Option.getD_some]) (fun i y hy=>by
     obtain ⟨v,h6,h7⟩:=h2 i y hy
     simp only [h6,Option.getD_some];exact h7)
    simpa using this
  ·cases h
 | .agg cs=>
  simp only [toP] at h
  split at h
  ·rename_i ps b₁ hps
   simp only [Option.some.injEq,Prod.mk.injEq] at h
   obtain ⟨rfl,rfl⟩:=h
   obtain ⟨vs,rfl,hl,hh⟩:=hr.inv_agg
   obtain ⟨E',h1,h2,h3,h4⟩:=toPs_sound cs hm vs hl hh hps
   exact ⟨E',h1,h2,.agg vs ps (hl.trans h3.symm) h4⟩
  ·cases h
 | .fn f first cap=>
  simp only [toP] at h
  split at h
  ·rename_i ps b₁ hps
   split at h
   ·rename_i qs b₂ hqs
    simp only [Option.some.injEq,Prod.mk.injEq] at h
    obtain ⟨rfl,rfl⟩:=h
    obtain ⟨vs,ws,rfl,hl,hm',hh,hk⟩:=hr.inv_fn
    obtain ⟨E₁,h1,h2,h3,h4⟩:=toPs_sound first hm vs hl hh hps
    obtain ⟨E₂,g1,g2,g3,g4⟩:=toPs_sound cap h2 ws hm' (fun i v p a c=>(hk i v p a c).chg h1) hqs
    exact ⟨E₂,h1.trans g1,g2,.fn f vs ws ps qs (hl.trans h3.symm) (hm'.trans g3.symm) (fun i v p a c=>(h4 i v p a c).mono g1.env) g4⟩
   ·cases h
  ·cases h
 | .any=>simp [toP] at h
 | .elem ..=>simp [toP] at h
 | .tup _=>simp [toP] at h
theorem toPs_sound (xs:List V):∀ {E:Env} {μ:Places} {b:Blks} {u:List Nat} {w:World} {ps:List P} {b':Blks},Mem cfg base E μ b u w→∀ (vs:List Value),vs.length=xs.length →
  (∀ (i:Nat) (v:Value) (p:V),vs[i]? = some v→xs[i]? = some p→Rep E μ b u v p)→toPs b xs=some (ps,b') →
  ∃ E',Chg E E' μ μ b b' u u∧Mem cfg base E' μ b' u w∧ps.length=xs.length∧∀ (i:Nat) (v:Value) (p:P),vs[i]? = some v→ps[i]? = some p→RepP E' v p:=by
 intro E μ b u w ps b' hm vs hl hr h
 match xs with
 | []=>
  simp only [toPs,Option.some.injEq,Prod.mk.injEq] at h
  obtain ⟨rfl,rfl⟩:=h
  exact ⟨E,Chg.refl _ _ _ _,hm,rfl,fun i v p _ h=>by simp at h⟩
 | x :: r=>
  simp only [toPs] at h
  split at h
  ·rename_i y b₁ hy
   split at h
   ·rename_i ys b₂ hys
    simp only [Option.some.injEq,Prod.mk.injEq] at h
    obtain ⟨rfl,rfl⟩:=h
    match vs with
    | []=>simp at hl
    | v :: vr=>
     obtain ⟨E₁,h1,h2,h3⟩:=toP_sound x hm (hr 0 v x rfl rfl) hy
     obtain ⟨E₂,g1,g2,g3,g4⟩:=toPs_sound r h2 vr (by simpa using hl) (fun i v p a c=>(hr (i + 1) v p a c).chg h1) hys
     refine ⟨E₂,h1.trans g1,g2,by simp [g3],fun i v p a c=>?_⟩
     cases i with
     | zero=>simp at a c;subst a;subst c;exact h3.mono g1.env
     | succ i=>exact g4 i v p a c
   ·cases h
  ·cases h
end
end Go.Abs
namespace Go.Abs
open Go.RowKit
def zeroB:Value→V→Bool
 | .bool a,.p (.bool b)=>a == b
 | .int j a,.p (.int k b)=>decide (j=k) && a == b
 | .string a,.p (.str b)=>decide (a=b)
 | .pointer none,.p .nilp=>true
 | .nilFunc,.p .nilf=>true
 | .map none,.p .nilm=>true
 | .nilIface,.p .nili=>true
 | .slice none 0 0,.nils=>true
 | _,_=>false
theorem zeroB_sound {v:Value} {x:V} (h:zeroB v x=true) (E:Env) (μ:Places) (b:Blks) (u:List Nat):Rep E μ b u v x:=by
 unfold zeroB at h
 split at h
 ·simp at h;subst h;exact .p _ _ (.bool _)
 ·simp at h;obtain ⟨rfl,rfl⟩:=h;exact .p _ _ (.int _ _)
 ·simp at h;subst h;exact .p _ _ (.str _)
 ·exact .p _ _ .nilp
 ·exact .p _ _ .nilf
 ·exact .p _ _ .nilm
 ·exact .p _ _ .nili
 ·exact .nils
 ·cases h
def kindB:TK→TypeDesc→Bool
 | .int k,.int k'=>decide (k=k')
 | .bool,.bool=>true
 | .str,.string=>true
 | .slice e,.slice e'=>e == e'
 | .ptr e,.pointer e'=>e == e'
 | .map k e,.map k' e'=>k == k' && e == e'
 | .func,.func _ _ _=>true
 | .struct fs,.struct fields=>decide (fields.toList.map (fun f=>(f.offset,f.type))=fs)
 | .arr n e,.array n' e'=>n == n' && e == e'
 | _,_=>false
def zerosB:List Value→List V→Bool
 | [],[]=>true
 | v :: r,x :: s=>zeroB v x && zerosB r s
 | _,_=>false
theorem zerosB_len {vs:List Value} {xs:List V} (h:zerosB vs xs=true):vs.length=xs.length:=by
 induction vs generalizing xs with
 | nil=>cases xs <;> simp_all [zerosB]
 | cons v r ih=>cases xs with
  | nil=>simp [zerosB] at h
  | cons x s=>simp [zerosB] at h;simp [ih h.2]
theorem zerosB_sound {vs:List Value} {xs:List V} (h:zerosB vs xs=true) (E:Env) (μ:Places) (b:Blks) (u:List Nat):∀ (i:Nat) (v:Value) (x:V),vs[i]? = some v→xs[i]? = some x→Rep E μ b u v x:=by
 induction vs generalizing xs with
 | nil=>intro i v x hv;simp at hv
 | cons v r ih=>cases xs with
  | nil=>simp [zerosB] at h
  | cons x s=>
   simp [zerosB] at h
   intro i v' x' hv hx
   cases i with
   | zero=>simp at hv hx;subst hv;subst hx;exact zeroB_sound h.1 E μ b u
   | succ i=>exact ih h.2 i v' x' hv hx
def tyB (P:Program) (t:TypeId) (i:Ty):Bool:=
 match P.info? t with
 | some inf=>inf.size == i.size && inf.bytes == i.bytes && (match inf.zero with | some z=>zerosB z.cells.toList i.zero && z.cells.size == i.size | none=>false) && (match P.underlying t with | some d=>kindB i.k d | none=>false)
 | none=>false
def EqOk (P:Program) (t:TypeId) (ks:List TK):Prop:=
 ∀ (w:World) (E:Env) (xs ys:List Value) (ps qs:List Abs.P) (r:Bool) (x y:Operand),RepP E (.agg xs.toArray) (.agg ps)→RepP E (.agg ys.toArray) (.agg qs)→eqCells ks ps qs=some r →
  (do eqGuard .eql t x y (.agg xs.toArray) (.agg ys.toArray);Op.equal t (.agg xs.toArray) (.agg ys.toArray)).run P w = .ok r w ∧
  (do eqGuard .neq t x y (.agg xs.toArray) (.agg ys.toArray);Op.equal t (.agg xs.toArray) (.agg ys.toArray)).run P w = .ok r w
structure CfgOk (cfg:Cfg) (P:Program):Prop where
 ty:∀ t i,cfg.ty t=some i→tyB P t i=true
 eq:∀ t i,cfg.ty t=some i→i.eqs.isEmpty=false→EqOk P t i.eqs
section types
variable {cfg:Cfg} {P:Program} {t:TypeId} {i:Ty} {w:World}
theorem CfgOk.info (hc:CfgOk cfg P) (h:cfg.ty t=some i):∃ inf z d,P.info? t=some inf∧inf.size=i.size∧inf.bytes=i.bytes∧inf.zero=some z∧zerosB z.cells.toList i.zero=true∧z.cells.size=i.size ∧
  P.underlying t=some d∧kindB i.k d=true:=by
 have:=hc.ty t i h
 unfold tyB at this
 split at this
 ·rename_i inf hi
  simp only [Bool.and_eq_true,beq_iff_eq] at this
  obtain ⟨⟨⟨h1,h2⟩,h3⟩,h4⟩:=this
  split at h3
  ·rename_i z hz
   split at h4
   ·rename_i d hd
    simp only [Bool.and_eq_true,beq_iff_eq] at h3
    exact ⟨inf,z,d,hi,h1,h2,hz,h3.1,h3.2,hd,h4⟩
   ·cases h4
  ·cases h3
 ·cases this
theorem CfgOk.run_sizeOf (hc:CfgOk cfg P) (h:cfg.ty t=some i):(sizeOf t).run P w = .ok i.size w:=by
 obtain ⟨inf,z,d,hi,h1,_⟩:=hc.info h
 simp [sizeOf,typeInfo,hi,h1]
theorem CfgOk.run_zeroValue (hc:CfgOk cfg P) (h:cfg.ty t=some i):∃ z,(zeroValue t).run P w = .ok z w∧zerosB z.cells.toList i.zero=true∧z.cells.size=i.size:=by
 obtain ⟨inf,z,d,hi,h1,h2,h3,h4,h5,_⟩:=hc.info h
 exact ⟨z,by simp [zeroValue,typeInfo,hi,h3],h4,h5⟩
theorem CfgOk.run_underlying (hc:CfgOk cfg P) (h:cfg.ty t=some i):∃ d,(underlying t).run P w = .ok d w∧kindB i.k d=true:=by
 obtain ⟨inf,z,d,hi,h1,h2,h3,h4,h5,h6,h7⟩:=hc.info h
 exact ⟨d,by simp [underlying,h6],h7⟩
theorem CfgOk.run_isAgg (hc:CfgOk cfg P) (h:cfg.ty t=some i):(isAgg t).run P w = .ok i.agg w:=by
 obtain ⟨inf,z,d,hi,h1,h2,h3,h4,h5,h6,h7⟩:=hc.info h
 have:(underlying t).run P w = .ok d w:=by simp [underlying,h6]
 simp only [isAgg,Sem.run_bind,this,Result.andThen_ok]
 unfold kindB at h7
 split at h7 <;> first
  | (rename_i e1 e2;simp [Ty.agg, *];done)
  | (simp [Ty.agg, *];done)
  | cases h7
end types
def Does (cfg:Cfg) (base:Base) (P:Program) (o:Oper) (a:Act) (w:World) (E:Env) (μ:Places) (b:Blks) (u:List Nat) (r:V × Blks × List Nat):Prop:=
 ∃ E' μ' w' cv,Chg E E' μ μ' b r.2.1 u r.2.2∧Mem cfg base E' μ' r.2.1 r.2.2 w'∧Rep E' μ' r.2.1 r.2.2 cv r.1 ∧
  ((execOp a.eval o).run P w = .ok (.value cv) w' ∨ (execOp a.eval o).run P w = .ok .skip w'∧cv=undef)
theorem Does.still {cfg:Cfg} {base:Base} {P:Program} {o:Oper} {a:Act} {w:World} {E:Env} {μ:Places} {b:Blks} {u:List Nat} {v:V} (hm:Mem cfg base E μ b u w) (cv:Value) (hr:Rep E μ b u cv v)
  (h:(execOp a.eval o).run P w = .ok (.value cv) w):Does cfg base P o a w E μ b u (v,b,u):=
 ⟨E, μ,w,cv,Chg.refl _ _ _ _,hm,hr,.inl h⟩
theorem Does.after {cfg:Cfg} {base:Base} {P:Program} {o:Oper} {a:Act} {w:World} {E E':Env} {μ:Places} {b b':Blks} {u:List Nat} {v:V} (hc:Chg E E' μ μ b b' u u) (hm:Mem cfg base E' μ b' u w) (cv:Value) (hr:Rep E' μ b' u cv v)
  (h:(execOp a.eval o).run P w = .ok (.value cv) w):Does cfg base P o a w E μ b u (v,b',u):=
 ⟨E', μ,w,cv,hc,hm,hr,.inl h⟩
theorem rep_constV (v:Value) (E:Env) (μ:Places) (b:Blks) (u:List Nat):Rep E μ b u v (constV v):=by
 unfold constV
 split
 ·exact .p _ _ (.bool _)
 ·exact .p _ _ (.int _ _)
 ·exact .p _ _ (.str _)
 ·exact .nils
 ·exact .p _ _ .nilp
 ·exact .p _ _ .nilf
 ·exact .p _ _ .nilm
 ·exact .p _ _ .nili
 ·exact .any _
theorem rep_opnd {E:Env} {μ:Places} {S:St} {a:Act} (ht:Tm E μ S a) (x:Operand):Rep E μ S.b S.u (a.eval x) (opnd S.t x):=by
 cases x with
 | tmp i=>
  obtain ⟨_,hs,h⟩:=ht
  simp only [Act.eval,opnd]
  by_cases hi:i < a.tmps.size
  ·have hi':i < S.t.length:=hs ▸ hi
   have:=h i a.tmps[i] S.t[i] (by simp [hi]) (by simp [hi'])
   simpa [Array.getD,List.getD,hi,hi'] using this
  ·have hi':¬ i < S.t.length:=hs ▸ hi
   simp only [List.getD,List.getElem?_eq_none (Nat.le_of_not_lt hi'),Option.getD_none]
   exact .any _
 | const v=>exact rep_constV v _ _ _ _
 | global g=>exact .any _
 | func f=>exact .p _ _ (.fn (.func f) [] [] [] [] rfl rfl (fun i v p h=>by simp at h) (fun i v p h=>by simp at h))
theorem rep_opnds {E:Env} {μ:Places} {S:St} {a:Act} (ht:Tm E μ S a) (xs:Array Operand) :
  ∃ vs:List Value,xs.map a.eval=vs.toArray∧vs.length=(xs.toList.map (opnd S.t)).length∧∀ (i:Nat) (v:Value) (p:V),vs[i]? = some v→(xs.toList.map (opnd S.t))[i]? = some p→Rep E μ S.b S.u v p:=by
 refine ⟨xs.toList.map a.eval,by apply Array.ext';simp,by simp,fun i v p hv hp=>?_⟩
 simp only [List.getElem?_map,Option.map_eq_some_iff] at hv hp
 obtain ⟨x,hx,rfl⟩:=hv
 obtain ⟨y,hy,rfl⟩:=hp
 rw [hx] at hy
 cases hy
 exact rep_opnd ht x
theorem rep_mkAgg {E:Env} {μ:Places} {b:Blks} {u:List Nat} {vs:List Value} {cs:List V} (hl:vs.length=cs.length) (h:∀ (i:Nat) (v:Value) (x:V),vs[i]? = some v→cs[i]? = some x→Rep E μ b u v x):Rep E μ b u (.agg vs.toArray) (mkAgg cs):=by
 unfold mkAgg
 split
 ·rename_i ps hps
  have:=allP_some hps
  subst this
  exact .p _ _ (.agg vs ps (by simpa using hl) (repP_of_map h))
 ·exact .agg vs cs hl h
theorem rep_mkFn {E:Env} {μ:Places} {b:Blks} {u:List Nat} {f:Fn} {vs ws:List Value} {ps qs:List V} (hl:vs.length=ps.length) (hm:ws.length=qs.length)
  (h:∀ (i:Nat) (v:Value) (x:V),vs[i]? = some v→ps[i]? = some x→Rep E μ b u v x) (k:∀ (i:Nat) (v:Value) (x:V),ws[i]? = some v→qs[i]? = some x→Rep E μ b u v x):Rep E μ b u (.func f vs.toArray ws.toArray) (mkFn f ps qs):=by
 unfold mkFn
 split
 ·rename_i a b ha hb
  have:=allP_some ha
  subst this
  have:=allP_some hb
  subst this
  exact .p _ _ (.fn f vs ws a b (by simpa using hl) (by simpa using hm) (repP_of_map h) (repP_of_map k))
 ·exact .fn f vs ws ps qs hl hm h k
theorem repP_inv_agg {E:Env} {v:Value} {ps:List P} (r:RepP E v (.agg ps)):∃ vs:List Value,v = .agg vs.toArray∧vs.length=ps.length∧∀ (i:Nat) (v:Value) (p:P),vs[i]? = some v→ps[i]? = some p→RepP E v p:=by
 cases r with
 | agg vs _ hl h=>exact ⟨vs,rfl,hl,h⟩
theorem oneCell_of_repP {E:Env} {v:Value} {x:P} (r:RepP E v x) (h:oneP x=true):v.oneCell'=true:=by
 cases r <;> first | rfl | simp [oneP] at h
theorem oneCell_of_rep {E:Env} {μ:Places} {b:Blks} {u:List Nat} {v:Value} {x:V} (r:Rep E μ b u v x) (h:oneV x=true):v.oneCell'=true:=by
 cases r with
 | p v x r=>exact oneCell_of_repP r h
 | any v=>simp [oneV] at h
 | own v nm len sz es sh hu hb hs hl hv=>exact hs
 | elem v nm len i j sz es sh hu hb hs hl hv=>exact hs
 | agg vs ps hl hh=>simp [oneV] at h
 | tup vs ps hl hh=>simp [oneV] at h
 | _=>rfl
end Go.Abs
namespace Go.Proofs.YtgiedlcjlalpcaaGreat
open Go.RowKit Go.Lib
set_option maxHeartbeats 4000000
set_option maxRecDepth 1000000
theorem und26:Tryz.prog.underlying 26=some (.slice 29):=by kernel_rfl
theorem del232 (blk cap n i j:Nat) (w W1 W2:World) (K:Ending→World→Prop) (hij:i < j) (hj:j ≤ n) (hn:n ≤ cap)
  (i0:TypeInfo) (hi0:Tryz.prog.info? 29=some i0) (hz1:i0.size=9) (A:Addr) (news:List Value)
  (hA:(if cap=j then some (⟨blk,0,none⟩:Addr) else some ⟨blk,j * 9,none⟩)=some A)
  (hsrc:Hid (∀ t u,news[t]? = some u→w.drew.cell? (A.add t)=some u)) (s1:Hid (news.length=(n - j) * 9)) (s2:Hid (∀ u ∈ news,u.oneCell'=true))
  (s3:Hid (∀ t,t < news.length→(w.drew.cell? ⟨blk,0 + i * 9 + t,none⟩).isSome=true∧w.drew.frozen? ⟨blk,0 + i * 9 + t,none⟩=false))
  (hW:Hid (W1=w.drew.setCells blk (0 + i * 9) news))
  (hcl:∀ ty,(Builtin.clear_ #[26] ty #[.slice (some ⟨blk,(i + (n - j)) * 9,none⟩) (n - (i + (n - j))) (cap - (i + (n - j)))]).run Tryz.prog W1 = .ok (.tuple #[]) W2)
  (hK:Hid (K (.returned (.slice (some ⟨blk,0,none⟩) (i + (n - j)) cap)) W2)) :
  Calls Tryz.prog 232 #[.slice (some ⟨blk,0,none⟩) n cap,.int .i64 i,.int .i64 j] w K:=by
 have hne:¬ (i:Int)=(j:Int):=by omega
 have mixed:Tryz.prog.follows Departure.mixedOrders=true:=by kernel_rfl
 have hic:i ≤ cap:=by omega
 have hjc:j ≤ cap:=by omega
 go_enter Tryz.func232,Tryz.ntmps232
 go_wp2
 go_region_law_o (refine step_append_room rfl (.tmp 22) (.tmp 25) 26 rfl 29 i0 9 und26 hi0 hz1 blk 0 i cap (by simp [Act.eval,Act.put]) A (n - j) (cap - j) news (by simp [Act.eval,Act.put]) s1.out hsrc.out s2.out (by omega) s3.out ?_;rw [← hW.out])
 go_wp2
 exact hK.out
end Go.Proofs.YtgiedlcjlalpcaaGreat
