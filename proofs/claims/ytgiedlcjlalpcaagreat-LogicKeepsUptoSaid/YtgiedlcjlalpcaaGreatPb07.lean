/- Part of a proof: Guard Tmp Base Base2 Join. -/
import Derived.Test.YtgiedlcjlalpcaaGreatPb06
set_option linter.all false
namespace Go.Abs
open Go.RowKit
abbrev Conds:=List (Nat × (Nat × Bool))
def condOf:Conds→Nat→Option (Nat × Bool)
 | [],_=>none
 | (m,g) :: r,n=>if n=m then some g else condOf r n
def delC:Conds→Nat→Conds
 | [],_=>[]
 | (m,g) :: r,n=>if n=m then delC r n else (m,g) :: delC r n
theorem condOf_del (c:Conds) (d i:Nat):condOf (delC c d) i=if i=d then none else condOf c i:=by
 induction c with
 | nil=>simp [delC,condOf]
 | cons p r ih=>
  obtain ⟨m,g⟩:=p
  simp only [delC,condOf]
  by_cases h:d=m
  ·subst h
   simp only [if_true,ih]
   by_cases h2:i=d <;> simp [h2]
  ·simp only [h,if_false,condOf,ih]
   by_cases h2:i=m
   ·subst h2
    simp [Ne.symm h]
   ·simp [h2]
def ctxC (c:Conds):Nat→Nat × Bool→List (Nat × Bool)
 | 0,g=>[g]
 | f + 1,g=>g :: (match condOf c g.1 with | some g'=>ctxC c f g' | none=>[])
def validT (c:Conds) (Γ:List (Nat × Bool)) (i:Nat):Bool:=
 match condOf c i with
 | none=>true
 | some g=>Γ.contains g
def validO (c:Conds) (Γ:List (Nat × Bool)):Operand→Bool
 | .tmp i=>validT c Γ i
 | _=>true
def pureK (op:Op):Bool:=
 match footKind op with
 | .none | .read=>true
 | _=>false
def isFnCall:Op→Bool
 | .call { callee:=.value _,.. }=>true
 | _=>false
theorem isFnCall_eq (op:Op):isFnCall op=isCall op:=rfl
def validOp (c:Conds) (Γ:List (Nat × Bool)) (op:Op):Bool:=
 match op with
 | .pick x a b=>
  validO c Γ x && (match x with
   | .tmp t=>validO c ((t,true) :: Γ) a && validO c ((t,false) :: Γ) b
   | _=>validO c Γ a && validO c Γ b)
 | op=>op.operands.toList.all (validO c Γ)
def guardOf (ops:Array Oper) (o:Oper):Option (Option (Nat × Bool)):=
 match o.guard with
 | none=>some none
 | some (k,want)=>match (ops[k]?).bind (·.dst) with | some j=>some (some (j,want)) | none=>none
def statM (ops:Array Oper):List Oper→Conds→Bool
 | [],c=>true
 | o :: r,c=>
  match guardOf ops o with
  | none=>false
  | some none=>validOp c [] o.op && (match o.dst with
   | some d=>!(c.any fun p=>p.2.1 == d) && statM ops r (delC c d)
   | none=>statM ops r c)
  | some (some g)=>validOp c (ctxC c 30 g) o.op && (pureK o.op || isFnCall o.op) && (match o.dst with
   | some d=>!(c.any fun p=>p.2.1 == d) && d != g.1 && statM ops r ((d,g) :: delC c d)
   | none=>false)
def condsM (ops:Array Oper):List Oper→Conds→Conds
 | [],c=>c
 | o :: r,c=>
  match guardOf ops o with
  | some (some g)=>(match o.dst with | some d=>condsM ops r ((d,g) :: delC c d) | none=>condsM ops r c)
  | _=>(match o.dst with | some d=>condsM ops r (delC c d) | none=>condsM ops r c)
def pickV:V→V→V→Option V
 | .p (.bool q),.p (.bool y),.p (.bool z)=>some (.p (.bool (cond q y z)))
 | .p (.bool q),.p (.int k y),.p (.int k' z)=>if k=k' then some (.p (.int k (cond q y z))) else none
 | _,_,_=>none
def specE (cfg:Cfg) (d:Nat) (op:Op) (S:St):Option (V × Blks × List Nat):=
 match op with
 | .pick c a b=>(pickV (opnd S.t c) (opnd S.t a) (opnd S.t b)).map fun v=>(v,S.b,S.u)
 | op=>evalOp cfg d op S
def callPure (S:St) (f:Operand) (args:Array Operand):Option (FuncId × List P):=
 match allP (opnd S.t f :: args.toList.map (opnd S.t)) with
 | some (.fn (.func g) first cap :: qs)=>some (g,first ++ qs ++ cap)
 | _=>none
def runM (cfg:Cfg) (Q:Program) (ops:Array Oper) (dr:Bool):List Oper→St→List Foot→(St→List Foot→Prop)→Prop
 | [],S,fs,K=>K S fs
 | o :: r,S,fs,K=>
  match wantedA ops S.t o with
  | none=>False
  | some w=>
   match callOf o.op with
   | none=>(match specE cfg (o.dst.getD 0) o.op S with
    | some (v,b,u)=>runM cfg Q ops dr r (S.put o.dst v b u) (more dr ops o S.t fs) K
    | none=>w=false∧o.guard.isSome=true∧runM cfg Q ops dr r (S.put o.dst (.p (.bool false)) S.b S.u) (more dr ops o S.t fs) K)
   | some (f,args)=>
    match o.guard with
    | none=>(match callRes S f args with
     | some (g,ps,b)=>∃ rs,CallP cfg Q g ps rs∧runM cfg Q ops dr r (S.put o.dst (resV rs) b S.u) (more dr ops o S.t fs) K
     | none=>False)
    | some _=>(match callPure S f args with
     | some (g,ps)=>∃ rs,(w=true→CallP cfg Q g ps rs)∧runM cfg Q ops dr r (S.put o.dst (resV rs) S.b S.u) (more dr ops o S.t fs) K
     | none=>w=false∧runM cfg Q ops dr r (S.put o.dst (.p (.bool false)) S.b S.u) (more dr ops o S.t fs) K)
def accF (dr:Bool) (gs fs:List Foot):List Foot:=
 match dr with
 | true=>gs.reverse ++ fs
 | false=>fs
section
variable {cfg:Cfg} {Q:Program} {ops:Array Oper}
def CondHolds (A:St) (g:Nat × Bool):Prop:=A.t[g.1]? = some (.p (.bool g.2))
structure RG (A G:St) (c:Conds):Prop where
 b:A.b=G.b
 u:A.u=G.u
 len:A.t.length=G.t.length
 val:∀ i,(∀ g,condOf c i=some g→CondHolds A g)→A.t[i]? = G.t[i]?
 non:∀ i g,condOf c i=some g→¬ CondHolds A g→i < A.t.length→A.t[i]? = some (.tup [])
theorem ctx_holds {A G:St} {c:Conds} (h:RG A G c):∀ (f:Nat) (g:Nat × Bool),CondHolds A g→∀ g' ∈ ctxC c f g,CondHolds A g':=by
 intro f
 induction f with
 | zero=>intro g hg g' hg';simp only [ctxC,List.mem_singleton] at hg';subst hg';exact hg
 | succ f ih=>
  intro g hg g' hg'
  simp only [ctxC,List.mem_cons] at hg'
  rcases hg' with rfl | hg'
  ·exact hg
  ·cases hc:condOf c g.1 with
   | none=>rw [hc] at hg';simp at hg'
   | some g₁=>
    rw [hc] at hg'
    refine ih g₁ ?_ g' hg'
    by_cases h1:CondHolds A g₁
    ·exact h1
    ·have hlt:g.1 < A.t.length:=by
      unfold CondHolds at hg
      exact (List.getElem?_eq_some_iff.1 hg).1
     have:=h.non g.1 g₁ hc h1 hlt
     unfold CondHolds at hg
     rw [hg] at this
     cases this
theorem validT_val {A G:St} {c:Conds} (h:RG A G c) {Γ:List (Nat × Bool)} (hΓ:∀ g ∈ Γ,CondHolds A g) {i:Nat} (hv:validT c Γ i=true):A.t[i]? = G.t[i]?:=by
 refine h.val i fun g hg=>?_
 unfold validT at hv
 rw [hg] at hv
 exact hΓ g (by simpa using hv)
theorem validO_val {A G:St} {c:Conds} (h:RG A G c) {Γ:List (Nat × Bool)} (hΓ:∀ g ∈ Γ,CondHolds A g) {x:Operand} (hv:validO c Γ x=true):opnd A.t x=opnd G.t x:=by
 cases x with
 | tmp i=>
  simp only [opnd,List.getD_eq_getElem?_getD]
  rw [validT_val h hΓ hv]
 | _=>rfl
theorem wantedA_same (t t':List V) (o:Oper) (h:∀ k want j,o.guard=some (k,want)→(ops[k]?).bind (·.dst)=some j→t[j]? = t'[j]?) (hl:t.length=t'.length):wantedA ops t o=wantedA ops t' o:=by
 unfold wantedA
 cases hg:o.guard with
 | none=>rfl
 | some g=>
  obtain ⟨k,want⟩:=g
  simp only
  cases hd:(ops[k]?).bind (·.dst) with
  | none=>rfl
  | some j=>
   simp only [List.getD_eq_getElem?_getD]
   rw [h k want j hg hd,hl]
theorem evalOp_congr {A G:St} {op:Op} (d:Nat) (h:∀ x ∈ op.operands.toList,opnd A.t x=opnd G.t x) (hb:A.b=G.b) (hu:A.u=G.u):evalOp cfg d op A=evalOp cfg d op G:=by
 obtain ⟨at_,ab,au⟩:=A
 obtain ⟨gt,gb,gu⟩:=G
 simp only at h hb hu
 subst hb;subst hu
 have parts:∀ (l:List (Nat × Operand)),(∀ p ∈ l,opnd at_ p.2=opnd gt p.2)→(l.map fun (i,x)=>(i,opnd at_ x))=l.map fun (i,x)=>(i,opnd gt x):=by
  intro l hl
  exact List.map_congr_left fun p hp=>by obtain ⟨i,x⟩:=p;have:=hl (i,x) hp;simp only at this ⊢;rw [this]
 cases op with
 | build t ps=>
  have hp:=parts ps.toList fun p hp=>h p.2 (by simp only [Op.operands,Array.toList_map];exact List.mem_map_of_mem hp)
  simp only [evalOp,hp]
 | buildSlice t n ps=>
  have hp:=parts ps.toList fun p hp=>h p.2 (by simp only [Op.operands,Array.toList_map];exact List.mem_map_of_mem hp)
  simp only [evalOp,hp]
 | makeFunc f a b=>
  have h1:a.toList.map (opnd at_)=a.toList.map (opnd gt):=List.map_congr_left fun x hx=>h x (by simp [Op.operands] at hx ⊢;exact .inl hx)
  have h2:b.toList.map (opnd at_)=b.toList.map (opnd gt):=List.map_congr_left fun x hx=>h x (by simp [Op.operands] at hx ⊢;exact .inr hx)
  simp only [evalOp,h1,h2]
 | slice t x lo hi mx=>
  have hx:=h x (by simp [Op.operands])
  cases mx with
  | some m=>simp [evalOp]
  | none=>
   cases lo with
   | none=>
    cases hi with
    | none=>simp only [evalOp,hx]
    | some y=>have hy:=h y (by simp [Op.operands]);simp only [evalOp,hx,hy]
   | some z=>
    have hz:=h z (by simp [Op.operands])
    cases hi with
    | none=>simp only [evalOp,hx,hz]
    | some y=>have hy:=h y (by simp [Op.operands]);simp only [evalOp,hx,hz,hy]
 | call c=>
  obtain ⟨callee,args,ts⟩:=c
  cases callee with
  | builtin q=>
   have h1:args.toList.map (opnd at_)=args.toList.map (opnd gt):=List.map_congr_left fun x hx=>h x (by simp [Op.operands,Call.operands] at hx ⊢;exact hx)
   simp only [evalOp,h1]
   cases q <;> try rfl
   all_goals
    split <;> try rfl
  | _=>simp [evalOp]
 | move x=>have:=h x (by simp [Op.operands]);simp only [evalOp,this]
 | assign x=>have:=h x (by simp [Op.operands]);simp only [evalOp,this]
 | box t x=>have:=h x (by simp [Op.operands]);simp only [evalOp,this]
 | load t x=>have:=h x (by simp [Op.operands]);simp only [evalOp,this]
 | nilCheck x=>have:=h x (by simp [Op.operands]);simp only [evalOp,this]
 | unOp q t x=>have:=h x (by simp [Op.operands]);simp only [evalOp,this]
 | convert s t x=>have:=h x (by simp [Op.operands]);simp only [evalOp,this]
 | fieldAddr t x f=>have:=h x (by simp [Op.operands]);simp only [evalOp,this]
 | field t x f=>have:=h x (by simp [Op.operands]);simp only [evalOp,this]
 | extract x i=>have:=h x (by simp [Op.operands]);simp only [evalOp,this]
 | pick x y z=>have h1:=h x (by simp [Op.operands]);have h2:=h y (by simp [Op.operands]);have h3:=h z (by simp [Op.operands]);simp only [evalOp,h1,h2,h3]
 | store t x y=>have h1:=h x (by simp [Op.operands]);have h2:=h y (by simp [Op.operands]);simp only [evalOp,h1,h2]
 | binOp q t x y t'=>have h1:=h x (by simp [Op.operands]);have h2:=h y (by simp [Op.operands]);simp only [evalOp,h1,h2]
 | indexAddr t x y=>have h1:=h x (by simp [Op.operands]);have h2:=h y (by simp [Op.operands]);simp only [evalOp,h1,h2]
 | index t x y=>have h1:=h x (by simp [Op.operands]);have h2:=h y (by simp [Op.operands]);simp only [evalOp,h1,h2]
 | alloc t=>simp only [evalOp]
 | _=>simp [evalOp]
theorem pure_same {op:Op} {d:Nat} {S:St} {v:V} {b:Blks} {u:List Nat} (hp:pureK op=true) (he:evalOp cfg d op S=some (v,b,u)):b=S.b∧u=S.u:=by
 have key:∀ {x:Option V},(x.bind fun v=>some (v,S.b,S.u))=some (v,b,u)→b=S.b∧u=S.u:=by
  intro x hx
  cases x with
  | none=>cases hx
  | some y=>simp only [Option.bind_some,Option.some.injEq,Prod.mk.injEq] at hx;exact ⟨hx.2.1.symm,hx.2.2.symm⟩
 have key2:∀ {α:Type} {f:α→V} {x:Option α},(x.bind fun c=>some (f c,S.b,S.u))=some (v,b,u)→b=S.b∧u=S.u:=by
  intro α f x hx
  cases x with
  | none=>cases hx
  | some y=>simp only [Option.bind_some,Option.some.injEq,Prod.mk.injEq] at hx;exact ⟨hx.2.1.symm,hx.2.2.symm⟩
 have key':∀ {y:V},some (y,S.b,S.u)=some (v,b,u)→b=S.b∧u=S.u:=by
  intro y hy
  simp only [Option.some.injEq,Prod.mk.injEq] at hy;exact ⟨hy.2.1.symm,hy.2.2.symm⟩
 cases op with
 | call c=>
  obtain ⟨callee,args,ts⟩:=c
  cases callee with
  | builtin q=>
   by_cases hq:q = .append
   ·subst hq;simp [pureK,footKind] at hp
   simp only [evalOp] at he
   repeat' split at he
   all_goals first | exact key' he | exact key he | exact absurd rfl hq | cases he
  | _=>simp [evalOp] at he
 | slice t x lo hi mx=>simp [pureK,footKind] at hp
 | alloc t=>simp [pureK,footKind] at hp
 | box t x=>simp [pureK,footKind] at hp
 | store t x y=>simp [pureK,footKind] at hp
 | buildSlice t n ps=>simp [pureK,footKind] at hp
 | _=>
  simp only [evalOp] at he
  repeat' split at he
  all_goals first | exact key' he | exact key he | exact key2 he | cases he
theorem condOf_mem {c:Conds} {i:Nat} {g:Nat × Bool} (h:condOf c i=some g):(i,g) ∈ c:=by
 induction c with
 | nil=>cases h
 | cons p r ih=>
  obtain ⟨m,g'⟩:=p
  simp only [condOf] at h
  split at h
  ·rename_i e;subst e;cases h;exact .head _
  ·exact .tail _ (ih h)
theorem guards_ne {c:Conds} {d:Nat} (h:(c.any fun p=>p.2.1 == d)=false) {i:Nat} {g:Nat × Bool} (hg:condOf c i=some g):g.1 ≠ d:=by
 have:=condOf_mem hg
 intro e
 have h2:(c.any fun p=>p.2.1 == d)=true:=List.any_eq_true.2 ⟨_,this,by simp [e]⟩
 rw [h] at h2
 cases h2
theorem put_get {S:St} {d:Nat} {v:V} {b:Blks} {u:List Nat} (i:Nat):(S.put (some d) v b u).t[i]? = if d=i then (if i < S.t.length then some v else none) else S.t[i]?:=by
 simp only [St.put,List.getElem?_set]
 by_cases e:d=i
 ·subst e;simp
 ·simp [e]
theorem holds_put {A:St} {d:Nat} {v:V} {b:Blks} {u:List Nat} {g:Nat × Bool} (h:g.1 ≠ d):CondHolds (A.put (some d) v b u) g ↔ CondHolds A g:=by
 unfold CondHolds
 rw [put_get,if_neg (Ne.symm h)]
theorem RG.put_none {A S:St} {c:Conds} (h:RG A S c) (v:V) (b:Blks) (u:List Nat):RG (A.put none v b u) (S.put none v b u) c:=⟨rfl,rfl,h.len,h.val,h.non⟩
theorem RG.put_un {A S:St} {c:Conds} (h:RG A S c) {d:Nat} (hd:(c.any fun p=>p.2.1 == d)=false) (v:V) (b:Blks) (u:List Nat):RG (A.put (some d) v b u) (S.put (some d) v b u) (delC c d):=by
 refine ⟨rfl,rfl,by simp [St.put,h.len],fun i hi=>?_,fun i g hg hn hlt=>?_⟩
 ·rw [put_get,put_get,h.len]
  by_cases e:d=i
  ·simp [e]
  ·rw [if_neg e,if_neg e]
   refine h.val i fun g hg=>?_
   have:=hi g (by rw [condOf_del,if_neg (Ne.symm e)];exact hg)
   exact (holds_put (guards_ne hd hg)).1 this
 ·rw [condOf_del] at hg
  split at hg
  ·cases hg
  ·rename_i e
   rw [put_get,if_neg (Ne.symm e)]
   exact h.non i g hg (fun hh=>hn ((holds_put (guards_ne hd hg)).2 hh)) (by simpa [St.put] using hlt)
theorem RG.put_yes {A S:St} {c:Conds} (h:RG A S c) {d:Nat} {g:Nat × Bool} (hd:(c.any fun p=>p.2.1 == d)=false) (hgd:g.1 ≠ d) (hg:CondHolds A g) (v:V) (b:Blks) (u:List Nat) :
  RG (A.put (some d) v b u) (S.put (some d) v b u) ((d,g) :: delC c d):=by
 have h1:=h.put_un hd v b u
 refine ⟨rfl,rfl,h1.len,fun i hi=>?_,fun i g' hg' hn hlt=>?_⟩
 ·by_cases e:i=d
  ·subst e
   rw [put_get,put_get,h.len]
   simp
  ·exact h1.val i fun g' hg'=>hi g' (by simp only [condOf,e,if_false];exact hg')
 ·simp only [condOf] at hg'
  split at hg'
  ·cases hg'
   exact absurd ((holds_put hgd).2 hg) hn
  ·exact h1.non i g' hg' hn hlt
theorem RG.put_no {A S:St} {c:Conds} (h:RG A S c) {d:Nat} {g:Nat × Bool} (hd:(c.any fun p=>p.2.1 == d)=false) (hgd:g.1 ≠ d) (hg:¬ CondHolds A g) (v:V) :
  RG (A.put (some d) (.tup []) A.b A.u) (S.put (some d) v S.b S.u) ((d,g) :: delC c d):=by
 refine ⟨h.b,h.u,by simp [St.put,h.len],fun i hi=>?_,fun i g' hg' hn hlt=>?_⟩
 ·by_cases e:i=d
  ·subst e
   exact absurd ((holds_put hgd).1 (hi g (by simp [condOf]))) hg
  ·rw [put_get,put_get,if_neg (Ne.symm e),if_neg (Ne.symm e)]
   refine h.val i fun g' hg'=>?_
   have:=hi g' (by simp only [condOf,e,if_false];rw [condOf_del,if_neg e];exact hg')
   exact (holds_put (guards_ne hd hg')).1 this
 ·simp only [condOf] at hg'
  rw [put_get]
  split at hg'
  ·rename_i e
   subst e
   rw [if_pos rfl,if_pos (by simpa [St.put] using hlt)]
  ·rename_i e
   rw [if_neg (Ne.symm e)]
   rw [condOf_del,if_neg e] at hg'
   exact h.non i g' hg' (fun hh=>hn ((holds_put (guards_ne hd hg')).2 hh)) (by simpa [St.put] using hlt)
structure FootLe (F F':Foot):Prop where
 rt:F.rt=F'.rt
 wt:F.wt=F'.wt
 rb:∀ n ∈ F.rb,n ∈ F'.rb
 wb:∀ n ∈ F.wb,n ∈ F'.wb
theorem touches_le {A S:St} {c:Conds} (h:RG A S c) (op:Op):∀ n ∈ touches A.t op,n ∈ touches S.t op:=by
 intro n hn
 have one:∀ x:Operand,∀ n ∈ (opnd A.t x).names,n ∈ (opnd S.t x).names:=by
  intro x n hn
  cases x with
  | tmp i=>
   simp only [opnd,List.getD_eq_getElem?_getD] at hn ⊢
   by_cases hv:∀ g,condOf c i=some g→CondHolds A g
   ·rw [← h.val i hv];exact hn
   ·have ⟨g,hg⟩:∃ g,¬ (condOf c i=some g→CondHolds A g):=Classical.not_forall.1 hv
    have hg1:condOf c i=some g:=Classical.byContradiction fun hh=>hg fun h'=>absurd h' hh
    have hg2:¬ CondHolds A g:=fun hh=>hg fun _=>hh
    by_cases hlt:i < A.t.length
    ·rw [h.non i g hg1 hg2 hlt] at hn
     simp [V.names,V.namesL] at hn
    ·rw [List.getElem?_eq_none (Nat.le_of_not_lt hlt)] at hn
     simp [V.names] at hn
  | _=>exact hn
 have:∀ l:List Operand,∀ n ∈ V.namesL (l.map (opnd A.t)),n ∈ V.namesL (l.map (opnd S.t)):=by
  intro l
  induction l with
  | nil=>intro n hn;exact hn
  | cons x r ih=>
   intro n hn
   simp only [List.map_cons,V.namesL,List.mem_append] at hn ⊢
   exact hn.imp (one x n) (ih n)
 exact this _ n hn
theorem foot_le {A S:St} {c:Conds} (h:RG A S c) (o:Oper):FootLe (footOf ops o A.t) (footOf ops o S.t):=by
 have ht:=touches_le h o.op
 unfold footOf
 cases footKind o.op <;> simp only
 ·exact ⟨rfl,rfl,fun n hn=>hn,fun n hn=>hn⟩
 ·exact ⟨rfl,rfl,ht,fun n hn=>hn⟩
 ·exact ⟨rfl,rfl,fun n hn=>hn,ht⟩
 ·exact ⟨rfl,rfl,fun n hn=>hn,fun n hn=>hn⟩
 ·refine ⟨rfl,rfl,fun n hn=>hn,fun n hn=>?_⟩
  simp only [List.mem_cons] at hn ⊢
  exact hn.imp id (ht n)
 ·exact ⟨rfl,rfl,fun n hn=>hn,ht⟩
theorem inter_mono {a b a' b':List Nat} (h1:∀ n ∈ a,n ∈ a') (h2:∀ n ∈ b,n ∈ b') (h:inter a' b'=false):inter a b=false:=by
 cases hi:inter a b with
 | false=>rfl
 | true=>
  obtain ⟨x,hx,hx'⟩:=List.any_eq_true.1 hi
  rw [inter_mem (h1 x hx) (h2 x (by simpa using hx'))] at h
  cases h
theorem conf_mono {F G F' G':Foot} (h1:FootLe F F') (h2:FootLe G G') (h:conf F' G'=false):conf F G=false:=by
 unfold conf at h ⊢
 simp only [Bool.or_eq_false_iff] at h ⊢
 obtain ⟨⟨⟨⟨⟨a1,a2⟩,a3⟩,a4⟩,a5⟩,a6⟩:=h
 rw [h1.wt,h2.rt,h2.wt,h1.rt]
 exact ⟨⟨⟨⟨⟨a1,a2⟩,a3⟩,inter_mono h1.wb h2.rb a4⟩,inter_mono h1.wb h2.wb a5⟩,inter_mono h1.rb h2.wb a6⟩
def FootsLe (gs gs':List Foot):Prop:=gs.length=gs'.length∧∀ (i:Nat) (F F':Foot),gs[i]? = some F→gs'[i]? = some F'→FootLe F F'
theorem FootsLe.cons {F F':Foot} {gs gs':List Foot} (h:FootLe F F') (k:FootsLe gs gs'):FootsLe (F :: gs) (F' :: gs'):=by
 refine ⟨by simp [k.1],fun i G G' h1 h2=>?_⟩
 cases i with
 | zero=>simp at h1 h2;subst h1;subst h2;exact h
 | succ i=>exact k.2 i G G' (by simpa using h1) (by simpa using h2)
theorem drawB_mono {gs gs':List Foot} (h:FootsLe gs gs') (hd:drawB ops gs'=true):drawB ops gs=true:=by
 unfold drawB at hd ⊢
 simp only [List.all_eq_true] at hd ⊢
 intro j hj
 have:=hd j hj
 unfold drawFrom at this ⊢
 cases hG:gs[j]? with
 | none=>rfl
 | some G=>
  obtain ⟨G',hG'⟩:∃ G',gs'[j]? = some G':=by
   have:j < gs'.length:=by rw [← h.1];exact (List.getElem?_eq_some_iff.1 hG).1
   exact ⟨_,List.getElem?_eq_getElem this⟩
  rw [hG'] at this
  simp only [Bool.and_eq_true,List.all_eq_true] at this ⊢
  refine ⟨this.1,fun i hi=>?_⟩
  have h3:=this.2 i hi
  cases hF:gs[i]? with
  | none=>rfl
  | some F=>
   obtain ⟨F',hF'⟩:∃ F',gs'[i]? = some F':=by
    have:i < gs'.length:=by rw [← h.1];exact (List.getElem?_eq_some_iff.1 hF).1
    exact ⟨_,List.getElem?_eq_getElem this⟩
   rw [hF'] at h3
   simp only [Bool.or_eq_true,Bool.not_eq_true'] at h3 ⊢
   exact h3.imp (conf_mono (h.2 i F F' hF hF') (h.2 j G G' hG hG')) id
theorem pickV_true {x y z v:V} (h:pickV x y z=some v):∃ q,x = .p (.bool q)∧v=(if q then y else z):=by
 unfold pickV at h
 split at h
 ·rename_i q a b
  cases h
  exact ⟨q,rfl,by cases q <;> rfl⟩
 ·rename_i q k a k' b
  split at h
  ·rename_i e
   subst e
   cases h
   exact ⟨q,rfl,by cases q <;> rfl⟩
  ·cases h
 ·cases h
theorem spec_sound {A S:St} {c:Conds} (h:RG A S c) {Γ:List (Nat × Bool)} (hΓ:∀ g ∈ Γ,CondHolds A g) {op:Op} {d:Nat} {r:V × Blks × List Nat} (hv:validOp c Γ op=true) (he:specE cfg d op S=some r):evalOp cfg d op A=some r:=by
 by_cases hp:∃ x y z,op = .pick x y z
 ·obtain ⟨x,y,z,rfl⟩:=hp
  simp only [specE,Option.map_eq_some_iff] at he
  obtain ⟨v,hv',rfl⟩:=he
  obtain ⟨q,hx,rfl⟩:=pickV_true hv'
  simp only [validOp,Bool.and_eq_true] at hv
  have e1:=validO_val h hΓ hv.1
  rw [hx] at e1
  simp only [evalOp,e1,h.b,h.u]
  suffices hs:(if q=true then opnd A.t y else opnd A.t z)=if q=true then opnd S.t y else opnd S.t z by rw [hs]
  cases x with
  | tmp t=>
   have hv2:=hv.2
   simp only [Bool.and_eq_true] at hv2
   have hlt:t < A.t.length:=by
    by_cases hlt:t < A.t.length
    ·exact hlt
    ·simp only [opnd,List.getD_eq_getElem?_getD,List.getElem?_eq_none (Nat.le_of_not_lt hlt),Option.getD_none] at e1
     cases e1
   have hc:CondHolds A (t,q):=by
    simp only [opnd,List.getD_eq_getElem?_getD] at e1
    unfold CondHolds
    simp only
    rw [List.getElem?_eq_getElem hlt] at e1 ⊢
    simpa using e1
   cases q with
   | true=>simp only [if_true];exact validO_val h (fun g hg=>by simp only [List.mem_cons] at hg;exact hg.elim (fun e=>e ▸ hc) (hΓ g)) hv2.1
   | false=>simp only [Bool.false_eq_true,if_false];exact validO_val h (fun g hg=>by simp only [List.mem_cons] at hg;exact hg.elim (fun e=>e ▸ hc) (hΓ g)) hv2.2
  | _=>
   have hv2:=hv.2
   simp only [Bool.and_eq_true] at hv2
   rw [validO_val h hΓ hv2.1,validO_val h hΓ hv2.2]
 ·have h1:specE cfg d op S=evalOp cfg d op S:=by
   cases op <;> first | rfl | exact absurd ⟨_,_,_,rfl⟩ hp
  have h2:validOp c Γ op=op.operands.toList.all (validO c Γ):=by
   cases op <;> first | rfl | exact absurd ⟨_,_,_,rfl⟩ hp
  rw [h1] at he
  rw [h2,List.all_eq_true] at hv
  rw [evalOp_congr d (fun x hx=>validO_val h hΓ (hv x hx)) h.b h.u]
  exact he
theorem callRes_congr {A S:St} {f:Operand} {args:Array Operand} (hb:A.b=S.b) (h:∀ x ∈ f :: args.toList,opnd A.t x=opnd S.t x):callRes A f args=callRes S f args:=by
 have e1:=h f (.head _)
 have e2:args.toList.map (opnd A.t)=args.toList.map (opnd S.t):=List.map_congr_left fun x hx=>h x (.tail _ hx)
 simp only [callRes,e1,e2,hb]
theorem toPs_allP {b:Blks}:∀ {vs:List V} {ps:List P},allP vs=some ps→toPs b vs=some (ps,b)
 | [],ps,h=>by simp only [allP,Option.some.injEq] at h;subst h;rfl
 | .p x :: r,ps,h=>by
  simp only [allP,Option.map_eq_some_iff] at h
  obtain ⟨qs,h1,rfl⟩:=h
  simp only [toPs,toP,toPs_allP h1]
 | .nils :: _,ps,h=>by simp [allP] at h
 | .any :: _,ps,h=>by simp [allP] at h
 | .ref _ _ :: _,ps,h=>by simp [allP] at h
 | .own _ _ :: _,ps,h=>by simp [allP] at h
 | .elem _ _ _ _ :: _,ps,h=>by simp [allP] at h
 | .mp _ :: _,ps,h=>by simp [allP] at h
 | .fn _ _ _ :: _,ps,h=>by simp [allP] at h
 | .agg _ :: _,ps,h=>by simp [allP] at h
 | .tup _ :: _,ps,h=>by simp [allP] at h
theorem callPure_res {S:St} {f:Operand} {args:Array Operand} {g:FuncId} {ps:List P} (h:callPure S f args=some (g,ps)):callRes S f args=some (g,ps,S.b):=by
 unfold callPure at h
 split at h
 ·rename_i g' first cap qs ha
  cases h
  simp only [callRes,toPs_allP ha]
 ·cases h
theorem validOp_call {c:Conds} {Γ:List (Nat × Bool)} {f:Operand} {args:Array Operand} {ts:Array TypeId} (h:validOp c Γ (.call { callee:=.value f,args,argTypes:=ts })=true):∀ x ∈ f :: args.toList,validO c Γ x=true:=by
 simp only [validOp,List.all_eq_true] at h
 intro x hx
 refine h x ?_
 simp only [Op.operands,Call.operands,Array.toList_append,List.mem_append]
 simp only [List.mem_cons] at hx
 exact hx.imp (fun e=>by simp [e]) id
theorem runM_sound {dr:Bool} {K:St→List Foot→Prop}:∀ {r:List Oper} {S:St} {c:Conds} {fs:List Foot},statM ops r c=true→runM cfg Q ops dr r S fs K→∀ {A:St},RG A S c →
  ∃ A' G' gs gs',SeqF cfg Q ops r A A' gs∧FootsLe gs gs'∧RG A' G' (condsM ops r c)∧K G' (accF dr gs' fs)
 | [],S,c,fs,hst,h,A,hA=>⟨A,S,[],[],.nil A,⟨rfl,fun i F F' h=>by simp at h⟩,hA,by cases dr <;> exact h⟩
 | o :: r,S,c,fs,hst,h,A,hA=>by
  have fin:∀ {S':St} {gs:List Foot},K S' (accF dr gs (more dr ops o S.t fs))→K S' (accF dr (footOf ops o S.t :: gs) fs):=by
   intro S' gs k
   cases dr
   ·simpa [accF,more_false] using k
   ·simpa [accF,more_true] using k
  simp only [runM] at h
  simp only [statM] at hst
  generalize hw:wantedA ops S.t o=ww at h
  cases ww with
  | none=>exact h.elim
  | some w=>
  simp only at h
  have hfoot:=foot_le (ops:=ops) hA o
  cases hg:o.guard with
  | none=>
   have hgo:guardOf ops o=some none:=by simp [guardOf,hg]
   have hwt:w=true:=by simp only [wantedA,hg,Option.some.injEq] at hw;exact hw.symm
   subst hwt
   have hwA:wantedA ops A.t o=some true:=by simp [wantedA,hg]
   rw [hgo] at hst
   simp only [Bool.and_eq_true] at hst
   obtain ⟨hv,hst⟩:=hst
   have rest:∀ {v:V} {b:Blks} {u:List Nat},runM cfg Q ops dr r (S.put o.dst v b u) (more dr ops o S.t fs) K →
     ∃ A' G' gs gs',SeqF cfg Q ops r (A.put o.dst v b u) A' gs∧FootsLe gs gs'∧RG A' G' (condsM ops (o :: r) c)∧K G' (accF dr (footOf ops o S.t :: gs') fs):=by
    intro v b u hrun
    cases hd:o.dst with
    | none=>
     rw [hd] at hst hrun
     obtain ⟨A',G',gs,gs',k1,k2,k3,k4⟩:=runM_sound hst hrun (hA.put_none v b u)
     refine ⟨A',G',gs,gs',k1,k2,?_,fin k4⟩
     simpa [condsM,hgo,hd] using k3
    | some d=>
     rw [hd] at hst hrun
     simp only [Bool.and_eq_true,Bool.not_eq_true'] at hst
     obtain ⟨A',G',gs,gs',k1,k2,k3,k4⟩:=runM_sound hst.2 hrun (hA.put_un hst.1 v b u)
     refine ⟨A',G',gs,gs',k1,k2,?_,fin k4⟩
     simpa [condsM,hgo,hd] using k3
   generalize hc:callOf o.op=cc at h
   cases cc with
   | none=>
    simp only at h
    generalize he:specE cfg (o.dst.getD 0) o.op S=ee at h
    cases ee with
    | none=>exact absurd h.1 (by simp)
    | some x=>
     obtain ⟨v,b,u⟩:=x
     have heA:=spec_sound hA (Γ:=[]) (fun g hg=>by cases hg) hv he
     obtain ⟨A',G',gs,gs',k1,k2,k3,k4⟩:=rest h
     exact ⟨A',G',_ :: gs,_ :: gs',.step o r A A' v b u gs hwA (callOf_isCall hc) heA k1,k2.cons hfoot,k3,k4⟩
   | some fa=>
    obtain ⟨f,args⟩:=fa
    simp only [hg] at h
    generalize he:callRes S f args=ee at h
    cases ee with
    | none=>exact h.elim
    | some x=>
     obtain ⟨g,ps,b⟩:=x
     obtain ⟨rs,e2,e3⟩:=h
     obtain ⟨ts,hts⟩:=callOf_some hc
     rw [hts] at hv
     have heA:callRes A f args=some (g,ps,b):=by
      rw [callRes_congr hA.b (fun x hx=>validO_val hA (Γ:=[]) (fun g hg=>by cases hg) (validOp_call hv x hx))]
      exact he
     obtain ⟨A',G',gs,gs',k1,k2,k3,k4⟩:=rest e3
     rw [← hA.u] at k1
     exact ⟨A',G',_ :: gs,_ :: gs',.call o r A A' f args ts g ps rs b gs hwA hts heA e2 k1,k2.cons hfoot,k3,k4⟩
  | some kw=>
   obtain ⟨k,want⟩:=kw
   cases hj:(ops[k]?).bind (·.dst) with
   | none=>simp [guardOf,hg,hj] at hst
   | some j=>
   have hgo:guardOf ops o=some (some (j,want)):=by simp [guardOf,hg,hj]
   rw [hgo] at hst
   simp only [Bool.and_eq_true] at hst
   obtain ⟨⟨hv,hpk⟩,hst⟩:=hst
   cases hd:o.dst with
   | none=>rw [hd] at hst;simp at hst
   | some d=>
   rw [hd] at hst
   simp only [Bool.and_eq_true,Bool.not_eq_true',bne_iff_ne,ne_eq] at hst
   obtain ⟨⟨hdg,hne⟩,hst⟩:=hst
   have hgd:(j,want).1 ≠ d:=fun e=>hne e.symm
   have hjlt:j < S.t.length:=by
    simp only [wantedA,hg,hj] at hw
    split at hw
    ·split at hw
     ·assumption
     ·cases hw
    ·split at hw
     ·assumption
     ·cases hw
    ·cases hw
   have hcm:condsM ops (o :: r) c=condsM ops r ((d,(j,want)) :: delC c d):=by simp [condsM,hgo,hd]
   by_cases hcond:CondHolds A (j,want)
   ·
    have hAj:A.t[j]? = some (.p (.bool want)):=hcond
    have hjv:A.t[j]? = S.t[j]?:=by
     refine hA.val j fun g' hg'=>?_
     by_cases hh:CondHolds A g'
     ·exact hh
     ·have:=hA.non j g' hg' hh (by rw [hA.len];exact hjlt)
      rw [hAj] at this;cases this
    have hwA:wantedA ops A.t o=some true:=by
     simp only [wantedA,hg,hj,List.getD_eq_getElem?_getD,hAj,Option.getD_some,hA.len,hjlt,if_true]
     simp
    have hww:w=true:=by
     rw [wantedA_same A.t S.t o (fun k' want' j' h1 h2=>by rw [hg] at h1;cases h1;rw [hj] at h2;cases h2;exact hjv) hA.len,hw] at hwA
     simpa using hwA
    subst hww
    have hΓ:∀ g' ∈ ctxC c 30 (j,want),CondHolds A g':=ctx_holds hA 30 (j,want) hcond
    have rest:∀ {v:V},runM cfg Q ops dr r (S.put (some d) v S.b S.u) (more dr ops o S.t fs) K →
      ∃ A' G' gs gs',SeqF cfg Q ops r (A.put o.dst v S.b S.u) A' gs∧FootsLe gs gs'∧RG A' G' (condsM ops (o :: r) c)∧K G' (accF dr (footOf ops o S.t :: gs') fs):=by
     intro v hrun
     obtain ⟨A',G',gs,gs',k1,k2,k3,k4⟩:=runM_sound hst hrun (hA.put_yes hdg hgd hcond v S.b S.u)
     rw [hd]
     exact ⟨A',G',gs,gs',k1,k2,by rw [hcm];exact k3,fin k4⟩
    generalize hc:callOf o.op=cc at h
    cases cc with
    | none=>
     simp only at h
     generalize he:specE cfg (o.dst.getD 0) o.op S=ee at h
     cases ee with
     | none=>exact absurd h.1 (by simp)
     | some x=>
      obtain ⟨v,b,u⟩:=x
      have heA:=spec_sound hA hΓ hv he
      have hpk':pureK o.op=true:=by
       simp only [Bool.or_eq_true] at hpk
       refine hpk.elim id fun hf=>?_
       have:=callOf_isCall hc
       rw [isFnCall_eq,this] at hf
       cases hf
      obtain ⟨rfl,rfl⟩:=pure_same hpk' heA
      rw [hd] at h
      rw [hA.b,hA.u] at heA
      simp only at h
      obtain ⟨A',G',gs,gs',k1,k2,k3,k4⟩:=rest (v:=v) (by rw [← hA.b,← hA.u];exact h)
      exact ⟨A',G',_ :: gs,_ :: gs',.step o r A A' v S.b S.u gs hwA (callOf_isCall hc) heA k1,k2.cons hfoot,k3,k4⟩
    | some fa=>
     obtain ⟨f,args⟩:=fa
     simp only [hg] at h
     generalize he:callPure S f args=ee at h
     cases ee with
     | none=>exact absurd h.1 (by simp)
     | some x=>
      obtain ⟨g,ps⟩:=x
      obtain ⟨rs,e2,e3⟩:=h
      obtain ⟨ts,hts⟩:=callOf_some hc
      rw [hts] at hv
      have heA:callRes A f args=some (g,ps,S.b):=by
       rw [callRes_congr hA.b (fun x hx=>validO_val hA hΓ (validOp_call hv x hx))]
       exact callPure_res he
      rw [hd] at e3
      obtain ⟨A',G',gs,gs',k1,k2,k3,k4⟩:=rest e3
      rw [← hA.u] at k1
      exact ⟨A',G',_ :: gs,_ :: gs',.call o r A A' f args ts g ps rs S.b gs hwA hts heA (e2 trivial) k1,k2.cons hfoot,k3,k4⟩
   ·
    have hwA:wantedA ops A.t o=some false:=by
     have hjA:j < A.t.length:=by rw [hA.len];exact hjlt
     by_cases hval:∀ g',condOf c j=some g'→CondHolds A g'
     ·have hjv:=hA.val j hval
      rw [wantedA_same A.t S.t o (fun k' want' j' h1 h2=>by rw [hg] at h1;cases h1;rw [hj] at h2;cases h2;exact hjv) hA.len]
      simp only [wantedA,hg,hj] at hw ⊢
      split at hw
      ·rename_i q hq
       simp only [hjlt,if_true,Option.some.injEq] at hw ⊢
       cases hqw:(q == want) with
       | false=>rfl
       | true=>
        have:q=want:=by simpa using hqw
        subst this
        refine absurd ?_ hcond
        unfold CondHolds
        rw [hjv]
        simp only [List.getD_eq_getElem?_getD] at hq
        rw [List.getElem?_eq_getElem hjlt] at hq ⊢
        simpa using hq
      ·simp [hjlt]
      ·cases hw
     ·have ⟨g',hg'⟩:∃ g',¬ (condOf c j=some g'→CondHolds A g'):=Classical.not_forall.1 hval
      have hg1:condOf c j=some g':=Classical.byContradiction fun hh=>hg' fun h'=>absurd h' hh
      have hg2:¬ CondHolds A g':=fun hh=>hg' fun _=>hh
      have:=hA.non j g' hg1 hg2 hjA
      simp only [wantedA,hg,hj,List.getD_eq_getElem?_getD,this,Option.getD_some,hjA,if_true]
    have rest:∀ {v:V},runM cfg Q ops dr r (S.put (some d) v S.b S.u) (more dr ops o S.t fs) K →
      ∃ A' G' gs gs',SeqF cfg Q ops (o :: r) A A' gs∧FootsLe gs gs'∧RG A' G' (condsM ops (o :: r) c)∧K G' (accF dr gs' fs):=by
     intro v hrun
     obtain ⟨A',G',gs,gs',k1,k2,k3,k4⟩:=runM_sound hst hrun (hA.put_no hdg hgd hcond v)
     refine ⟨A',G',_ :: gs,_ :: gs',.skip o r A A' gs hwA ?_,k2.cons hfoot,by rw [hcm];exact k3,fin k4⟩
     rw [hd]
     exact k1
    generalize hc:callOf o.op=cc at h
    cases cc with
    | none=>
     simp only at h
     generalize he:specE cfg (o.dst.getD 0) o.op S=ee at h
     cases ee with
     | none=>rw [hd] at h;exact rest h.2.2
     | some x=>
      obtain ⟨v,b,u⟩:=x
      have hpk':pureK o.op=true:=by
       simp only [Bool.or_eq_true] at hpk
       refine hpk.elim id fun hf=>?_
       have:=callOf_isCall hc
       rw [isFnCall_eq,this] at hf
       cases hf
      have hbu:b=S.b∧u=S.u:=by
       by_cases hp:∃ x y z,o.op = .pick x y z
       ·obtain ⟨x,y,z,hp⟩:=hp
        rw [hp] at he
        simp only [specE,Option.map_eq_some_iff,Prod.mk.injEq] at he
        obtain ⟨_,_,_,h1,h2⟩:=he
        exact ⟨h1.symm,h2.symm⟩
       ·have h1:specE cfg (o.dst.getD 0) o.op S=evalOp cfg (o.dst.getD 0) o.op S:=by
         generalize o.op=op at hp
         cases op <;> first | rfl | exact absurd ⟨_,_,_,rfl⟩ hp
        rw [h1] at he
        exact pure_same hpk' he
      obtain ⟨rfl,rfl⟩:=hbu
      rw [hd] at h
      exact rest h
    | some fa=>
     obtain ⟨f,args⟩:=fa
     simp only [hg] at h
     generalize he:callPure S f args=ee at h
     cases ee with
     | none=>rw [hd] at h;exact rest h.2
     | some x=>
      obtain ⟨g,ps⟩:=x
      obtain ⟨rs,e2,e3⟩:=h
      rw [hd] at e3
      exact rest e3
def maskT:Conds→List V→List V
 | [],t=>t
 | (m,_) :: r,t=>(maskT r t).set m .any
theorem maskT_len (c:Conds) (t:List V):(maskT c t).length=t.length:=by
 induction c with
 | nil=>rfl
 | cons p r ih=>simp [maskT,ih]
theorem maskT_get (c:Conds) (t:List V) (i:Nat):(maskT c t)[i]? = some .any ∨ ((maskT c t)[i]? = t[i]?∧(condOf c i=none ∨ t.length ≤ i)):=by
 induction c with
 | nil=>exact .inr ⟨rfl,.inl rfl⟩
 | cons p r ih=>
  obtain ⟨m,g⟩:=p
  simp only [maskT,condOf,List.getElem?_set]
  by_cases e:m=i
  ·subst e
   simp only [if_true,maskT_len]
   by_cases hl:m < t.length
   ·simp [hl]
   ·right;refine ⟨?_,.inr (by omega)⟩
    rw [if_neg hl,List.getElem?_eq_none (by omega)]
  ·simp only [e,Ne.symm e,if_false]
   exact ih
theorem Con.mask {base:Base} {A G:St} {c:Conds} (h:RG A G c) {a:Act} {w:World} (hc:Con cfg base A a w):Con cfg base ⟨maskT c G.t,G.b,G.u⟩ a w:=by
 obtain ⟨E, μ,hm,h1,h2,h3⟩:=hc
 rw [h.b,h.u] at hm
 refine ⟨E, μ,hm,h1,by simp [maskT_len,h2,h.len],fun i v x hv hx=>?_⟩
 simp only at hx ⊢
 rcases maskT_get c G.t i with hh | ⟨hh,hh'⟩
 ·rw [hh] at hx;cases hx;exact .any _
 ·rw [hh] at hx
  have hlt:i < G.t.length:=(List.getElem?_eq_some_iff.1 hx).1
  have hn:condOf c i=none:=hh'.elim id fun h=>absurd hlt (by omega)
  have:=h.val i (fun g hg=>by rw [hn] at hg;cases hg)
  rw [← this] at hx
  have:=h3 i v x hv hx
  rw [h.b,h.u] at this
  exact this
theorem RG.refl (S:St):RG S S []:=⟨rfl,rfl,rfl,fun _ _=>rfl,fun i g h=>by simp [condOf] at h⟩
variable {base:Base} {R:Ex→St→Prop} {S:St}
theorem wpA_regM (hc:CfgOk cfg Q) (hmix:Q.follows .mixedOrders=true) {id:Nat} {dr:Bool} (hst:statM ops ops.toList []=true)
  (h:∀ K:St→List Foot→Prop,Hid (∀ S' fs,(dr=true→drawB ops fs.reverse=true)→R .normal ⟨maskT (condsM ops ops.toList []) S'.t,S'.b,S'.u⟩→K S' fs)→runM cfg Q ops dr ops.toList S [] K):wpA cfg base Q (.region id ops dr) R S:=by
 obtain ⟨A',G',gs,gs',h1,h2,h3,h4,h5⟩:=runM_sound hst (h (fun S' fs=>(dr=true→drawB ops fs.reverse=true)∧R .normal ⟨maskT (condsM ops ops.toList []) S'.t,S'.b,S'.u⟩) ⟨fun _ _ h k=>⟨h,k⟩⟩) (RG.refl S)
 have key:wpA cfg base Q (.region id ops dr) (fun x S'=>x = .normal∧S'=A') S:=by
  cases dr with
  | false=>exact wpA_region hc h1.seq ⟨rfl,rfl⟩
  | true=>
   have h4':=drawB_mono h2 (by simpa [accF] using h4 rfl)
   exact wpA_draw hc hmix h1 h4' ⟨rfl,rfl⟩
 intro a w hcon
 refine wp_mono (key a w hcon) ?_
 rintro e a w ⟨x,T,k1,⟨rfl,rfl⟩,k3⟩
 exact ⟨.normal,_,k1,h5,k3.mask h3⟩
end
theorem condsM_un {ops:Array Oper}:∀ {r:List Oper},(r.all fun o=>o.guard.isNone)=true→condsM ops r []=[]
 | [],_=>rfl
 | o :: r,h=>by
  simp only [List.all_cons,Bool.and_eq_true] at h
  have hg:guardOf ops o=some none:=by
   unfold guardOf
   cases hh:o.guard with
   | none=>rfl
   | some g=>rw [hh] at h;simp at h
  have ih:=condsM_un (ops:=ops) h.2
  simp only [condsM,hg]
  cases o.dst <;> simp [delC,ih]
section
variable {cfg:Cfg} {Q:Program} {ops:Array Oper} {base:Base} {R:Ex→St→Prop} {S:St}
theorem wpA_regU (hc:CfgOk cfg Q) (hmix:Q.follows .mixedOrders=true) {id:Nat} {dr:Bool} (hst:(statM ops ops.toList [] && ops.toList.all fun o=>o.guard.isNone)=true)
  (h:∀ K:St→List Foot→Prop,Hid (∀ S' fs,(dr=true→drawB ops fs.reverse=true)→R .normal S'→K S' fs)→runM cfg Q ops dr ops.toList S [] K):wpA cfg base Q (.region id ops dr) R S:=by
 simp only [Bool.and_eq_true] at hst
 refine wpA_regM hc hmix hst.1 fun K hK=>h K ⟨fun S' fs d k=>hK.out S' fs d ?_⟩
 rw [condsM_un hst.2]
 exact k
end
section
variable (cfg:Cfg) (Q:Program) (ops:Array Oper) (dr:Bool)
def mV (w:Bool) (x:Option (V × Blks × List Nat)) (o:Oper) (r:List Oper) (S:St) (fs:List Foot) (K:St→List Foot→Prop):Prop:=
 match x with
 | some (v,b,u)=>runM cfg Q ops dr r (S.put o.dst v b u) (more dr ops o S.t fs) K
 | none=>w=false∧o.guard.isSome=true∧runM cfg Q ops dr r (S.put o.dst (.p (.bool false)) S.b S.u) (more dr ops o S.t fs) K
def mD (x:Option (FuncId × List P × Blks)) (o:Oper) (r:List Oper) (S:St) (fs:List Foot) (K:St→List Foot→Prop):Prop:=
 match x with
 | some (g,ps,b)=>∃ rs,CallP cfg Q g ps rs∧runM cfg Q ops dr r (S.put o.dst (resV rs) b S.u) (more dr ops o S.t fs) K
 | none=>False
def mP (w:Bool) (x:Option (FuncId × List P)) (o:Oper) (r:List Oper) (S:St) (fs:List Foot) (K:St→List Foot→Prop):Prop:=
 match x with
 | some (g,ps)=>∃ rs,(w=true→CallP cfg Q g ps rs)∧runM cfg Q ops dr r (S.put o.dst (resV rs) S.b S.u) (more dr ops o S.t fs) K
 | none=>w=false∧runM cfg Q ops dr r (S.put o.dst (.p (.bool false)) S.b S.u) (more dr ops o S.t fs) K
def mC (w:Bool) (gd:Option (Nat × Bool)) (x:Option (Operand × Array Operand)) (o:Oper) (r:List Oper) (S:St) (fs:List Foot) (K:St→List Foot→Prop):Prop:=
 match x with
 | none=>mV cfg Q ops dr w (specE cfg (o.dst.getD 0) o.op S) o r S fs K
 | some (f,args)=>
  match gd with
  | none=>mD cfg Q ops dr (callRes S f args) o r S fs K
  | some _=>mP cfg Q ops dr w (callPure S f args) o r S fs K
def mG (x:Option Bool) (o:Oper) (r:List Oper) (S:St) (fs:List Foot) (K:St→List Foot→Prop):Prop:=
 match x with
 | none=>False
 | some w=>mC cfg Q ops dr w o.guard (callOf o.op) o r S fs K
def mR (w:Bool) (g:FuncId) (ps:List P) (o:Oper) (r:List Oper) (S:St) (fs:List Foot) (K:St→List Foot→Prop):Prop:=
 ∃ rs,(w=true→CallP cfg Q g ps rs)∧runM cfg Q ops dr r (S.put o.dst (resV rs) S.b S.u) (more dr ops o S.t fs) K
def mQ (g:FuncId) (ps:List P) (b:Blks) (o:Oper) (r:List Oper) (S:St) (fs:List Foot) (K:St→List Foot→Prop):Prop:=
 ∃ rs,CallP cfg Q g ps rs∧runM cfg Q ops dr r (S.put o.dst (resV rs) b S.u) (more dr ops o S.t fs) K
end
section
variable {cfg:Cfg} {Q:Program} {ops:Array Oper} {dr:Bool} {o:Oper} {r:List Oper} {S:St} {fs:List Foot} {K:St→List Foot→Prop}
theorem runM_nil:runM cfg Q ops dr [] S fs K=K S fs:=rfl
theorem runM_cons:runM cfg Q ops dr (o :: r) S fs K=mG cfg Q ops dr (wantedA ops S.t o) o r S fs K:=rfl
theorem mG_some {w:Bool}:mG cfg Q ops dr (some w) o r S fs K=mC cfg Q ops dr w o.guard (callOf o.op) o r S fs K:=rfl
theorem mC_none {w:Bool} {gd:Option (Nat × Bool)}:mC cfg Q ops dr w gd none o r S fs K=mV cfg Q ops dr w (specE cfg (o.dst.getD 0) o.op S) o r S fs K:=rfl
theorem mC_un {w:Bool} {f:Operand} {args:Array Operand}:mC cfg Q ops dr w none (some (f,args)) o r S fs K=mD cfg Q ops dr (callRes S f args) o r S fs K:=rfl
theorem mC_gd {w:Bool} {g:Nat × Bool} {f:Operand} {args:Array Operand}:mC cfg Q ops dr w (some g) (some (f,args)) o r S fs K=mP cfg Q ops dr w (callPure S f args) o r S fs K:=rfl
theorem mV_none {w:Bool}:mV cfg Q ops dr w none o r S fs K=(w=false∧o.guard.isSome=true∧runM cfg Q ops dr r (S.put o.dst (.p (.bool false)) S.b S.u) (more dr ops o S.t fs) K):=rfl
theorem mP_none {w:Bool}:mP cfg Q ops dr w none o r S fs K=(w=false∧runM cfg Q ops dr r (S.put o.dst (.p (.bool false)) S.b S.u) (more dr ops o S.t fs) K):=rfl
theorem mV_some {w:Bool} {v:V} {b:Blks} {u:List Nat}:mV cfg Q ops dr w (some (v,b,u)) o r S fs K=runM cfg Q ops dr r (S.put o.dst v b u) (more dr ops o S.t fs) K:=rfl
theorem mD_some {g:FuncId} {ps:List P} {b:Blks}:mD cfg Q ops dr (some (g,ps,b)) o r S fs K=mQ cfg Q ops dr g ps b o r S fs K:=rfl
theorem mP_some {w:Bool} {g:FuncId} {ps:List P}:mP cfg Q ops dr w (some (g,ps)) o r S fs K=mR cfg Q ops dr w g ps o r S fs K:=rfl
theorem mR_intro {w:Bool} {g:FuncId} {ps rs:List P} (h:w=true→CallP cfg Q g ps rs) (k:runM cfg Q ops dr r (S.put o.dst (resV rs) S.b S.u) (more dr ops o S.t fs) K):mR cfg Q ops dr w g ps o r S fs K:=⟨rs,h,k⟩
theorem mR_no {g:FuncId} {ps:List P} (k:runM cfg Q ops dr r (S.put o.dst (.p (.bool false)) S.b S.u) (more dr ops o S.t fs) K):mR cfg Q ops dr false g ps o r S fs K:=⟨[.bool false],(fun h=>by cases h),k⟩
theorem mQ_intro {g:FuncId} {ps rs:List P} {b:Blks} (h:CallP cfg Q g ps rs) (k:runM cfg Q ops dr r (S.put o.dst (resV rs) b S.u) (more dr ops o S.t fs) K):mQ cfg Q ops dr g ps b o r S fs K:=⟨rs,h,k⟩
theorem mV_id {w:Bool} {x:Option (V × Blks × List Nat)} (h:mV cfg Q ops dr w x o r S fs K):mV cfg Q ops dr w x o r S fs K:=h
theorem mD_id {x:Option (FuncId × List P × Blks)} (h:mD cfg Q ops dr x o r S fs K):mD cfg Q ops dr x o r S fs K:=h
theorem mG_id {x:Option Bool} (h:mG cfg Q ops dr x o r S fs K):mG cfg Q ops dr x o r S fs K:=h
theorem mQ_id {g:FuncId} {ps:List P} {b:Blks} (h:mQ cfg Q ops dr g ps b o r S fs K):mQ cfg Q ops dr g ps b o r S fs K:=h
theorem mR_id {w:Bool} {g:FuncId} {ps:List P} (h:mR cfg Q ops dr w g ps o r S fs K):mR cfg Q ops dr w g ps o r S fs K:=h
theorem runM_id (h:runM cfg Q ops dr r S fs K):runM cfg Q ops dr r S fs K:=h
end
theorem pickV_bool (q y z:Bool):pickV (.p (.bool q)) (.p (.bool y)) (.p (.bool z))=some (.p (.bool (cond q y z))):=rfl
theorem pickV_int (q:Bool) (k:IntKind) (y z:Int):pickV (.p (.bool q)) (.p (.int k y)) (.p (.int k z))=some (.p (.int k (cond q y z))):=by simp [pickV]
theorem specE_pick (cfg:Cfg) (d:Nat) (c a b:Operand) (S:St):specE cfg d (.pick c a b) S=(pickV (opnd S.t c) (opnd S.t a) (opnd S.t b)).map fun v=>(v,S.b,S.u):=rfl
theorem specE_move (cfg:Cfg) (d:Nat) (x:Operand) (S:St):specE cfg d (.move x) S=evalOp cfg d (.move x) S:=rfl
theorem specE_assign (cfg:Cfg) (d:Nat) (x:Operand) (S:St):specE cfg d (.assign x) S=evalOp cfg d (.assign x) S:=rfl
theorem specE_alloc (cfg:Cfg) (d:Nat) (t:TypeId) (S:St):specE cfg d (.alloc t) S=evalOp cfg d (.alloc t) S:=rfl
theorem specE_box (cfg:Cfg) (d:Nat) (t:TypeId) (x:Operand) (S:St):specE cfg d (.box t x) S=evalOp cfg d (.box t x) S:=rfl
theorem specE_build (cfg:Cfg) (d:Nat) (t:TypeId) (x:Array (Nat × Operand)) (S:St):specE cfg d (.build t x) S=evalOp cfg d (.build t x) S:=rfl
theorem specE_buildSlice (cfg:Cfg) (d:Nat) (t:TypeId) (n:Nat) (x:Array (Nat × Operand)) (S:St):specE cfg d (.buildSlice t n x) S=evalOp cfg d (.buildSlice t n x) S:=rfl
theorem specE_load (cfg:Cfg) (d:Nat) (t:TypeId) (x:Operand) (S:St):specE cfg d (.load t x) S=evalOp cfg d (.load t x) S:=rfl
theorem specE_store (cfg:Cfg) (d:Nat) (t:TypeId) (x y:Operand) (S:St):specE cfg d (.store t x y) S=evalOp cfg d (.store t x y) S:=rfl
theorem specE_nilCheck (cfg:Cfg) (d:Nat) (x:Operand) (S:St):specE cfg d (.nilCheck x) S=evalOp cfg d (.nilCheck x) S:=rfl
theorem specE_binOp (cfg:Cfg) (d:Nat) (q:BinOp) (t u:TypeId) (x y:Operand) (S:St):specE cfg d (.binOp q t x y u) S=evalOp cfg d (.binOp q t x y u) S:=rfl
theorem specE_unOp (cfg:Cfg) (d:Nat) (q:UnOp) (t:TypeId) (x:Operand) (S:St):specE cfg d (.unOp q t x) S=evalOp cfg d (.unOp q t x) S:=rfl
theorem specE_convert (cfg:Cfg) (d:Nat) (s t:TypeId) (x:Operand) (S:St):specE cfg d (.convert s t x) S=evalOp cfg d (.convert s t x) S:=rfl
theorem specE_makeFunc (cfg:Cfg) (d:Nat) (f:Fn) (x y:Array Operand) (S:St):specE cfg d (.makeFunc f x y) S=evalOp cfg d (.makeFunc f x y) S:=rfl
theorem specE_slice (cfg:Cfg) (d:Nat) (t:TypeId) (x:Operand) (l h m:Option Operand) (S:St):specE cfg d (.slice t x l h m) S=evalOp cfg d (.slice t x l h m) S:=rfl
theorem specE_fieldAddr (cfg:Cfg) (d:Nat) (t:TypeId) (x:Operand) (f:Nat) (S:St):specE cfg d (.fieldAddr t x f) S=evalOp cfg d (.fieldAddr t x f) S:=rfl
theorem specE_field (cfg:Cfg) (d:Nat) (t:TypeId) (x:Operand) (f:Nat) (S:St):specE cfg d (.field t x f) S=evalOp cfg d (.field t x f) S:=rfl
theorem specE_indexAddr (cfg:Cfg) (d:Nat) (t:TypeId) (x y:Operand) (S:St):specE cfg d (.indexAddr t x y) S=evalOp cfg d (.indexAddr t x y) S:=rfl
theorem specE_index (cfg:Cfg) (d:Nat) (t:TypeId) (x y:Operand) (S:St):specE cfg d (.index t x y) S=evalOp cfg d (.index t x y) S:=rfl
theorem specE_extract (cfg:Cfg) (d:Nat) (x:Operand) (i:Nat) (S:St):specE cfg d (.extract x i) S=evalOp cfg d (.extract x i) S:=rfl
theorem specE_call (cfg:Cfg) (d:Nat) (c:Call) (S:St):specE cfg d (.call c) S=evalOp cfg d (.call c) S:=rfl
theorem cond_false_r (a b:Bool):cond a b false=(a && b):=by cases a <;> rfl
theorem cond_true_m (a b:Bool):cond a true b=(a || b):=by cases a <;> rfl
attribute [irreducible] runM mV mD mP mC mG mR mQ
end Go.Abs
namespace Go.Abs
open Go.RowKit
def mkT (n:Nat):List (Nat × V)→List V
 | []=>List.replicate n .any
 | (i,v) :: r=>(mkT n r).set i v
def lookA:List (Nat × V)→Nat→V
 | [],_=>.any
 | (m,v) :: r,i=>if i=m then v else lookA r i
def dropA:Nat→List (Nat × V)→List (Nat × V)
 | _,[]=>[]
 | m,(i,v) :: r=>if m / 2 ^ i % 2=1 then dropA m r else (i,v) :: dropA (m ||| 2 ^ i) r
theorem mkT_len (n:Nat) (az:List (Nat × V)):(mkT n az).length=n:=by
 induction az with
 | nil=>simp [mkT]
 | cons p r ih=>obtain ⟨i,v⟩:=p;simp [mkT,ih]
theorem mkT_set (n:Nat) (az:List (Nat × V)) (d:Nat) (v:V):(mkT n az).set d v=mkT n ((d,v) :: az):=rfl
theorem mkT_get (n:Nat) (az:List (Nat × V)) (i:Nat):(mkT n az)[i]? = if i < n then some (lookA az i) else none:=by
 induction az with
 | nil=>by_cases h:i < n <;> simp [mkT,lookA,h]
 | cons p r ih=>
  obtain ⟨m,v⟩:=p
  simp only [mkT,lookA,List.getElem?_set,mkT_len,ih]
  by_cases e:m=i
  ·subst e;simp
  ·simp [e,Ne.symm e]
theorem mkT_getD (n:Nat) (az:List (Nat × V)) (i:Nat):(mkT n az).getD i .any=if i < n then lookA az i else .any:=by
 rw [List.getD_eq_getElem?_getD,mkT_get]
 by_cases h:i < n <;> simp [h]
theorem mkT_idx (n:Nat) (az:List (Nat × V)) (i:Nat) (h:i < (mkT n az).length):(mkT n az)[i]=lookA az i:=by
 have h2:=mkT_get n az i
 rw [List.getElem?_eq_getElem h,if_pos (by simpa [mkT_len] using h)] at h2
 exact Option.some.inj h2
theorem opnd_tmp (n:Nat) (az:List (Nat × V)) (i:Nat):opnd (mkT n az) (.tmp i)=if i < n then lookA az i else .any:=mkT_getD n az i
theorem opnd_const (t:List V) (v:Value):opnd t (.const v)=constV v:=rfl
theorem opnd_func (t:List V) (f:FuncId):opnd t (.func f) = .p (.fn (.func f) [] []):=rfl
theorem drop_bit (m i:Nat):(m / 2 ^ i % 2=1) ↔ m.testBit i=true:=by
 rw [Nat.testBit_eq_decide_div_mod_eq];simp
theorem lookA_drop:∀ (az:List (Nat × V)) (m i:Nat),(m.testBit i=true→lookA (dropA m az) i = .any)∧(m.testBit i=false→lookA (dropA m az) i=lookA az i)
 | [],m,i=>⟨fun _=>rfl,fun _=>rfl⟩
 | (j,v) :: r,m,i=>by
  simp only [dropA,drop_bit]
  by_cases hj:m.testBit j=true
  ·simp only [hj,if_true]
   refine ⟨(lookA_drop r m i).1,fun h=>?_⟩
   have hne:i ≠ j:=fun e=>by subst e;rw [hj] at h;cases h
   rw [(lookA_drop r m i).2 h]
   simp [lookA,hne]
  ·simp only [hj,if_false,Bool.false_eq_true]
   have hb:(m ||| 2 ^ j).testBit i=(m.testBit i || decide (j=i)):=by simp [Nat.testBit_or,Nat.testBit_two_pow]
   refine ⟨fun h=>?_,fun h=>?_⟩
   ·have hne:i ≠ j:=fun e=>by subst e;exact hj h
    simp only [lookA,hne,if_false]
    exact (lookA_drop r _ i).1 (by rw [hb,h];rfl)
   ·simp only [lookA]
    by_cases e:i=j
    ·simp [e]
    ·simp only [e,if_false]
     exact (lookA_drop r _ i).2 (by rw [hb,h];simp [Ne.symm e])
theorem look_drop (az:List (Nat × V)) (m i:Nat):lookA (dropA m az) i = .any ∨ lookA (dropA m az) i=lookA az i:=by
 cases h:m.testBit i with
 | true=>exact .inl ((lookA_drop az m i).1 h)
 | false=>exact .inr ((lookA_drop az m i).2 h)
section
variable {cfg:Cfg} {Q:Program} {base:Base} {R:Ex→St→Prop} {n:Nat} {az:List (Nat × V)} {b:Blks} {u:List Nat}
theorem Con.weak {S:St} {t:List V} {a:Act} {w:World} (hl:t.length=S.t.length) (h:∀ i:Nat,t[i]? = some V.any ∨ t[i]? = S.t[i]?) (hc:Con cfg base S a w):Con cfg base ⟨t,S.b,S.u⟩ a w:=by
 obtain ⟨E, μ,hm,h1,h2,h3⟩:=hc
 refine ⟨E, μ,hm,h1,h2.trans hl.symm,fun i v x hv hx=>?_⟩
 rcases h i with k | k
 ·rw [show ({ t:=t,b:=S.b,u:=S.u }:St).t=t from rfl,k] at hx;cases hx;exact .any _
 ·exact h3 i v x hv (by rw [← k];exact hx)
theorem Con.drop (m:Nat) {a:Act} {w:World} (hc:Con cfg base ⟨mkT n az,b,u⟩ a w):Con cfg base ⟨mkT n (dropA m az),b,u⟩ a w:=by
 refine Con.weak (S:=⟨mkT n az,b,u⟩) (by simp [mkT_len]) (fun i=>?_) hc
 simp only [mkT_get]
 by_cases hi:i < n
 ·simp only [hi,if_true,Option.some.injEq]
  exact look_drop az m i
 ·simp [hi]
structure Msk (a b:Nat):Prop where
 mk ::
def condsIn (a:Nat) (c:Conds):Bool:=c.all fun p=>a.testBit p.1
theorem wpA_regD {ops:Array Oper} (hc:CfgOk cfg Q) (hmix:Q.follows .mixedOrders=true) {ma mb:Nat} (msk:Msk ma mb) {id:Nat} {dr:Bool} (hst:(statM ops ops.toList [] && condsIn ma (condsM ops ops.toList []))=true)
  (h:∀ K:St→List Foot→Prop,Hid (∀ n az b u fs,(dr=true→drawB ops fs.reverse=true)→R .normal ⟨mkT n (dropA ma az),b,u⟩→K ⟨mkT n az,b,u⟩ fs)→runM cfg Q ops dr ops.toList ⟨mkT n az,b,u⟩ [] K):wpA cfg base Q (.region id ops dr) R ⟨mkT n az,b,u⟩:=by
 simp only [Bool.and_eq_true] at hst
 intro a w hcon
 refine wp_mono (wpA_regM (R:=fun x S=>∃ n az b u,x = .normal∧S=⟨maskT (condsM ops ops.toList []) (mkT n az),b,u⟩∧R .normal ⟨mkT n (dropA ma az),b,u⟩) hc hmix hst.1 ?_ a w hcon) ?_
 ·intro K hK
  exact h K ⟨fun n az b u fs d k=>hK.out _ _ d ⟨n,az,b,u,rfl,rfl,k⟩⟩
 ·rintro e a w ⟨x,S,k1,⟨n,az,b,u,rfl,rfl,k2⟩,k3⟩
  refine ⟨.normal,_,k1,k2,?_⟩
  refine Con.weak (S:=⟨maskT (condsM ops ops.toList []) (mkT n az),b,u⟩) (by simp [mkT_len,maskT_len]) (fun i=>?_) k3
  simp only [mkT_get]
  by_cases hi:i < n
  ·simp only [hi,if_true]
   rcases maskT_get (condsM ops ops.toList []) (mkT n az) i with hh | ⟨hh,hh'⟩
   ·left
    rcases look_drop az ma i with h1 | h1
    ·rw [h1]
    ·have hcond:(condOf (condsM ops ops.toList []) i).isSome=true ∨ lookA az i = .any:=by
      cases hco:condOf (condsM ops ops.toList []) i with
      | some g=>exact .inl rfl
      | none=>
       right
       have:(maskT (condsM ops ops.toList []) (mkT n az))[i]? = (mkT n az)[i]?:=by
        clear h hst hh k1 k2 k3
        generalize condsM ops ops.toList []=c at hco ⊢
        induction c with
        | nil=>rfl
        | cons p r ih=>
         obtain ⟨m,g⟩:=p
         simp only [condOf] at hco
         split at hco
         ·cases hco
         ·rename_i hne
          simp only [maskT,List.getElem?_set]
          rw [if_neg (fun e=>hne e.symm)]
          exact ih hco
       rw [this,mkT_get,if_pos hi] at hh
       exact Option.some.inj hh
     rcases hcond with h2 | h2
     ·obtain ⟨g,hg⟩:=Option.isSome_iff_exists.1 h2
      have h3:=condOf_mem hg
      have h4:=hst.2
      simp only [condsIn,List.all_eq_true] at h4
      have h5:=h4 _ h3
      rw [(lookA_drop az ma i).1 h5]
     ·rw [h1,h2]
   ·rw [hh,mkT_get,if_pos hi]
    rcases look_drop az ma i with h1 | h1
    ·left;rw [h1]
    ·right;rw [h1]
  ·right
   simp only [hi,if_false]
   exact (List.getElem?_eq_none (by simp [maskT_len,mkT_len];omega)).symm
theorem wpA_seqD {ops:Array Oper} (hc:CfgOk cfg Q) (hmix:Q.follows .mixedOrders=true) {ma mb:Nat} (msk:Msk ma mb) {id:Nat} {dr:Bool} {y:Code} (hst:(statM ops ops.toList [] && condsIn ma (condsM ops ops.toList []))=true)
  (h:∀ K:St→List Foot→Prop,Hid (∀ n az b u fs,(dr=true→drawB ops fs.reverse=true)→wpA cfg base Q y R ⟨mkT n (dropA ma az),b,u⟩→K ⟨mkT n az,b,u⟩ fs)→runM cfg Q ops dr ops.toList ⟨mkT n az,b,u⟩ [] K):wpA cfg base Q (.seq (.region id ops dr) y) R ⟨mkT n az,b,u⟩:=
 wpA_seq (wpA_regD hc hmix msk hst fun K hK=>h K ⟨fun n az b u fs d k=>hK.out n az b u fs d (thenR_normal k)⟩)
theorem wpA_drop {c:Code} (m:Nat) (h:wpA cfg base Q c R ⟨mkT n (dropA m az),b,u⟩):wpA cfg base Q c R ⟨mkT n az,b,u⟩:=fun a w hcon=>h a w (hcon.drop m)
theorem wpA_condD {ma mb:Nat} (msk:Msk ma mb) {c:Operand} {x y:Code} {q:Option Bool} (hq:boolV (opnd (mkT n az) c)=q) (h:goB q (wpA cfg base Q x R ⟨mkT n (dropA mb az),b,u⟩) (wpA cfg base Q y R ⟨mkT n (dropA mb az),b,u⟩)) :
  wpA cfg base Q (.cond c x y) R ⟨mkT n az,b,u⟩:=by
 refine wpA_condK hq ?_
 cases q with
 | none=>unfold goB at h ⊢;exact h
 | some q=>
  unfold goB at h ⊢
  exact ⟨fun e=>wpA_drop mb (h.1 e),fun e=>wpA_drop mb (h.2 e)⟩
def headM (n:Nat) (az:List (Nat × V)) (b:Blks) (u:List Nat) (fm:Nat) (un:List Nat) (up:List (Nat × V)) (bs:List (Nat × Blk)):St:=
 ⟨mkT n (up ++ dropA fm az),bs.foldl (fun b p=>setB b p.1 p.2) (b.filter fun p=>!un.contains p.1),bs.foldl (fun u p=>if u.contains p.1 then u else p.1 :: u) (u.filter fun n=>!un.contains n)⟩
theorem wpA_headM {c:Code} {σ:Type} (fm:Nat) (un:List Nat) (up:σ→List (Nat × V)) (bs:σ→List (Nat × Blk)) (Inv:σ→Prop) (m:σ→Nat) (x₀:σ) (vs:List Nat)
  (h₀:St.le vs ⟨mkT n az,b,u⟩ (headM n az b u fm un (up x₀) (bs x₀))) (i₀:Inv x₀)
  (round:∀ x,Inv x→wpA cfg base Q c (thenR (Again (fun x=>headM n az b u fm un (up x) (bs x)) Inv m x) R) (headM n az b u fm un (up x) (bs x))):wpA cfg base Q (.loop c) R ⟨mkT n az,b,u⟩:=
 wpA_head (fun x=>headM n az b u fm un (up x) (bs x)) Inv m x₀ vs h₀ i₀ round
end
def leAs (vs:List Nat) (az:List (Nat × V)):List (Nat × V)→Prop
 | []=>True
 | (i,v) :: r=>leV vs (lookA az i) v∧leAs vs az r
theorem leV_any' {vs:List Nat} (x:V):leV vs x .any:=by cases x <;> trivial
theorem leAs_look {vs:List Nat} {az:List (Nat × V)}:∀ {cs:List (Nat × V)},leAs vs az cs→∀ i,leV vs (lookA az i) (lookA cs i)
 | [],_,i=>leV_any' _
 | (m,v) :: r,h,i=>by
  simp only [lookA]
  by_cases e:i=m
  ·subst e;simp only [if_true];exact h.1
  ·simp only [e,if_false];exact leAs_look h.2 i
theorem leT_of {vs:List Nat}:∀ {a b:List V},a.length=b.length→(∀ (i:Nat) (x y:V),a[i]? = some x→b[i]? = some y→leV vs x y)→leT vs a b
 | [],[],_,_=>trivial
 | x :: r,y :: s,hl,h=>⟨h 0 x y rfl rfl,leT_of (by simpa using hl) fun i x' y' h1 h2=>h (i + 1) x' y' (by simpa using h1) (by simpa using h2)⟩
 | [],_ :: _,hl,_=>by simp at hl
 | _ :: _,[],hl,_=>by simp at hl
theorem leT_mk {vs:List Nat} {n:Nat} {az cs:List (Nat × V)} (h:leAs vs az cs):leT vs (mkT n az) (mkT n cs):=by
 refine leT_of (by simp [mkT_len]) fun i x y hx hy=>?_
 rw [mkT_get] at hx hy
 split at hx
 ·rename_i hi
  rw [if_pos hi] at hy
  cases hx;cases hy
  exact leAs_look h i
 ·cases hx
theorem le_mk {vs:List Nat} {n:Nat} {az cs:List (Nat × V)} {b c:Blks} {u x:List Nat} (h1:leAs vs az cs) (h2:leBs vs b c) (h3:(vs.all fun n=>!u.contains n)=true) (h4:namesB ⟨mkT n cs,c,x⟩=true)
  (h5:(u.all fun n=>n < 1000 || x.contains n)=true) (h6:(x.all fun n=>u.contains n || vs.contains n)=true) (h7:(vs.all fun n=>match getB c n with | some (.arr _ [] false)=>true | _=>false)=true):St.le vs ⟨mkT n az,b,u⟩ ⟨mkT n cs,c,x⟩:=
 ⟨leT_mk h1,h2,h3,h4,h5,h6,h7⟩
def mkA:Nat→List P→List (Nat × V)
 | _,[]=>[]
 | i,a :: r=>(i,.p a) :: mkA (i + 1) r
theorem CallP.of_bodyN (n:Nat) {cfg:Cfg} {Q:Program} (hc:CfgOk cfg Q) {f:FuncId} {fn:Func} {c:Code} {ps rs:List P} (hf:Q.funcs[f]? = some fn) (hb:fn.body=some c) (hn:(fn.name == "runtime.NumGoroutine")=false) (hs:startSt fn ps=⟨mkT n (mkA 0 ps),[],[]⟩)
  (h:∀ base,wpA cfg base Q c (bodyR cfg fn rs) ⟨mkT n (mkA 0 ps),[],[]⟩):CallP cfg Q f ps rs:=CallP.of_body hc hf hb hn fun base=>hs ▸ h base
end Go.Abs
namespace Go.Proofs.YtgiedlcjlalpcaaGreat
open Go.Abs
theorem mix:Tryz.prog.follows .mixedOrders=true:=by kernel_rfl
class Cal (g:FuncId) (ps:List P) (rs:outParam (List P)):Prop where
 out:CallP cfg Tryz.prog g ps rs
structure Nx {σ:Type} (p:Prop) (f:p→σ):Prop where
 mk ::
theorem Nx.em {σ:Type} {p:Prop} {f:p→σ} (_:Nx p f):p ∨ ¬ p:=Classical.em p
theorem again_nx {σ:Type} {H:σ→St} {Inv:σ→Prop} {m:σ→Nat} {x:σ} {S':St} {p:Prop} {f:p→σ} (h:Nx p f) (hp:p) (h1:m (f hp) < m x) (h2:Inv (f hp)) (h3:St.le [] S' (H (f hp))):Again H Inv m x S':=⟨f hp,[],h1,h2,h3⟩
theorem leS {vs:List Nat} {n:Nat} {al:List (Nat × V)} {b:Blks} {u:List Nat} {T:St} (h:St.le vs ⟨mkT n al,b,u⟩ T:=by
 (try simp only [headM,dropA,Nat.reducePow,Nat.reduceDiv,Nat.reduceMod, ↓reduceIte,Nat.reduceOr,Nat.zero_ne_one,List.nil_append,List.cons_append]);exact le_mk (by simp -implicitDefEqProofs [*,leAs,leV_any,leV_refl,leV_p,leV_nils,leV_own,leV_ref]) (by simp -implicitDefEqProofs [*,leT_nil,leT_cons,leV_any,leV_refl,leV_p,leV_nils,leV_own,leV_ref,leBs_nil,leBs_cells,leBs_frz,leBs_arr',leBs_virt',leK]) (by kernel_rfl) (by kernel_rfl) (by kernel_rfl) (by kernel_rfl) (by kernel_rfl)):St.le vs ⟨mkT n al,b,u⟩ T:=h
structure InvL (a b c:Prop):Prop where
 bound:a
 side:b
 todo:c
structure LD {σ:Type} (id:Nat) (fm:Nat) (un:List Nat) (up:σ→List (Nat × V)) (bs:σ→List (Nat × Blk)) (Inv:σ→Prop) (m:σ→Nat) (x₀:σ) (vs:List Nat) (p:σ→Prop) (nx nx':(x:σ)→p x→σ):Prop where
 mk ::
section
variable {base:Base} {c:Code} {R:Ex→St→Prop} {S:St}
theorem headLD {σ:Type} {id fm:Nat} {un:List Nat} {up:σ→List (Nat × V)} {bs:σ→List (Nat × Blk)} {Inv:σ→Prop} {m:σ→Nat} {x₀:σ} {vs:List Nat} {p:σ→Prop} {nx nx':(x:σ)→p x→σ} {n:Nat} {al:List (Nat × V)} {b:Blks} {u:List Nat} (ld:LD id fm un up bs Inv m x₀ vs p nx nx')
  (h₀:St.le vs ⟨mkT n al,b,u⟩ (headM n al b u fm un (up x₀) (bs x₀))) (i₀:Inv x₀) (round:∀ x,Inv x→Nx (p x) (nx x)→Nx (p x) (nx' x)→wpA cfg base Tryz.prog c (thenR (Again (fun x=>headM n al b u fm un (up x) (bs x)) Inv m x) (blockR id R)) (headM n al b u fm un (up x) (bs x))) :
  wpA cfg base Tryz.prog (.loop c) (blockR id R) ⟨mkT n al,b,u⟩:=wpA_headM fm un up bs Inv m x₀ vs h₀ i₀ fun x hx=>round x hx ⟨⟩ ⟨⟩
structure FZ (id t:Nat):Prop where
 mk ::
def isPV:V→Bool
 | .p _=>true
 | _=>false
def goZ (x:Option (P × Blks)) (K:P→Blks→Prop):Prop:=
 match x with
 | some (p,b)=>K p b
 | none=>False
theorem goZ_some {p:P} {b:Blks} {K:P→Blks→Prop} (h:K p b):goZ (some (p,b)) K:=h
theorem goZ_id {x:Option (P × Blks)} {K:P→Blks→Prop} (h:goZ x K):goZ x K:=h
theorem wpA_frz {n t:Nat} {al:List (Nat × V)} {b:Blks} {u:List Nat} (ht':decide (t < n)=true) (h:∀ K:P→Blks→Prop,Hid (∀ x b',wpA cfg base Tryz.prog c R ⟨mkT n ((t,.p x) :: al),b',u⟩→K x b')→goZ (toP b (lookA al t)) K):wpA cfg base Tryz.prog c R ⟨mkT n al,b,u⟩:=by
 have h':=h (fun x b'=>wpA cfg base Tryz.prog c R ⟨mkT n ((t,.p x) :: al),b',u⟩) ⟨fun _ _ h=>h⟩
 cases hz:toP b (lookA al t) with
 | none=>rw [hz] at h';exact h'.elim
 | some r=>
  obtain ⟨x,b'⟩:=r
  rw [hz] at h'
  intro a w hcon
  refine (show wpA cfg base Tryz.prog c R ⟨mkT n ((t,.p x) :: al),b',u⟩ from h') a w ?_
  obtain ⟨E, μ,hm,h1,h2,h3⟩:=hcon
  have ht:t < n:=by simpa using ht'
  have hrep:=h3 t (a.tmps.getD t undef) (lookA al t) (by
   have:t < a.tmps.size:=by rw [h2,mkT_len];exact ht
   simp [Array.getD,this]) (by rw [mkT_get,if_pos ht])
  obtain ⟨E',g1,g2,g3⟩:=toP_sound (lookA al t) hm hrep hz
  refine ⟨E', μ,g2,h1,by rw [h2,mkT_len,mkT_len],fun i v y hv hy=>?_⟩
  rw [mkT_get] at hy
  split at hy
  ·rename_i hi
   simp only [Option.some.injEq,lookA] at hy
   split at hy
   ·rename_i hit
    subst hit;subst hy
    have:i < a.tmps.size:=by rw [h2,mkT_len];exact ht
    have hv':v=a.tmps.getD i undef:=by
     rw [Array.getElem?_eq_getElem this] at hv
     cases hv
     simp [Array.getD,this]
    rw [hv']
    exact .p _ _ g3
   ·exact (h3 i v y hv (by rw [mkT_get,if_pos hi,hy])).chg g1
  ·cases hy
theorem wpA_seqZ {id t:Nat} (fz:FZ id t) {n:Nat} {al:List (Nat × V)} {b:Blks} {u:List Nat} {ops:Array Oper} {dr:Bool} {y:Code} (ht:decide (t < n)=true) (hp:isPV (lookA al t)=false)
  (h:∀ K:P→Blks→Prop,Hid (∀ x b',wpA cfg base Tryz.prog (.seq (.region id ops dr) y) R ⟨mkT n ((t,.p x) :: al),b',u⟩→K x b')→goZ (toP b (lookA al t)) K):wpA cfg base Tryz.prog (.seq (.region id ops dr) y) R ⟨mkT n al,b,u⟩:=wpA_frz ht h
theorem wpA_regZ {id t:Nat} (fz:FZ id t) {n:Nat} {al:List (Nat × V)} {b:Blks} {u:List Nat} {ops:Array Oper} {dr:Bool} (ht:decide (t < n)=true) (hp:isPV (lookA al t)=false)
  (h:∀ K:P→Blks→Prop,Hid (∀ x b',wpA cfg base Tryz.prog (.region id ops dr) R ⟨mkT n ((t,.p x) :: al),b',u⟩→K x b')→goZ (toP b (lookA al t)) K):wpA cfg base Tryz.prog (.region id ops dr) R ⟨mkT n al,b,u⟩:=wpA_frz ht h
attribute [local irreducible] wpA Again LeJ
set_option hygiene false in
theorem walk (h:wpA cfg base Tryz.prog c R S:=by
 repeat' (first
  | (refine wpA_seqZ fz0 (by rfl) (by rfl) fun K hK=>?_;refine goZ_id ?_;simp -implicitDefEqProofs [*];refine goZ_some ?_;refine hK.out _ _ ?_;clear hK;clear K)
  | (refine wpA_regZ fz0 (by rfl) (by rfl) fun K hK=>?_;refine goZ_id ?_;simp -implicitDefEqProofs [*];refine goZ_some ?_;refine hK.out _ _ ?_;clear hK;clear K)
  | (refine wpA_seqZ fz1 (by rfl) (by rfl) fun K hK=>?_;refine goZ_id ?_;simp -implicitDefEqProofs [*];refine goZ_some ?_;refine hK.out _ _ ?_;clear hK;clear K)
  | (refine wpA_regZ fz1 (by rfl) (by rfl) fun K hK=>?_;refine goZ_id ?_;simp -implicitDefEqProofs [*];refine goZ_some ?_;refine hK.out _ _ ?_;clear hK;clear K)
  | (refine wpA_seqD cfg_ok mix msk (by decide +kernel) fun K hK=>?_)
  | (refine wpA_seq ?_)
  | (refine wpA_block ?_)
  | (refine thenR_normal ?_)
  | (refine thenR_ret ?_)
  | (refine thenR_exit ?_)
  | (refine blockR_normal ?_)
  | (refine blockR_ret ?_)
  | (refine blockR_same ?_)
  | (refine blockR_other rfl ?_)
  | (refine wpA_skip ?_)
  | (refine wpA_ret ?_)
  | (refine wpA_exit ?_)
  | (refine wpA_regD cfg_ok mix msk (by decide +kernel) fun K hK=>?_)
  | (refine hK.out _ _ _ _ _ (by first | (intro h;cases h;done) | (intro _;kernel_rfl)) ?_;clear hK;clear K;try simp only [dropA,Nat.reducePow,Nat.reduceDiv,Nat.reduceMod, ↓reduceIte,Nat.reduceOr,Nat.zero_ne_one])
  | (refine wpA_condD msk (by first | (simp -implicitDefEqProofs [*];done) | (simp -implicitDefEqProofs [*];rfl)) ?_;try simp only [dropA,Nat.reducePow,Nat.reduceDiv,Nat.reduceMod, ↓reduceIte,Nat.reduceOr,Nat.zero_ne_one])
  | (refine bodyR_ret (by first | (simp -implicitDefEqProofs [*];done) | (simp -implicitDefEqProofs [*];rfl)) ?_)
  | (refine bodyR_normal (by first | (simp -implicitDefEqProofs [*];done) | (simp -implicitDefEqProofs [*];rfl)) ?_)
  | (refine runM_id ?_;simp -implicitDefEqProofs)
  | (refine mV_id ?_;simp -implicitDefEqProofs [*])
  | (refine mG_id ?_;simp -implicitDefEqProofs [*])
  | (refine mD_id ?_;simp -implicitDefEqProofs [*])
  | (refine mQ_intro Cal.out ?_)
  | (refine mR_intro (fun _=>Cal.out) ?_)
  | (refine mR_no ?_)
  | (refine mQ_intro (pc0 (by first | assumption | omega | (simp -implicitDefEqProofs [*];done) | (simp -implicitDefEqProofs;omega))) ?_)
  | (refine mR_intro (fun hw=>pc0 (by first | assumption | omega | (simp -implicitDefEqProofs [*];done) | (simp -implicitDefEqProofs at hw;simp -implicitDefEqProofs [*];done))) ?_)
  | (refine mQ_intro (pc1 (by first | assumption | omega | (simp -implicitDefEqProofs [*];done) | (simp -implicitDefEqProofs;omega))) ?_)
  | (refine mR_intro (fun hw=>pc1 (by first | assumption | omega | (simp -implicitDefEqProofs [*];done) | (simp -implicitDefEqProofs at hw;simp -implicitDefEqProofs [*];done))) ?_)
  | (refine mQ_intro (pc2 (by first | assumption | omega | (simp -implicitDefEqProofs [*];done) | (simp -implicitDefEqProofs;omega))) ?_)
  | (refine mR_intro (fun hw=>pc2 (by first | assumption | omega | (simp -implicitDefEqProofs [*];done) | (simp -implicitDefEqProofs at hw;simp -implicitDefEqProofs [*];done))) ?_)
  | (refine mQ_intro (pc3 (by first | assumption | omega | (simp -implicitDefEqProofs [*];done) | (simp -implicitDefEqProofs;omega))) ?_)
  | (refine mR_intro (fun hw=>pc3 (by first | assumption | omega | (simp -implicitDefEqProofs [*];done) | (simp -implicitDefEqProofs at hw;simp -implicitDefEqProofs [*];done))) ?_)
  | (refine mQ_intro (pc4 (by first | assumption | omega | (simp -implicitDefEqProofs [*];done) | (simp -implicitDefEqProofs;omega))) ?_)
  | (refine mR_intro (fun hw=>pc4 (by first | assumption | omega | (simp -implicitDefEqProofs [*];done) | (simp -implicitDefEqProofs at hw;simp -implicitDefEqProofs [*];done))) ?_)
  | (refine mQ_intro (pc5 (by first | assumption | omega | (simp -implicitDefEqProofs [*];done) | (simp -implicitDefEqProofs;omega))) ?_)
  | (refine mR_intro (fun hw=>pc5 (by first | assumption | omega | (simp -implicitDefEqProofs [*];done) | (simp -implicitDefEqProofs at hw;simp -implicitDefEqProofs [*];done))) ?_)
  | (refine mQ_id ?_;simp -implicitDefEqProofs [*])
  | (refine mR_id ?_;simp -implicitDefEqProofs [*])
  | (refine goB_true ?_)
  | (refine goB_false ?_)
  | (refine headLD ld0 leS (by first | exact ⟨by first | exact Nat.zero_le _ | omega,by first | trivial | (simp -implicitDefEqProofs [*];done),by first | rfl | (simp -implicitDefEqProofs [*];done)⟩ | (simp -implicitDefEqProofs [*];done)) ?_;rintro x0 ⟨hi0,hs0,hn0⟩ ny0 nz0;(try simp only [headM,List.nil_append,List.cons_append,dropA,Nat.reducePow,Nat.reduceDiv,Nat.reduceMod, ↓reduceIte,Nat.reduceOr,Nat.zero_ne_one]);have hj0:x0.1 ≤ 4294967296:=by omega)
  | (refine headLD ld0 leS (by first | exact ⟨by first | exact Nat.zero_le _ | omega,by first | trivial | (simp -implicitDefEqProofs [*];done),by first | rfl | (simp -implicitDefEqProofs [*];done)⟩ | (simp -implicitDefEqProofs [*];done)) ?_;rintro x0 ⟨hi0,hs0,hn0⟩ ny0 nz0;(try simp only [headM,List.nil_append,List.cons_append,dropA,Nat.reducePow,Nat.reduceDiv,Nat.reduceMod, ↓reduceIte,Nat.reduceOr,Nat.zero_ne_one]);have hj0:x0 ≤ 4294967296:=by omega)
  | (refine headLD ld1 leS (by first | exact ⟨by first | exact Nat.zero_le _ | omega,by first | trivial | (simp -implicitDefEqProofs [*];done),by first | rfl | (simp -implicitDefEqProofs [*];done)⟩ | (simp -implicitDefEqProofs [*];done)) ?_;rintro x1 ⟨hi1,hs1,hn1⟩ ny1 nz1;(try simp only [headM,List.nil_append,List.cons_append,dropA,Nat.reducePow,Nat.reduceDiv,Nat.reduceMod, ↓reduceIte,Nat.reduceOr,Nat.zero_ne_one]);have hj1:x1.1 ≤ 4294967296:=by omega)
  | (refine headLD ld1 leS (by first | exact ⟨by first | exact Nat.zero_le _ | omega,by first | trivial | (simp -implicitDefEqProofs [*];done),by first | rfl | (simp -implicitDefEqProofs [*];done)⟩ | (simp -implicitDefEqProofs [*];done)) ?_;rintro x1 ⟨hi1,hs1,hn1⟩ ny1 nz1;(try simp only [headM,List.nil_append,List.cons_append,dropA,Nat.reducePow,Nat.reduceDiv,Nat.reduceMod, ↓reduceIte,Nat.reduceOr,Nat.zero_ne_one]);have hj1:x1 ≤ 4294967296:=by omega)
  | (refine headLD ld2 leS (by first | exact ⟨by first | exact Nat.zero_le _ | omega,by first | trivial | (simp -implicitDefEqProofs [*];done),by first | rfl | (simp -implicitDefEqProofs [*];done)⟩ | (simp -implicitDefEqProofs [*];done)) ?_;rintro x2 ⟨hi2,hs2,hn2⟩ ny2 nz2;(try simp only [headM,List.nil_append,List.cons_append,dropA,Nat.reducePow,Nat.reduceDiv,Nat.reduceMod, ↓reduceIte,Nat.reduceOr,Nat.zero_ne_one]);have hj2:x2.1 ≤ 4294967296:=by omega)
  | (refine headLD ld2 leS (by first | exact ⟨by first | exact Nat.zero_le _ | omega,by first | trivial | (simp -implicitDefEqProofs [*];done),by first | rfl | (simp -implicitDefEqProofs [*];done)⟩ | (simp -implicitDefEqProofs [*];done)) ?_;rintro x2 ⟨hi2,hs2,hn2⟩ ny2 nz2;(try simp only [headM,List.nil_append,List.cons_append,dropA,Nat.reducePow,Nat.reduceDiv,Nat.reduceMod, ↓reduceIte,Nat.reduceOr,Nat.zero_ne_one]);have hj2:x2 ≤ 4294967296:=by omega)
  | (refine headLD ld3 leS (by first | exact ⟨by first | exact Nat.zero_le _ | omega,by first | trivial | (simp -implicitDefEqProofs [*];done),by first | rfl | (simp -implicitDefEqProofs [*];done)⟩ | (simp -implicitDefEqProofs [*];done)) ?_;rintro x3 ⟨hi3,hs3,hn3⟩ ny3 nz3;(try simp only [headM,List.nil_append,List.cons_append,dropA,Nat.reducePow,Nat.reduceDiv,Nat.reduceMod, ↓reduceIte,Nat.reduceOr,Nat.zero_ne_one]);have hj3:x3.1 ≤ 4294967296:=by omega)
  | (refine headLD ld3 leS (by first | exact ⟨by first | exact Nat.zero_le _ | omega,by first | trivial | (simp -implicitDefEqProofs [*];done),by first | rfl | (simp -implicitDefEqProofs [*];done)⟩ | (simp -implicitDefEqProofs [*];done)) ?_;rintro x3 ⟨hi3,hs3,hn3⟩ ny3 nz3;(try simp only [headM,List.nil_append,List.cons_append,dropA,Nat.reducePow,Nat.reduceDiv,Nat.reduceMod, ↓reduceIte,Nat.reduceOr,Nat.zero_ne_one]);have hj3:x3 ≤ 4294967296:=by omega)
  | (refine goB_intro (fun h=>?_) (fun h=>?_) <;> (try simp only [Bool.not_eq_true',Bool.not_eq_false',Bool.not_eq_true,Bool.not_eq_false,Bool.and_eq_true,Bool.or_eq_false_iff,and_assoc,decide_eq_true_eq,decide_eq_false_iff_not,Nat.not_lt,Nat.not_le,Int.ofNat_lt,Int.ofNat_le,Int.not_lt,Int.not_le] at h) <;> (try have g:=ne_of_beqI h) <;> (repeat (have h':=And.left h;replace h:=And.right h)) <;> (try (have hz0:=Eq.symm hn0;rw [List.drop_eq_nil_of_le h] at hz0;simp -implicitDefEqProofs at hz0)) <;> (try (have hz1:=Eq.symm hn1;rw [List.drop_eq_nil_of_le h] at hz1;simp -implicitDefEqProofs at hz1)) <;> (try (have hz3:=Eq.symm hn3;rw [List.drop_eq_nil_of_le h] at hz3;simp -implicitDefEqProofs at hz3)) <;> (try (have hz0:=Eq.symm hn0;rw [hst0.out] at hz0;rw [dif_neg (by first | exact Nat.not_lt.mpr h | omega)] at hz0)) <;> (try (have hz1:=Eq.symm hn1;rw [hst1.out] at hz1;rw [dif_neg (by first | exact Nat.not_lt.mpr h | omega)] at hz1)) <;> (try (have hz2:=Eq.symm hn2;rw [hst2.out] at hz2;rw [dif_neg (by first | exact Nat.not_lt.mpr h | omega)] at hz2)) <;> (try (have hz3:=Eq.symm hn3;rw [hst3.out] at hz3;rw [dif_neg (by first | exact Nat.not_lt.mpr h | omega)] at hz3))))
 all_goals first
  | rfl
  | (refine again_nx ny3 (by first | assumption | omega | (dsimp only;omega)) (by first | omega | (dsimp only;omega)) ?_ leS;dsimp only;(first | rw [List.drop_eq_getElem_cons (by assumption)] at hn3 | rw [hst3.out] at hn3);refine ⟨by omega,by first | trivial | omega | (simp -implicitDefEqProofs [*];done) | (simp -implicitDefEqProofs;omega),?_⟩;first | (simpa -implicitDefEqProofs [*] using hn3) | (rw [← hn3];clear hn3;simp -implicitDefEqProofs [*];done))
  | (refine again_nx ny2 (by first | assumption | omega | (dsimp only;omega)) (by first | omega | (dsimp only;omega)) ?_ leS;dsimp only;(first | rw [List.drop_eq_getElem_cons (by assumption)] at hn2 | rw [hst2.out] at hn2);refine ⟨by omega,by first | trivial | omega | (simp -implicitDefEqProofs [*];done) | (simp -implicitDefEqProofs;omega),?_⟩;first | (simpa -implicitDefEqProofs [*] using hn2) | (rw [← hn2];clear hn2;simp -implicitDefEqProofs [*];done))
  | (refine again_nx nz3 (by first | assumption | omega | (dsimp only;omega)) (by first | omega | (dsimp only;omega)) ?_ leS;dsimp only;(first | rw [List.drop_eq_getElem_cons (by assumption)] at hn3 | rw [hst3.out] at hn3);refine ⟨by omega,by first | trivial | omega | (simp -implicitDefEqProofs [*];done) | (simp -implicitDefEqProofs;omega),?_⟩;first | (simpa -implicitDefEqProofs [*] using hn3) | (rw [← hn3];clear hn3;simp -implicitDefEqProofs [*];done))
  | (refine again_nx nz2 (by first | assumption | omega | (dsimp only;omega)) (by first | omega | (dsimp only;omega)) ?_ leS;dsimp only;(first | rw [List.drop_eq_getElem_cons (by assumption)] at hn2 | rw [hst2.out] at hn2);refine ⟨by omega,by first | trivial | omega | (simp -implicitDefEqProofs [*];done) | (simp -implicitDefEqProofs;omega),?_⟩;first | (simpa -implicitDefEqProofs [*] using hn2) | (rw [← hn2];clear hn2;simp -implicitDefEqProofs [*];done))
  | (refine again_nx ny1 (by first | assumption | omega | (dsimp only;omega)) (by first | omega | (dsimp only;omega)) ?_ leS;dsimp only;(first | rw [List.drop_eq_getElem_cons (by assumption)] at hn1 | rw [hst1.out] at hn1);refine ⟨by omega,by first | trivial | omega | (simp -implicitDefEqProofs [*];done) | (simp -implicitDefEqProofs;omega),?_⟩;first | (simpa -implicitDefEqProofs [*] using hn1) | (rw [← hn1];clear hn1;simp -implicitDefEqProofs [*];done))
  | (refine again_nx nz1 (by first | assumption | omega | (dsimp only;omega)) (by first | omega | (dsimp only;omega)) ?_ leS;dsimp only;(first | rw [List.drop_eq_getElem_cons (by assumption)] at hn1 | rw [hst1.out] at hn1);refine ⟨by omega,by first | trivial | omega | (simp -implicitDefEqProofs [*];done) | (simp -implicitDefEqProofs;omega),?_⟩;first | (simpa -implicitDefEqProofs [*] using hn1) | (rw [← hn1];clear hn1;simp -implicitDefEqProofs [*];done))
  | (refine again_nx ny0 (by first | assumption | omega | (dsimp only;omega)) (by first | omega | (dsimp only;omega)) ?_ leS;dsimp only;(first | rw [List.drop_eq_getElem_cons (by assumption)] at hn0 | rw [hst0.out] at hn0);refine ⟨by omega,by first | trivial | omega | (simp -implicitDefEqProofs [*];done) | (simp -implicitDefEqProofs;omega),?_⟩;first | (simpa -implicitDefEqProofs [*] using hn0) | (rw [← hn0];clear hn0;simp -implicitDefEqProofs [*];done))
  | (refine again_nx nz0 (by first | assumption | omega | (dsimp only;omega)) (by first | omega | (dsimp only;omega)) ?_ leS;dsimp only;(first | rw [List.drop_eq_getElem_cons (by assumption)] at hn0 | rw [hst0.out] at hn0);refine ⟨by omega,by first | trivial | omega | (simp -implicitDefEqProofs [*];done) | (simp -implicitDefEqProofs;omega),?_⟩;first | (simpa -implicitDefEqProofs [*] using hn0) | (rw [← hn0];clear hn0;simp -implicitDefEqProofs [*];done))
  | (simp -implicitDefEqProofs [*];done)
  | ((first | rw [List.drop_eq_getElem_cons (by assumption)] at hn3 | rw [List.drop_eq_nil_of_le (by assumption)] at hn3 | rw [hst3.out] at hn3);rw [← hn3];first | rfl | (simp -implicitDefEqProofs [*];done))
  | ((first | rw [List.drop_eq_getElem_cons (by assumption)] at hn2 | rw [List.drop_eq_nil_of_le (by assumption)] at hn2 | rw [hst2.out] at hn2);rw [← hn2];first | rfl | (simp -implicitDefEqProofs [*];done))
  | ((first | rw [List.drop_eq_getElem_cons (by assumption)] at hn1 | rw [List.drop_eq_nil_of_le (by assumption)] at hn1 | rw [hst1.out] at hn1);rw [← hn1];first | rfl | (simp -implicitDefEqProofs [*];done))
  | ((first | rw [List.drop_eq_getElem_cons (by assumption)] at hn0 | rw [List.drop_eq_nil_of_le (by assumption)] at hn0 | rw [hst0.out] at hn0);rw [← hn0];first | rfl | (simp -implicitDefEqProofs [*];done))
  | ((first | rw [List.drop_eq_getElem_cons (by assumption)] at hn3 | rw [List.drop_eq_nil_of_le (by assumption)] at hn3 | rw [hst3.out] at hn3);(try simp -implicitDefEqProofs [*] at hn3);(try simp -implicitDefEqProofs);grind)
  | ((first | rw [List.drop_eq_getElem_cons (by assumption)] at hn2 | rw [List.drop_eq_nil_of_le (by assumption)] at hn2 | rw [hst2.out] at hn2);(try simp -implicitDefEqProofs [*] at hn2);(try simp -implicitDefEqProofs);grind)
  | ((first | rw [List.drop_eq_getElem_cons (by assumption)] at hn1 | rw [List.drop_eq_nil_of_le (by assumption)] at hn1 | rw [hst1.out] at hn1);(try simp -implicitDefEqProofs [*] at hn1);(try simp -implicitDefEqProofs);grind)
  | ((first | rw [List.drop_eq_getElem_cons (by assumption)] at hn0 | rw [List.drop_eq_nil_of_le (by assumption)] at hn0 | rw [hst0.out] at hn0);(try simp -implicitDefEqProofs [*] at hn0);(try simp -implicitDefEqProofs);grind)
  | (rcases Nx.em ny3 with hq | hq <;> (try simp only [Nat.not_lt] at hq) <;> (first | (rw [List.drop_eq_getElem_cons hq] at hn3;rw [← hn3];(try simp [hq] at h);first | (simp -implicitDefEqProofs [*];done) | (simp -implicitDefEqProofs;grind) | grind) | (rw [List.drop_eq_nil_of_le hq] at hn3;rw [← hn3];first | rfl | (simp -implicitDefEqProofs [*];done) | (simp -implicitDefEqProofs;grind) | grind) | (rw [hst3.out] at hn3;rw [← hn3];(try simp [hq] at h);first | rfl | (simp -implicitDefEqProofs [*];done) | (simp -implicitDefEqProofs [*];grind) | grind)))
  | (rcases Nx.em ny2 with hq | hq <;> (try simp only [Nat.not_lt] at hq) <;> (first | (rw [List.drop_eq_getElem_cons hq] at hn2;rw [← hn2];(try simp [hq] at h);first | (simp -implicitDefEqProofs [*];done) | (simp -implicitDefEqProofs;grind) | grind) | (rw [List.drop_eq_nil_of_le hq] at hn2;rw [← hn2];first | rfl | (simp -implicitDefEqProofs [*];done) | (simp -implicitDefEqProofs;grind) | grind) | (rw [hst2.out] at hn2;rw [← hn2];(try simp [hq] at h);first | rfl | (simp -implicitDefEqProofs [*];done) | (simp -implicitDefEqProofs [*];grind) | grind)))
  | (rcases Nx.em ny1 with hq | hq <;> (try simp only [Nat.not_lt] at hq) <;> (first | (rw [List.drop_eq_getElem_cons hq] at hn1;rw [← hn1];(try simp [hq] at h);first | (simp -implicitDefEqProofs [*];done) | (simp -implicitDefEqProofs;grind) | grind) | (rw [List.drop_eq_nil_of_le hq] at hn1;rw [← hn1];first | rfl | (simp -implicitDefEqProofs [*];done) | (simp -implicitDefEqProofs;grind) | grind) | (rw [hst1.out] at hn1;rw [← hn1];(try simp [hq] at h);first | rfl | (simp -implicitDefEqProofs [*];done) | (simp -implicitDefEqProofs [*];grind) | grind)))
  | (rcases Nx.em ny0 with hq | hq <;> (try simp only [Nat.not_lt] at hq) <;> (first | (rw [List.drop_eq_getElem_cons hq] at hn0;rw [← hn0];(try simp [hq] at h);first | (simp -implicitDefEqProofs [*];done) | (simp -implicitDefEqProofs;grind) | grind) | (rw [List.drop_eq_nil_of_le hq] at hn0;rw [← hn0];first | rfl | (simp -implicitDefEqProofs [*];done) | (simp -implicitDefEqProofs;grind) | grind) | (rw [hst0.out] at hn0;rw [← hn0];(try simp [hq] at h);first | rfl | (simp -implicitDefEqProofs [*];done) | (simp -implicitDefEqProofs [*];grind) | grind)))
  | (simp -implicitDefEqProofs [*];grind) | grind | (simp_all -implicitDefEqProofs;done)):wpA cfg base Tryz.prog c R S:=h
end
end Go.Proofs.YtgiedlcjlalpcaaGreat

namespace Go.Proofs.YtgiedlcjlalpcaaGreat
open Go.Abs
theorem leJ_intro {S T:St} (h:St.le [] S T):LeJ S T:=h
theorem wpA_joinR {base:Base} {c rest:Code} {R:Ex→St→Prop} {S:St} (J:St) (h1:wpA cfg base Tryz.prog c (thenR (fun S'=>LeJ S' J) R) S) (h2:wpA cfg base Tryz.prog rest R J):wpA cfg base Tryz.prog c (thenR (wpA cfg base Tryz.prog rest R) R) S:=by
 refine wpA_mono h1 ?_
 intro e S' h
 cases e with
 | normal=>exact wpA_le [] _ h h2
 | ret=>exact h
 | exit n=>exact h
end Go.Proofs.YtgiedlcjlalpcaaGreat
