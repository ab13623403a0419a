/- Part of a proof: Local Draw Weak. -/
import Derived.Orders
import Derived.Test.YtgiedlcjlalpcaaGreatPb03
set_option linter.all false
namespace Go.Abs
open Go.RowKit
mutual
def V.names:V→List Nat
 | .ref nm _=>[nm]
 | .own nm _=>[nm]
 | .elem nm _ _ _=>[nm]
 | .mp nm=>[nm]
 | .fn _ a b=>V.namesL a ++ V.namesL b
 | .agg cs=>V.namesL cs
 | .tup cs=>V.namesL cs
 | _=>[]
def V.namesL:List V→List Nat
 | []=>[]
 | v :: r=>v.names ++ V.namesL r
end
theorem mem_namesL {v:V} {l:List V} (h:v ∈ l) {n:Nat} (hn:n ∈ v.names):n ∈ V.namesL l:=by
 induction l with
 | nil=>cases h
 | cons x r ih=>
  simp only [V.namesL,List.mem_append]
  cases h with
  | head=>exact .inl hn
  | tail _ h=>exact .inr (ih h)
structure Alike (ns:List Nat) (b b' c c':Blks):Prop where
 on:∀ n,n ∈ ns→getB c' n=getB b' n
 off:∀ n,n ∉ ns→getB c' n=getB c n
 off':∀ n,n ∉ ns→getB b' n=getB b n
theorem Alike.refl {ns:List Nat} {b c:Blks} (h:∀ n,n ∈ ns→getB b n=getB c n):Alike ns b b c c:=⟨fun n hn=>(h n hn).symm,fun _ _=>rfl,fun _ _=>rfl⟩
theorem Alike.one {b c:Blks} (n:Nat) (x:Blk):Alike [n] b (setB b n x) c (setB c n x):=by
 refine ⟨fun m hm=>?_,fun m hm=>?_,fun m hm=>?_⟩
 ·simp at hm;subst hm;rw [getB_setB,getB_setB];simp
 ·simp at hm;rw [getB_setB,if_neg hm]
 ·simp at hm;rw [getB_setB,if_neg hm]
theorem Alike.trans {ns ms:List Nat} {b b' b'' c c' c'':Blks} (h:Alike ns b b' c c') (k:Alike ms b' b'' c' c''):Alike (ns ++ ms) b b'' c c'':=by
 refine ⟨fun n hn=>?_,fun n hn=>?_,fun n hn=>?_⟩
 ·by_cases hm:n ∈ ms
  ·exact k.on n hm
  ·rw [k.off n hm,k.off' n hm]
   rcases List.mem_append.1 hn with h' | h'
   ·exact h.on n h'
   ·exact (hm h').elim
 ·simp only [List.mem_append,not_or] at hn
  rw [k.off n hn.2,h.off n hn.1]
 ·simp only [List.mem_append,not_or] at hn
  rw [k.off' n hn.2,h.off' n hn.1]
theorem Alike.agree {ns:List Nat} {b b' c c':Blks} (h:Alike ns b b' c c') {n:Nat} (hn:getB b n=getB c n):getB b' n=getB c' n:=by
 by_cases hm:n ∈ ns
 ·exact (h.on n hm).symm
 ·rw [h.off n hm,h.off' n hm,hn]
mutual
theorem toP_local (v:V):∀ {b c b':Blks} {p:P},(∀ n,n ∈ v.names→getB b n=getB c n)→toP b v=some (p,b')→∃ c',toP c v=some (p,c')∧Alike v.names b b' c c':=by
 intro b c b' p hn h
 match v with
 | .p x=>simp only [toP,Option.some.injEq,Prod.mk.injEq] at h ⊢;obtain ⟨rfl,rfl⟩:=h;exact ⟨c,⟨rfl,rfl⟩,Alike.refl hn⟩
 | .nils=>simp only [toP,Option.some.injEq,Prod.mk.injEq] at h ⊢;obtain ⟨rfl,rfl⟩:=h;exact ⟨c,⟨rfl,rfl⟩,Alike.refl hn⟩
 | .own nm len=>
  have e:=hn nm (by simp [V.names])
  simp only [toP] at h ⊢
  rw [← e]
  split at h
  ·rename_i sz es sh hb
   split at h
   ·rename_i hl
    simp only [Option.some.injEq,Prod.mk.injEq] at h
    obtain ⟨rfl,rfl⟩:=h
    exact ⟨_,by simp [hb,hl],Alike.one nm _⟩
   ·cases h
  ·cases h
 | .mp nm=>
  have e:=hn nm (by simp [V.names])
  simp only [toP] at h ⊢
  rw [← e]
  split at h
  ·rename_i ks vs hb
   simp only [Option.some.injEq,Prod.mk.injEq] at h
   obtain ⟨rfl,rfl⟩:=h
   exact ⟨_,by simp [hb],Alike.one nm _⟩
  ·rename_i ks vs hb
   split at h
   ·rename_i ps hps
    simp only [Option.some.injEq,Prod.mk.injEq] at h
    obtain ⟨rfl,rfl⟩:=h
    exact ⟨_,by simp [hb,hps],Alike.one nm _⟩
   ·cases h
  ·cases h
 | .ref nm off=>
  have e:=hn nm (by simp [V.names])
  simp only [toP] at h ⊢
  rw [← e]
  split at h
  ·rename_i cs hb
   split at h
   ·rename_i ps hps
    simp only [Option.some.injEq,Prod.mk.injEq] at h
    obtain ⟨rfl,rfl⟩:=h
    exact ⟨_,by simp [hb,hps],Alike.one nm _⟩
   ·cases h
  ·rename_i ps hb
   simp only [Option.some.injEq,Prod.mk.injEq] at h
   obtain ⟨rfl,rfl⟩:=h
   exact ⟨c,by simp [hb],Alike.refl hn⟩
  ·cases h
 | .agg cs=>
  simp only [toP] at h ⊢
  split at h
  ·rename_i ps b₁ hps
   simp only [Option.some.injEq,Prod.mk.injEq] at h
   obtain ⟨rfl,rfl⟩:=h
   obtain ⟨c',h1,h2⟩:=toPs_local cs (fun n h=>hn n (by simpa [V.names] using h)) hps
   exact ⟨c',by simp [h1],by simpa [V.names] using h2⟩
  ·cases h
 | .fn f first cap=>
  simp only [toP] at h ⊢
  split at h
  ·rename_i ps b₁ hps
   split at h
   ·rename_i qs b₂ hqs
    simp only [Option.some.injEq,Prod.mk.injEq] at h
    obtain ⟨rfl,rfl⟩:=h
    obtain ⟨c₁,h1,h2⟩:=toPs_local first (fun n h=>hn n (by simp [V.names,h])) hps
    obtain ⟨c₂,g1,g2⟩:=toPs_local cap (fun n h=>h2.agree (hn n (by simp [V.names,h]))) hqs
    exact ⟨c₂,by simp [h1,g1],by simpa [V.names] using h2.trans g2⟩
   ·cases h
  ·cases h
 | .any=>simp [toP] at h
 | .elem ..=>simp [toP] at h
 | .tup _=>simp [toP] at h
theorem toPs_local (vs:List V):∀ {b c b':Blks} {ps:List P},(∀ n,n ∈ V.namesL vs→getB b n=getB c n)→toPs b vs=some (ps,b')→∃ c',toPs c vs=some (ps,c')∧Alike (V.namesL vs) b b' c c':=by
 intro b c b' ps hn h
 match vs with
 | []=>simp only [toPs,Option.some.injEq,Prod.mk.injEq] at h ⊢;obtain ⟨rfl,rfl⟩:=h;exact ⟨c,⟨rfl,rfl⟩,Alike.refl hn⟩
 | v :: r=>
  simp only [toPs] at h ⊢
  split at h
  ·rename_i x b₁ hx
   split at h
   ·rename_i xs b₂ hxs
    simp only [Option.some.injEq,Prod.mk.injEq] at h
    obtain ⟨rfl,rfl⟩:=h
    obtain ⟨c₁,h1,h2⟩:=toP_local v (fun n h=>hn n (by simp [V.namesL,h])) hx
    obtain ⟨c₂,g1,g2⟩:=toPs_local r (fun n h=>h2.agree (hn n (by simp [V.namesL,h]))) hxs
    exact ⟨c₂,by simp [h1,g1],by simpa [V.namesL] using h2.trans g2⟩
   ·cases h
  ·cases h
end
theorem partsToP_local:∀ (xs:List (Nat × V)) {b c b':Blks} {k:Nat} {ps:List P},(∀ n,n ∈ V.namesL (xs.map (·.2))→getB b n=getB c n)→partsToP b k xs=some (ps,b')→∃ c',partsToP c k xs=some (ps,c')∧Alike (V.namesL (xs.map (·.2))) b b' c c'
 | [],b,c,b',k,ps,hn,h=>by simp only [partsToP,Option.some.injEq,Prod.mk.injEq] at h ⊢;obtain ⟨rfl,rfl⟩:=h;exact ⟨c,⟨rfl,rfl⟩,Alike.refl hn⟩
 | (j,v) :: r,b,c,b',k,ps,hn,h=>by
  simp only [partsToP] at h ⊢
  split at h
  ·rename_i hk
   rw [if_pos hk]
   split at h
   ·rename_i x b₁ hx
    split at h
    ·rename_i xs b₂ hxs
     simp only [Option.some.injEq,Prod.mk.injEq] at h
     obtain ⟨rfl,rfl⟩:=h
     obtain ⟨c₁,h1,h2⟩:=toP_local v (fun n h=>hn n (by simp [V.namesL,h])) hx
     obtain ⟨c₂,g1,g2⟩:=partsToP_local r (fun n h=>h2.agree (hn n (by simp [V.namesL,h]))) hxs
     exact ⟨c₂,by simp [h1,g1],by simpa [V.namesL] using h2.trans g2⟩
    ·cases h
   ·cases h
  ·cases h
structure Foot where
 rt:List Nat
 wt:List Nat
 rb:List Nat
 wb:List Nat
inductive FK where
 | none | read | write | fresh | writeFresh | store
def footKind:Op→FK
 | .load .. | .fieldAddr .. | .indexAddr ..=>.read
 | .store ..=>.store
 | .slice ..=>.write
 | .alloc .. | .box ..=>.fresh
 | .buildSlice ..=>.writeFresh
 | .call { callee:=.builtin .len,.. }=>.read
 | .call { callee:=.builtin .append,.. }=>.writeFresh
 | .call { callee:=.builtin _,.. }=>.none
 | .call _=>.write
 | _=>.none
def touches (t:List V) (op:Op):List Nat:=V.namesL (op.operands.toList.map (opnd t))
def footOf (ops:Array Oper) (o:Oper) (t:List V):Foot:=
 let rt:=o.looksAt ops
 let wt:=o.dst.toList
 match footKind o.op with
 | .none=>⟨rt,wt,[],[]⟩
 | .read=>⟨rt,wt,touches t o.op,[]⟩
 | .write=>⟨rt,wt,[],touches t o.op⟩
 | .fresh=>⟨rt,wt,[],[o.dst.getD 0]⟩
 | .writeFresh=>⟨rt,wt,[],o.dst.getD 0 :: touches t o.op⟩
 | .store=>⟨rt,wt,[],touches t o.op⟩
def agB (S T:St) (n:Nat):Prop:=getB S.b n=getB T.b n∧(n ∈ S.u ↔ n ∈ T.u)
structure Same (ws:List Nat) (S T:St) (b':Blks) (u':List Nat) (c':Blks) (x':List Nat):Prop where
 blk:Alike ws S.b b' T.b c'
 on:∀ n,n ∈ ws→(n ∈ x' ↔ n ∈ u')
 off:∀ n,n ∉ ws→(n ∈ x' ↔ n ∈ T.u)
 off':∀ n,n ∉ ws→(n ∈ u' ↔ n ∈ S.u)
theorem Same.still {S T:St}:Same [] S T S.b S.u T.b T.u:=⟨Alike.refl (fun n h=>(List.not_mem_nil h).elim),fun n h=>(List.not_mem_nil h).elim,fun _ _=>Iff.rfl,fun _ _=>Iff.rfl⟩
theorem Same.blks {ws:List Nat} {S T:St} {b' c':Blks} (hb:Alike ws S.b b' T.b c') (hu:∀ n,n ∈ ws→(n ∈ S.u ↔ n ∈ T.u)):Same ws S T b' S.u c' T.u:=⟨hb,fun n h=>(hu n h).symm,fun _ _=>Iff.rfl,fun _ _=>Iff.rfl⟩
theorem Same.fresh {ws:List Nat} {d:Nat} (hd:d ∈ ws) {S T:St} {b' c':Blks} (hb:Alike ws S.b b' T.b c') (hu:∀ n,n ∈ ws→(n ∈ S.u ↔ n ∈ T.u)):Same ws S T b' (d :: S.u) c' (d :: T.u):=by
 refine ⟨hb,fun n h=>?_,fun n h=>?_,fun n h=>?_⟩
 ·simp [hu n h]
 ·have:n ≠ d:=fun e=>h (e ▸ hd)
  simp [this]
 ·have:n ≠ d:=fun e=>h (e ▸ hd)
  simp [this]
theorem Alike.mono {ns ms:List Nat} {b b' c c':Blks} (h:Alike ns b b' c c') (hs:∀ n,n ∈ ns→n ∈ ms) (hm:∀ n,n ∈ ms→getB b n=getB c n):Alike ms b b' c c':=
 ⟨fun n hn=>(h.agree (hm n hn)).symm,fun n hn=>h.off n fun h'=>hn (hs n h'),fun n hn=>h.off' n fun h'=>hn (hs n h')⟩
section
variable {cfg:Cfg} {ops:Array Oper} {o:Oper} {S T:St} {r:V × Blks × List Nat}
def LocalOp (cfg:Cfg) (ops:Array Oper) (o:Oper) (S T:St) (r:V × Blks × List Nat):Prop:=
 ∃ c' x',evalOp cfg (o.dst.getD 0) o.op T=some (r.1,c',x')∧Same (footOf ops o S.t).wb S T r.2.1 r.2.2 c' x'
theorem local_none (ht:∀ x ∈ o.op.operands,opnd T.t x=opnd S.t x) (hk:footKind o.op = .none) (he:evalOp cfg (o.dst.getD 0) o.op S=some r):LocalOp cfg ops o S T r:=by
 have hw:(footOf ops o S.t).wb=[]:=by simp [footOf,hk]
 unfold LocalOp
 rw [hw]
 obtain ⟨dst,op,ty,pos,after,guard⟩:=o
 simp only at ht hk he ⊢
 have key:∀ v,(v,S.b,S.u)=r→evalOp cfg (dst.getD 0) op T=some (v,T.b,T.u)→∃ c' x',evalOp cfg (dst.getD 0) op T=some (r.1,c',x')∧Same [] S T r.2.1 r.2.2 c' x':=by
  intro v h1 h2
  subst h1
  exact ⟨T.b,T.u,h2,Same.still⟩
 cases op with
 | move x=>
  have e:=ht x (by simp [Op.operands])
  exact key (opnd S.t x) (Option.some.inj he) (by simp only [evalOp,e])
 | assign x=>
  have e:=ht x (by simp [Op.operands])
  exact key (opnd S.t x) (Option.some.inj he) (by simp only [evalOp,e])
 | pick c x y=>
  have e1:=ht c (by simp [Op.operands])
  have e2:=ht x (by simp [Op.operands])
  have e3:=ht y (by simp [Op.operands])
  have he':=he
  simp only [evalOp] at he'
  split at he'
  ·rename_i q hq
   exact key _ (Option.some.inj he') (by simp only [evalOp,e1,e2,e3,hq])
  ·cases he'
 | build t parts=>
  have he':=he
  simp only [evalOp] at he'
  split at he'
  ·rename_i fs s b z q hi
   split at he'
   ·rename_i hall
    simp only [Option.bind_eq_some_iff,Option.some.injEq] at he'
    obtain ⟨cs,hcs,hr⟩:=he'
    have e:(parts.toList.map fun (p:Nat × Operand)=>(p.1,opnd T.t p.2))=parts.toList.map fun (p:Nat × Operand)=>(p.1,opnd S.t p.2):=List.map_congr_left fun p hp=>by
     rw [ht p.2 (by simp only [Op.operands];exact List.mem_toArray.2 (List.mem_map.2 ⟨p,hp,rfl⟩))]
    exact key (mkAgg cs) hr (by simp only [evalOp,hi,e];rw [if_pos hall];simp only [hcs,Option.bind_some])
   ·cases he'
  ·rename_i n q s b z eqs hi
   split at he'
   ·rename_i ie hie
    simp only [Option.bind_eq_some_iff,Option.some.injEq] at he'
    obtain ⟨cs,hcs,hr⟩:=he'
    have e:(parts.toList.map fun (p:Nat × Operand)=>(p.1,opnd T.t p.2))=parts.toList.map fun (p:Nat × Operand)=>(p.1,opnd S.t p.2):=List.map_congr_left fun p hp=>by
     rw [ht p.2 (by simp only [Op.operands];exact List.mem_toArray.2 (List.mem_map.2 ⟨p,hp,rfl⟩))]
    exact key (mkAgg cs) hr (by simp only [evalOp,hi,hie,e,hcs,Option.bind_some])
   ·cases he'
  ·cases he'
 | nilCheck x=>
  have e:=ht x (by simp [Op.operands])
  have he':=he
  simp only [evalOp] at he'
  split at he' <;> (try (cases he';done))
  all_goals
   rename_i hq
   exact key _ (Option.some.inj he') (by simp only [evalOp,e,hq])
 | binOp q t x y t'=>
  have e1:=ht x (by simp [Op.operands])
  have e2:=ht y (by simp [Op.operands])
  have he':=he
  simp only [evalOp,Option.bind_eq_some_iff,Option.some.injEq] at he'
  obtain ⟨v,hv,hr⟩:=he'
  exact key v hr (by simp only [evalOp,e1,e2,hv,Option.bind_some])
 | unOp q t x=>
  have e:=ht x (by simp [Op.operands])
  have he':=he
  simp only [evalOp] at he'
  split at he' <;> (try (cases he';done))
  all_goals
   rename_i hq
   exact key _ (Option.some.inj he') (by simp only [evalOp,e,hq])
 | convert s t x=>
  have e:=ht x (by simp [Op.operands])
  have he':=he
  simp only [evalOp] at he'
  split at he' <;> (try (cases he';done))
  ·rename_i h1 h2 h3
   exact key _ (Option.some.inj he') (by simp only [evalOp,e,h1,h2,h3])
  ·rename_i h1 h2 h3
   exact key _ (Option.some.inj he') (by simp only [evalOp,e,h1,h2,h3])
 | makeFunc f x y=>
  have e1:x.toList.map (opnd T.t)=x.toList.map (opnd S.t):=List.map_congr_left fun z hz=>ht z (by simp only [Op.operands];exact Array.mem_append.2 (.inl (Array.mem_toList_iff.1 hz)))
  have e2:y.toList.map (opnd T.t)=y.toList.map (opnd S.t):=List.map_congr_left fun z hz=>ht z (by simp only [Op.operands];exact Array.mem_append.2 (.inr (Array.mem_toList_iff.1 hz)))
  exact key _ (Option.some.inj he) (by simp only [evalOp,e1,e2])
 | field t x f=>
  have e:=ht x (by simp [Op.operands])
  have he':=he
  simp only [evalOp] at he'
  split at he'
  ·rename_i h0
   split at he'
   ·rename_i h1
    split at he' <;> (try (cases he';done))
    all_goals
     rename_i h2 h3
     simp only [Option.bind_eq_some_iff,Option.some.injEq] at he'
     obtain ⟨v,hv,hr⟩:=he'
     exact key v hr (by simp only [evalOp,e,h0,h1,h2,h3,hv,Option.bind_some])
   ·cases he'
  ·cases he'
 | index t x y=>
  have e1:=ht x (by simp [Op.operands])
  have e2:=ht y (by simp [Op.operands])
  have he':=he
  simp only [evalOp] at he'
  split at he'
  ·rename_i h1 h2 h3
   split at he'
   ·rename_i h4
    exact key _ (Option.some.inj he') (by simp only [evalOp,e1,e2,h1,h2,h3,h4])
   ·cases he'
  ·cases he'
 | extract x i=>
  have e:=ht x (by simp [Op.operands])
  have he':=he
  simp only [evalOp] at he'
  split at he'
  ·rename_i h1
   simp only [Option.bind_eq_some_iff,Option.some.injEq] at he'
   obtain ⟨v,hv,hr⟩:=he'
   exact key v hr (by simp only [evalOp,e,h1,hv,Option.bind_some])
  ·cases he'
 | call c=>
  obtain ⟨callee,args,ts⟩:=c
  cases callee with
  | builtin q=>
   have e:args.toList.map (opnd T.t)=args.toList.map (opnd S.t):=List.map_congr_left fun z hz=>ht z (by simp only [Op.operands,Call.operands];exact Array.mem_append.2 (.inr (Array.mem_toList_iff.1 hz)))
   have he':=he
   simp only [evalOp] at he'
   split at he' <;> (try (simp [footKind] at hk;done)) <;> (try (cases he';done))
   all_goals
    rename_i h1
    exact key _ (Option.some.inj he') (by simp only [evalOp,e,h1])
  | value f=>simp [evalOp] at he
  | invoke x m=>simp [evalOp] at he
 | _=>first | (simp [evalOp] at he;done) | (simp [footKind] at hk;done)
theorem touch_mem {t:List V} {op:Op} {x:Operand} (hx:x ∈ op.operands) {n:Nat} (hn:n ∈ (opnd t x).names):n ∈ touches t op:=
 mem_namesL (List.mem_map.2 ⟨x,Array.mem_toList_iff.2 hx,rfl⟩) hn
theorem local_load {t:TypeId} {x:Operand} {d:Nat} (e:opnd T.t x=opnd S.t x) (hn:∀ n,n ∈ (opnd S.t x).names→getB S.b n=getB T.b n) (he:evalOp cfg d (.load t x) S=some r):r.2=(S.b,S.u)∧evalOp cfg d (.load t x) T=some (r.1,T.b,T.u):=by
 simp only [evalOp] at he ⊢
 rw [e]
 split at he
 ·rename_i i hi
  split at he
  ·rename_i nm off hx
   have g:=hn nm (by rw [hx];simp [V.names])
   try rw [hx]
   try simp only
   try rw [← g]
   split at he
   ·rename_i hb
    simp only [Option.bind_eq_some_iff,Option.some.injEq] at he
    obtain ⟨v,hv,rfl⟩:=he
    exact ⟨rfl,by first | rfl | (simp only [hb,hv,Option.bind_some]) | simp_all⟩
   ·rename_i hb
    simp only [Option.bind_eq_some_iff,Option.some.injEq] at he
    obtain ⟨v,hv,rfl⟩:=he
    exact ⟨rfl,by first | rfl | (simp only [hb,hv,Option.bind_some]) | simp_all⟩
   ·cases he
  ·rename_i nm len k j hx
   have g:=hn nm (by rw [hx];simp [V.names])
   try rw [hx]
   try simp only
   try rw [← g]
   split at he
   ·rename_i hb
    split at he
    ·rename_i hl
     split at he
     ·rename_i hy
      simp only [Option.bind_eq_some_iff,Option.some.injEq] at he
      obtain ⟨v,hv,rfl⟩:=he
      exact ⟨rfl,by first | rfl | (simp only [hb];rw [if_pos hl];simp only [hy,hv,Option.bind_some]) | simp_all⟩
     ·cases he
    ·cases he
   ·cases he
  ·rename_i hx
   try rw [hx]
   simp only [Option.bind_eq_some_iff,Option.some.injEq] at he
   obtain ⟨v,hv,rfl⟩:=he
   exact ⟨rfl,by first | rfl | (simp only [hv,Option.bind_some]) | simp_all⟩
  ·rename_i hx
   try rw [hx]
   simp only [Option.bind_eq_some_iff,Option.some.injEq] at he
   obtain ⟨v,hv,rfl⟩:=he
   exact ⟨rfl,by first | rfl | (simp only [hv,Option.bind_some]) | simp_all⟩
  ·cases he
 ·cases he
theorem local_read (ht:∀ x ∈ o.op.operands,opnd T.t x=opnd S.t x) (hk:footKind o.op = .read) (hB:∀ n,n ∈ touches S.t o.op→agB S T n) (he:evalOp cfg (o.dst.getD 0) o.op S=some r):LocalOp cfg ops o S T r:=by
 have hw:(footOf ops o S.t).wb=[]:=by simp [footOf,hk]
 unfold LocalOp
 rw [hw]
 obtain ⟨dst,op,ty,pos,after,guard⟩:=o
 simp only at ht hk he hB ⊢
 suffices h:r.2=(S.b,S.u)∧evalOp cfg (dst.getD 0) op T=some (r.1,T.b,T.u) by
  obtain ⟨v,b,u⟩:=r
  obtain ⟨h1,h2⟩:=h
  cases h1
  exact ⟨T.b,T.u,h2,Same.still⟩
 cases op with
 | load t x=>exact local_load (ht x (by simp [Op.operands])) (fun n hn=>(hB n (touch_mem (by simp [Op.operands]) hn)).1) he
 | fieldAddr t x f=>
  have e:=ht x (by simp [Op.operands])
  simp only [evalOp] at he ⊢
  rw [e]
  split at he
  ·rename_i h0
   split at he
   ·rename_i h1
    split at he
    ·cases he
    ·rename_i h2
     try simp only [h1]
     try rw [if_neg h2]
     split at he
     ·rename_i hx
      try rw [hx]
      cases he
      exact ⟨rfl,rfl⟩
     ·rename_i nm len i j hx
      have g:=(hB nm (touch_mem (x:=x) (by simp [Op.operands]) (by rw [hx];simp [V.names]))).1
      try rw [hx]
      try simp only
      try rw [← g]
      split at he
      ·rename_i hb
       split at he
       ·rename_i hl
        cases he
        exact ⟨rfl,by first | rfl | (simp only [hb];rw [if_pos hl]) | simp_all⟩
       ·cases he
      ·cases he
     ·rename_i hx
      try rw [hx]
      cases he
      exact ⟨rfl,rfl⟩
     ·rename_i hx
      try rw [hx]
      cases he
      exact ⟨rfl,rfl⟩
     ·cases he
   ·cases he
  ·cases he
 | indexAddr t x y=>
  have e:=ht x (by simp [Op.operands])
  have e':=ht y (by simp [Op.operands])
  simp only [evalOp] at he ⊢
  rw [e,e']
  split at he
  ·rename_i h0 h1
   try simp only [h0,h1]
   split at he
   ·rename_i h2
    try simp only [h2]
    split at he
    ·rename_i hx
     try rw [hx]
     try simp only
     split at he
     ·rename_i h3
      split at he
      ·rename_i h4
       cases he
       exact ⟨rfl,by first | rfl | (simp only [h3];rw [if_pos h4]) | simp_all⟩
      ·cases he
     ·cases he
    ·rename_i nm len hx
     have g:=(hB nm (touch_mem (x:=x) (by simp [Op.operands]) (by rw [hx];simp [V.names]))).1
     try rw [hx]
     try simp only
     try rw [← g]
     split at he
     ·rename_i hb
      split at he
      ·rename_i hl
       cases he
       exact ⟨rfl,by first | rfl | (simp only [hb];rw [if_pos hl]) | simp_all⟩
      ·cases he
     ·cases he
    ·cases he
   ·cases he
  ·rename_i h0 h1
   try simp only [h0,h1]
   split at he
   ·rename_i h2
    try simp only [h2]
    split at he
    ·rename_i hx
     try rw [hx]
     try simp only
     split at he
     ·rename_i h3
      cases he
      exact ⟨rfl,by first | rfl | (rw [if_pos h3]) | simp_all⟩
     ·cases he
    ·cases he
   ·cases he
  ·cases he
 | call c=>
  obtain ⟨callee,args,ts⟩:=c
  cases callee with
  | builtin q=>
   have e:args.toList.map (opnd T.t)=args.toList.map (opnd S.t):=List.map_congr_left fun z hz=>ht z (by simp only [Op.operands,Call.operands];exact Array.mem_append.2 (.inr (Array.mem_toList_iff.1 hz)))
   simp only [evalOp] at he ⊢
   rw [e]
   split at he <;> (try (simp [footKind] at hk;done)) <;> (try (cases he;done))
   rename_i v t h1 h2
   try rw [h1,h2]
   try simp only
   split at he
   ·rename_i h3
    cases he
    exact ⟨rfl,by first | rfl | (simp only [h3]) | simp_all⟩
   ·rename_i h3
    cases he
    exact ⟨rfl,by first | rfl | (simp only [h3]) | simp_all⟩
   ·rename_i nm len h3
    obtain ⟨z,hz,hz'⟩:=map_one h1
    have g:=(hB nm (mem_namesL (v:=.own nm len) (List.mem_map.2 ⟨z,by simp [Op.operands,Call.operands,hz],hz'⟩) (by simp [V.names]))).1
    try simp only [h3]
    try rw [← g]
    split at he
    ·rename_i hb
     split at he
     ·rename_i hl
      cases he
      exact ⟨rfl,by first | rfl | (simp only [hb];rw [if_pos hl]) | simp_all⟩
     ·cases he
    ·cases he
   ·rename_i h3
    cases he
    exact ⟨rfl,by first | rfl | (simp only [h3]) | simp_all⟩
   ·cases he
  | value f=>simp [evalOp] at he
  | invoke x m=>simp [evalOp] at he
 | _=>first | (simp [evalOp] at he;done) | (simp [footKind] at hk;done)
def wbOf (fk:FK) (ts:List Nat) (d:Nat):List Nat:=
 match fk with
 | .write | .store=>ts
 | .fresh=>[d]
 | .writeFresh=>d :: ts
 | _=>[]
theorem wb_eq (fk:FK) (h:footKind o.op=fk):(footOf ops o S.t).wb=wbOf fk (touches S.t o.op) (o.dst.getD 0):=by
 subst h
 unfold footOf wbOf
 cases footKind o.op <;> rfl
theorem local_fresh (ht:∀ x ∈ o.op.operands,opnd T.t x=opnd S.t x) (hk:footKind o.op = .fresh) (hB:agB S T (o.dst.getD 0)) (he:evalOp cfg (o.dst.getD 0) o.op S=some r):LocalOp cfg ops o S T r:=by
 unfold LocalOp
 rw [wb_eq _ hk]
 simp only [wbOf]
 obtain ⟨dst,op,ty,pos,after,guard⟩:=o
 simp only at ht hk he hB ⊢
 have hd:¬ dst.getD 0 ∈ S.u→¬ dst.getD 0 ∈ T.u:=fun h h'=>h (hB.2.2 h')
 have fin:∀ k,Same [dst.getD 0] S T (setB S.b (dst.getD 0) k) (dst.getD 0 :: S.u) (setB T.b (dst.getD 0) k) (dst.getD 0 :: T.u):=fun k=>
  Same.fresh (d:=dst.getD 0) (by simp) (Alike.one _ k) (fun n hn=>by simp at hn;subst hn;exact hB.2)
 cases op with
 | alloc t=>
  simp only [evalOp] at he ⊢
  split at he
  ·rename_i i hi
   split at he
   ·cases he
   ·rename_i h1
    cases he
    exact ⟨_,_,by rw [if_neg (hd h1)],fin _⟩
  ·cases he
 | box t x=>
  have e:=ht x (by simp [Op.operands])
  simp only [evalOp] at he ⊢
  rw [e]
  split at he
  ·rename_i cs hcs
   split at he
   ·cases he
   ·rename_i h1
    cases he
    exact ⟨_,_,by rw [if_neg (hd h1)],fin _⟩
  ·cases he
 | call c=>
  obtain ⟨callee,args,ts⟩:=c
  cases callee with
  | builtin q=>cases q <;> simp [footKind] at hk
  | value f=>simp [evalOp] at he
  | invoke x m=>simp [evalOp] at he
 | _=>first | (simp [evalOp] at he;done) | (simp [footKind] at hk;done)
theorem local_store (ht:∀ x ∈ o.op.operands,opnd T.t x=opnd S.t x) (hk:footKind o.op = .store) (hB:∀ n,n ∈ touches S.t o.op→agB S T n) (he:evalOp cfg (o.dst.getD 0) o.op S=some r):LocalOp cfg ops o S T r:=by
 unfold LocalOp
 rw [wb_eq _ hk]
 simp only [wbOf]
 obtain ⟨dst,op,ty,pos,after,guard⟩:=o
 simp only at ht hk he hB ⊢
 cases op with
 | store t x y=>
  have e1:=ht x (by simp [Op.operands])
  have e2:=ht y (by simp [Op.operands])
  simp only [evalOp] at he ⊢
  rw [e1,e2]
  split at he
  ·rename_i i hi
   split at he
   ·rename_i nm off vs hx hy
    have hm:nm ∈ touches S.t (.store t x y):=touch_mem (x:=x) (by simp [Op.operands]) (by rw [hx];simp [V.names])
    have g:=(hB nm hm).1
    try rw [hx,hy]
    try simp only
    try rw [← g]
    split at he
    ·rename_i hb
     split at he
     ·rename_i hc
      cases he
      refine ⟨_,_,by first | (rw [if_pos hc]) | (simp only [hb];rw [if_pos hc]),?_⟩
      exact Same.blks ((Alike.one nm _).mono (fun n hn=>by simp at hn;subst hn;exact hm) (fun n hn=>(hB n hn).1)) (fun n hn=>(hB n hn).2)
     ·cases he
    ·cases he
   ·cases he
  ·cases he
 | call c=>
  obtain ⟨callee,args,ts⟩:=c
  cases callee with
  | builtin q=>cases q <;> simp [footKind] at hk
  | value f=>simp [evalOp] at he
  | invoke x m=>simp [evalOp] at he
 | _=>first | (simp [evalOp] at he;done) | (simp [footKind] at hk;done)
theorem local_write (ht:∀ x ∈ o.op.operands,opnd T.t x=opnd S.t x) (hk:footKind o.op = .write) (hB:∀ n,n ∈ touches S.t o.op→agB S T n) (he:evalOp cfg (o.dst.getD 0) o.op S=some r):LocalOp cfg ops o S T r:=by
 unfold LocalOp
 rw [wb_eq _ hk]
 simp only [wbOf]
 obtain ⟨dst,op,ty,pos,after,guard⟩:=o
 simp only at ht hk he hB ⊢
 cases op with
 | slice t x lo hi mx=>
  cases mx with
  | some m=>simp [evalOp] at he
  | none=>
   have e1:=ht x (by simp [Op.operands])
   have hsub:∀ n,n ∈ (opnd S.t x).names→n ∈ touches S.t (.slice t x lo hi none):=fun n hn=>touch_mem (by simp [Op.operands]) hn
   have e2:∀ l,lo=some l→opnd T.t l=opnd S.t l:=fun l hl=>ht l (by simp [Op.operands,hl])
   have e3:∀ l,hi=some l→opnd T.t l=opnd S.t l:=fun l hl=>ht l (by simp [Op.operands,hl])
   rcases lo with _ | l <;> rcases hi with _ | h
   all_goals
    try have e4:=e2 _ rfl
    try have e5:=e3 _ rfl
    simp only [evalOp] at he ⊢
    rw [e1]
    try rw [e4]
    try simp only [e5]
    split at he
    ·rename_i hi0
     split at he
     ·rename_i h2 htp
      obtain ⟨c',k1,k2⟩:=toP_local (opnd S.t x) (c:=T.b) (fun n hn=>(hB n (hsub n hn)).1) htp
      have k3:=k2.mono (ms:=touches S.t _) hsub (fun n hn=>(hB n hn).1)
      (repeat' split at he) <;> first | (cases he;done) | (cases he;exact ⟨c',T.u,by simp_all,Same.blks k3 (fun n hn=>(hB n hn).2)⟩)
     ·cases he
    ·rename_i hi0 hx
     (repeat' split at he) <;> first | (cases he;done) | (cases he;exact ⟨T.b,T.u,by simp_all,Same.blks (Alike.refl fun n hn=>(hB n hn).1) (fun n hn=>(hB n hn).2)⟩)
    ·cases he
 | call c=>
  obtain ⟨callee,args,ts⟩:=c
  cases callee with
  | builtin q=>cases q <;> simp [footKind] at hk
  | value f=>simp [evalOp] at he
  | invoke x m=>simp [evalOp] at he
 | _=>first | (simp [evalOp] at he;done) | (simp [footKind] at hk;done)
theorem addedP_local {v:V} {b c b':Blks} {ys:List P} (hn:∀ n,n ∈ v.names→getB b n=getB c n) (h:addedP b v=some (ys,b')):b'=b∧addedP c v=some (ys,c):=by
 unfold addedP at h ⊢
 split at h
 ·cases h;exact ⟨rfl,rfl⟩
 ·cases h;exact ⟨rfl,rfl⟩
 ·rename_i nm len
  have g:=hn nm (by simp [V.names])
  try simp only
  rw [← g]
  split at h
  ·rename_i hb
   split at h
   ·rename_i hl
    cases h
    exact ⟨rfl,by first | (rw [if_pos hl]) | (simp only [hb];rw [if_pos hl]) | simp_all⟩
   ·cases h
  ·cases h
 ·cases h
theorem local_writeFresh (ht:∀ x ∈ o.op.operands,opnd T.t x=opnd S.t x) (hk:footKind o.op = .writeFresh) (hB:∀ n,n ∈ o.dst.getD 0 :: touches S.t o.op→agB S T n) (he:evalOp cfg (o.dst.getD 0) o.op S=some r):LocalOp cfg ops o S T r:=by
 unfold LocalOp
 rw [wb_eq _ hk]
 simp only [wbOf]
 obtain ⟨dst,op,ty,pos,after,guard⟩:=o
 simp only at ht hk he hB ⊢
 have hd:¬ dst.getD 0 ∈ S.u→¬ dst.getD 0 ∈ T.u:=fun h h'=>h ((hB _ (by simp)).2.2 h')
 cases op with
 | buildSlice t len parts=>
  have e:(parts.toList.map fun (p:Nat × Operand)=>(p.1,opnd T.t p.2))=parts.toList.map fun (p:Nat × Operand)=>(p.1,opnd S.t p.2):=List.map_congr_left fun p hp=>by
   rw [ht p.2 (by simp only [Op.operands];exact List.mem_toArray.2 (List.mem_map.2 ⟨p,hp,rfl⟩))]
  have hsub:∀ n,n ∈ V.namesL ((parts.toList.map fun (p:Nat × Operand)=>(p.1,opnd S.t p.2)).map (·.2))→n ∈ touches S.t (.buildSlice t len parts):=by
   intro n hn
   unfold touches
   simpa [Op.operands,List.map_map,Function.comp_def] using hn
  simp only [evalOp] at he ⊢
  rw [e]
  split at he
  ·rename_i hi
   split at he
   ·rename_i i hie
    split at he
    ·rename_i es b hps
     obtain ⟨c',k1,k2⟩:=partsToP_local _ (c:=T.b) (fun n hn=>(hB n (List.mem_cons_of_mem _ (hsub n hn))).1) hps
     split at he
     ·cases he
     ·rename_i h1
      split at he
      ·rename_i h2
       cases he
       refine ⟨setB c' (dst.getD 0) (.arr i.size es false),dst.getD 0 :: T.u,?_,?_⟩
       ·simp only [hie,k1]
        rw [if_neg (hd h1),if_pos h2]
       ·refine Same.fresh (d:=dst.getD 0) (by simp) ?_ (fun n hn=>(hB n hn).2)
        have:=k2.trans (Alike.one (b:=b) (c:=c') (dst.getD 0) (.arr i.size es false))
        exact this.mono (fun n hn=>by
         rcases List.mem_append.1 hn with h | h
         ·exact List.mem_cons_of_mem _ (hsub n h)
         ·simp at h;subst h;simp) (fun n hn=>(hB n hn).1)
      ·cases he
    ·cases he
   ·cases he
  ·cases he
 | call c=>
  obtain ⟨callee,args,ts⟩:=c
  cases callee with
  | builtin q=>
   have e:args.toList.map (opnd T.t)=args.toList.map (opnd S.t):=List.map_congr_left fun z hz=>ht z (by simp only [Op.operands,Call.operands];exact Array.mem_append.2 (.inr (Array.mem_toList_iff.1 hz)))
   simp only [evalOp] at he ⊢
   rw [e]
   split at he <;> (try (simp [footKind] at hk;done)) <;> (try (cases he;done))
   rename_i x y t t' h1 h2
   obtain ⟨z,z',hz,hz1,hz2⟩:=map_two h1
   have hx:∀ n,n ∈ x.names→n ∈ touches S.t (.call { callee:=.builtin .append,args:=args,argTypes:=ts }):=fun n hn=>mem_namesL (v:=x) (List.mem_map.2 ⟨z,by simp [Op.operands,Call.operands,hz],hz1⟩) hn
   have hy:∀ n,n ∈ y.names→n ∈ touches S.t (.call { callee:=.builtin .append,args:=args,argTypes:=ts }):=fun n hn=>mem_namesL (v:=y) (List.mem_map.2 ⟨z',by simp [Op.operands,Call.operands,hz],hz2⟩) hn
   try simp only [h1,h2]
   split at he
   ·rename_i hi'
    try simp only [hi']
    unfold appendV at he ⊢
    split at he
    ·rename_i hi
     try simp only [hi]
     split at he
     ·rename_i i hie
      try simp only [hie]
      split at he
      ·rename_i ys b hys
       obtain ⟨rfl,hys'⟩:=addedP_local (c:=T.b) (fun n hn=>(hB n (List.mem_cons_of_mem _ (hy n hn))).1) hys
       rw [hys']
       simp only
       split at he
       ·rename_i hok
        rw [if_pos hok]
        split at he
        ·split at he
         ·rename_i hroom
          split at he
          ·cases he
          ·rename_i h3
           cases he
           refine ⟨_,_,by rw [if_pos hroom,if_neg (hd h3)],Same.fresh (d:=dst.getD 0) (by simp) ((Alike.one (dst.getD 0) _).mono (fun n hn=>by simp at hn;subst hn;simp) (fun n hn=>(hB n hn).1)) (fun n hn=>(hB n hn).2)⟩
         ·cases he
        ·rename_i nm len
         have hnm:=hx nm (by simp [V.names])
         have g:=(hB nm (List.mem_cons_of_mem _ hnm)).1
         try simp only
         rw [← g]
         split at he
         ·rename_i hb
          split at he
          ·rename_i hc
           split at he
           ·rename_i hroom
            cases he
            refine ⟨_,_,by first | (rw [if_pos hc,if_pos hroom]) | (simp only [hb];rw [if_pos hc,if_pos hroom]),Same.blks ((Alike.one nm _).mono (fun n hn=>by simp at hn;subst hn;exact List.mem_cons_of_mem _ hnm) (fun n hn=>(hB n hn).1)) (fun n hn=>(hB n hn).2)⟩
           ·cases he
          ·cases he
         ·cases he
        ·cases he
       ·cases he
      ·cases he
     ·cases he
    ·cases he
   ·cases he
  | value f=>simp [evalOp] at he
  | invoke x m=>simp [evalOp] at he
 | _=>first | (simp [evalOp] at he;done) | (simp [footKind] at hk;done)
theorem evalOp_local (ht:∀ x ∈ o.op.operands,opnd T.t x=opnd S.t x) (hB:∀ n,n ∈ (footOf ops o S.t).rb ++ (footOf ops o S.t).wb→agB S T n) (he:evalOp cfg (o.dst.getD 0) o.op S=some r):LocalOp cfg ops o S T r:=by
 cases hk:footKind o.op with
 | none=>exact local_none ht hk he
 | read=>exact local_read ht hk (fun n hn=>hB n (by simp [footOf,hk,hn])) he
 | write=>exact local_write ht hk (fun n hn=>hB n (by simp [footOf,hk,hn])) he
 | fresh=>exact local_fresh ht hk (hB _ (by simp [footOf,hk])) he
 | writeFresh=>exact local_writeFresh ht hk (fun n hn=>hB n (by simpa [footOf,hk] using hn)) he
 | store=>exact local_store ht hk (fun n hn=>hB n (by simp [footOf,hk,hn])) he
theorem callRes_local {f:Operand} {args:Array Operand} {g:FuncId} {ps:List P} {b:Blks} {ts:Array TypeId} (ht:∀ x ∈ (Op.call { callee:=.value f,args:=args,argTypes:=ts }).operands,opnd T.t x=opnd S.t x)
  (hB:∀ n,n ∈ touches S.t (.call { callee:=.value f,args:=args,argTypes:=ts })→agB S T n) (he:callRes S f args=some (g,ps,b)) :
  ∃ c',callRes T f args=some (g,ps,c')∧Same (touches S.t (.call { callee:=.value f,args:=args,argTypes:=ts })) S T b S.u c' T.u:=by
 unfold callRes at he ⊢
 have e1:opnd T.t f=opnd S.t f:=ht f (by simp [Op.operands,Call.operands])
 have e2:args.toList.map (opnd T.t)=args.toList.map (opnd S.t):=List.map_congr_left fun z hz=>ht z (by simp only [Op.operands,Call.operands];exact Array.mem_append.2 (.inr (Array.mem_toList_iff.1 hz)))
 rw [e1,e2]
 split at he
 ·rename_i g' first cap qs b' htp
  cases he
  have hsub:V.namesL (opnd S.t f :: args.toList.map (opnd S.t))=touches S.t (.call { callee:=.value f,args:=args,argTypes:=ts }):=by
   simp [touches,Op.operands,Call.operands]
  obtain ⟨c',k1,k2⟩:=toPs_local _ (c:=T.b) (fun n hn=>(hB n (by rw [← hsub];exact hn)).1) htp
  rw [hsub] at k2
  exact ⟨c',by rw [k1],Same.blks k2 (fun n hn=>(hB n hn).2)⟩
 ·cases he
end
end Go.Abs
namespace Go.Abs
open Go.RowKit
def inter (a b:List Nat):Bool:=a.any fun x=>b.contains x
def conf (F G:Foot):Bool:=inter F.wt G.rt || inter F.wt G.wt || inter F.rt G.wt || inter F.wb G.rb || inter F.wb G.wb || inter F.rb G.wb
def preds (ops:Array Oper) (j:Nat):List Nat:=
 match ops[j]? with
 | some o=>o.after.toList.filterMap fun e=>if Region.binds .any e then some e.on else none
 | none=>[]
def reach (ops:Array Oper):Nat→Nat→Nat→Bool
 | 0,i,j=>(preds ops j).contains i
 | f + 1,i,j=>(preds ops j).contains i || (preds ops j).any fun k=>reach ops f i k
def drawFrom (ops:Array Oper) (fs:List Foot) (j:Nat):Bool:=
 match fs[j]? with
 | some G=>(preds ops j).all (fun i=>decide (i < j)) && (List.range j).all fun i=>match fs[i]? with | some F=>!conf F G || reach ops 6 i j | none=>true
 | none=>true
def drawB (ops:Array Oper) (fs:List Foot):Bool:=(List.range ops.size).all (drawFrom ops fs)
section
variable {cfg:Cfg} {base:Base} {Q:Program} {ops:Array Oper}
structure StepOK (cfg:Cfg) (Q:Program) (ops:Array Oper) (i:Nat) (S S':St) (F:Foot):Prop where
 len:S'.t.length=S.t.length
 tmp:∀ j,j ∉ F.wt→S'.t[j]? = S.t[j]?
 blk:∀ n,n ∉ F.wb→agB S S' n
 run:∀ (T:St) (base:Base) (a:Act) (w:World),T.t.length=S.t.length→(∀ j,j ∈ F.rt→T.t[j]? = S.t[j]?)→(∀ n,n ∈ F.rb ++ F.wb→agB S T n)→Con cfg base T a w →
  ∀ (K:Act→World→Prop) (R:Exit→Act→World→Prop),(∀ T' a' w',Con cfg base T' a' w'→T'.t.length=T.t.length→(∀ j,j ∈ F.wt→T'.t[j]? = S'.t[j]?)→(∀ j,j ∉ F.wt→T'.t[j]? = T.t[j]?) →
   (∀ n,n ∈ F.wb→agB S' T' n)→(∀ n,n ∉ F.wb→agB T T' n)→K a' w')→wpOp Q ops R i K a w
theorem opnd_eq {o:Oper} {S T:St} (h:∀ j,j ∈ o.looksAt ops→T.t[j]? = S.t[j]?):∀ x ∈ o.op.operands,opnd T.t x=opnd S.t x:=by
 intro x hx
 cases x with
 | tmp t=>
  have:t ∈ o.looksAt ops:=List.mem_append_left _ (List.mem_filterMap.2 ⟨.tmp t,by simpa using hx,rfl⟩)
  simp only [opnd,List.getD_eq_getElem?_getD,h t this]
 | const v=>rfl
 | global g=>rfl
 | func f=>rfl
theorem wanted_eq {o:Oper} {S T:St} (hl:T.t.length=S.t.length) (h:∀ j,j ∈ o.looksAt ops→T.t[j]? = S.t[j]?):wantedA ops T.t o=wantedA ops S.t o:=by
 unfold wantedA
 cases hg:o.guard with
 | none=>rfl
 | some p=>
  obtain ⟨j,want⟩:=p
  simp only
  cases hd:(ops[j]?).bind (·.dst) with
  | none=>rfl
  | some d=>
   have:d ∈ o.looksAt ops:=List.mem_append_right _ (by simp [hg,hd])
   simp only [List.getD_eq_getElem?_getD,h d this,hl]
theorem put_on {S T:St} {o:Oper} {v:V} {b c:Blks} {u x:List Nat} (hl:T.t.length=S.t.length):∀ j,j ∈ o.dst.toList→(T.put o.dst v c x).t[j]? = (S.put o.dst v b u).t[j]?:=by
 intro j hj
 cases hd:o.dst with
 | none=>simp [hd] at hj
 | some d=>
  simp [hd] at hj
  subst hj
  simp only [St.put,List.getElem?_set,hl,if_true]
theorem put_off {T:St} {o:Oper} {v:V} {c:Blks} {x:List Nat}:∀ j,j ∉ o.dst.toList→(T.put o.dst v c x).t[j]? = T.t[j]?:=by
 intro j hj
 cases hd:o.dst with
 | none=>rfl
 | some d=>
  simp [hd] at hj
  simp only [St.put]
  rw [List.getElem?_set_ne (Ne.symm hj)]
theorem put_len {T:St} {o:Oper} {v:V} {c:Blks} {x:List Nat}:(T.put o.dst v c x).t.length=T.t.length:=by
 cases o.dst <;> simp [St.put]
theorem put_b {T:St} {o:Oper} {v:V} {c:Blks} {x:List Nat}:(T.put o.dst v c x).b=c:=by cases o.dst <;> rfl
theorem put_u {T:St} {o:Oper} {v:V} {c:Blks} {x:List Nat}:(T.put o.dst v c x).u=x:=by cases o.dst <;> rfl
theorem foot_rt {o:Oper} {t:List V}:(footOf ops o t).rt=o.looksAt ops:=by unfold footOf;cases footKind o.op <;> rfl
theorem foot_wt {o:Oper} {t:List V}:(footOf ops o t).wt=o.dst.toList:=by unfold footOf;cases footKind o.op <;> rfl
theorem stepOK_step (hc:CfgOk cfg Q) {i:Nat} {o:Oper} (hi:ops[i]? = some o) {S:St} {v:V} {b:Blks} {u:List Nat} (hw:wantedA ops S.t o=some true) (he:evalOp cfg (o.dst.getD 0) o.op S=some (v,b,u)) :
  StepOK cfg Q ops i S (S.put o.dst v b u) (footOf ops o S.t):=by
 have self:=evalOp_local (ops:=ops) (o:=o) (S:=S) (T:=S) (fun _ _=>rfl) (fun n _=>⟨rfl,Iff.rfl⟩) he
 obtain ⟨c₀,x₀,h0,hs⟩:=self
 rw [he] at h0
 cases h0
 refine ⟨put_len,fun j hj=>put_off j (by rwa [foot_wt] at hj),fun n hn=>?_,?_⟩
 ·refine ⟨?_,?_⟩
  ·rw [put_b];exact (hs.blk.off' n hn).symm
  ·rw [put_u];exact (hs.off' n hn).symm
 ·intro T base a w hl ht hB hcon K R hK
  rw [foot_rt] at ht
  obtain ⟨c',x',h1,h2⟩:=evalOp_local (ops:=ops) (o:=o) (S:=S) (T:=T) (opnd_eq ht) hB he
  unfold wpOp
  simp only [hi]
  rw [if_pos (wanted_sound ((wanted_eq hl ht).trans hw) hcon)]
  refine .inl (oper_sound hc h1 hcon fun a' w' h'=>hK _ a' w' h' put_len (fun j hj=>put_on hl j (by rwa [foot_wt] at hj)) (fun j hj=>put_off j (by rwa [foot_wt] at hj)) (fun n hn=>?_) (fun n hn=>?_))
  ·refine ⟨?_,?_⟩
   ·rw [put_b,put_b];exact (h2.blk.on n hn).symm
   ·rw [put_u,put_u];exact (h2.on n hn).symm
  ·refine ⟨?_,?_⟩
   ·rw [put_b];exact (h2.blk.off n hn).symm
   ·rw [put_u];exact (h2.off n hn).symm
theorem stepOK_skip {i:Nat} {o:Oper} (hi:ops[i]? = some o) {S:St} (hw:wantedA ops S.t o=some false):StepOK cfg Q ops i S (S.put o.dst (.tup []) S.b S.u) (footOf ops o S.t):=by
 refine ⟨put_len,fun j hj=>put_off j (by rwa [foot_wt] at hj),fun n hn=>⟨by rw [put_b],by rw [put_u]⟩,?_⟩
 intro T base a w hl ht hB hcon K R hK
 rw [foot_rt] at ht
 unfold wpOp
 simp only [hi]
 rw [if_neg (by rw [wanted_sound ((wanted_eq hl ht).trans hw) hcon];simp)]
 refine hK _ _ _ (hcon.skip o.dst) put_len (fun j hj=>put_on hl j (by rwa [foot_wt] at hj)) (fun j hj=>put_off j (by rwa [foot_wt] at hj)) (fun n hn=>?_) (fun n hn=>⟨by rw [put_b],by rw [put_u]⟩)
 have:=hB n (List.mem_append_right _ hn)
 exact ⟨by rw [put_b,put_b];exact this.1,by rw [put_u,put_u];exact this.2⟩
theorem stepOK_call {i:Nat} {o:Oper} (hi:ops[i]? = some o) {S:St} {f:Operand} {args:Array Operand} {ts:Array TypeId} {g:FuncId} {ps rs:List P} {b:Blks} (hw:wantedA ops S.t o=some true) (ho:o.op = .call { callee:=.value f,args,argTypes:=ts })
  (he:callRes S f args=some (g,ps,b)) (hg:CallP cfg Q g ps rs):StepOK cfg Q ops i S (S.put o.dst (resV rs) b S.u) (footOf ops o S.t):=by
 have hk:footKind o.op = .write:=by rw [ho];rfl
 have hwb:(footOf ops o S.t).wb=touches S.t o.op:=by simp [footOf,hk]
 have hop:∀ T:St,(∀ j,j ∈ o.looksAt ops→T.t[j]? = S.t[j]?)→∀ x ∈ (Op.call { callee:=.value f,args:=args,argTypes:=ts }).operands,opnd T.t x=opnd S.t x:=by
  intro T h;rw [← ho];exact opnd_eq h
 obtain ⟨c₀,h0,hs⟩:=callRes_local (S:=S) (T:=S) (ts:=ts) (fun _ _=>rfl) (fun n _=>⟨rfl,Iff.rfl⟩) he
 rw [he] at h0
 cases h0
 rw [← ho] at hs
 refine ⟨put_len,fun j hj=>put_off j (by rwa [foot_wt] at hj),fun n hn=>?_,?_⟩
 ·rw [hwb] at hn
  refine ⟨?_,?_⟩
  ·rw [put_b];exact (hs.blk.off' n hn).symm
  ·rw [put_u]
 ·intro T base a w hl ht hB hcon K R hK
  rw [foot_rt] at ht
  obtain ⟨c',h1,h2⟩:=callRes_local (S:=S) (T:=T) (ts:=ts) (hop T ht) (fun n hn=>hB n (List.mem_append_right _ (by rw [hwb,ho];exact hn))) he
  rw [← ho] at h2
  unfold wpOp
  simp only [hi]
  rw [if_pos (wanted_sound ((wanted_eq hl ht).trans hw) hcon)]
  refine .inl (call_sound ho h1 hg hcon fun a' w' h'=>hK _ a' w' h' put_len (fun j hj=>put_on hl j (by rwa [foot_wt] at hj)) (fun j hj=>put_off j (by rwa [foot_wt] at hj)) (fun n hn=>?_) (fun n hn=>?_))
  ·rw [hwb] at hn
   refine ⟨?_,?_⟩
   ·rw [put_b,put_b];exact (h2.blk.on n hn).symm
   ·rw [put_u,put_u];exact (h2.on n hn).symm
  ·rw [hwb] at hn
   refine ⟨?_,?_⟩
   ·rw [put_b];exact (h2.blk.off n hn).symm
   ·rw [put_u]
inductive SeqF (cfg:Cfg) (Q:Program) (ops:Array Oper):List Oper→St→St→List Foot→Prop
 | nil (S:St):SeqF cfg Q ops [] S S []
 | step (o:Oper) (r:List Oper) (S S':St) (v:V) (b:Blks) (u:List Nat) (fs:List Foot) (hw:wantedA ops S.t o=some true) (hc:isCall o.op=false) (he:evalOp cfg (o.dst.getD 0) o.op S=some (v,b,u))
   (h:SeqF cfg Q ops r (S.put o.dst v b u) S' fs):SeqF cfg Q ops (o :: r) S S' (footOf ops o S.t :: fs)
 | skip (o:Oper) (r:List Oper) (S S':St) (fs:List Foot) (hw:wantedA ops S.t o=some false) (h:SeqF cfg Q ops r (S.put o.dst (.tup []) S.b S.u) S' fs):SeqF cfg Q ops (o :: r) S S' (footOf ops o S.t :: fs)
 | call (o:Oper) (r:List Oper) (S S':St) (f:Operand) (args:Array Operand) (ts:Array TypeId) (g:FuncId) (ps rs:List P) (b:Blks) (fs:List Foot) (hw:wantedA ops S.t o=some true) (ho:o.op = .call { callee:=.value f,args,argTypes:=ts })
   (he:callRes S f args=some (g,ps,b)) (hg:CallP cfg Q g ps rs) (h:SeqF cfg Q ops r (S.put o.dst (resV rs) b S.u) S' fs):SeqF cfg Q ops (o :: r) S S' (footOf ops o S.t :: fs)
theorem SeqF.states (hc:CfgOk cfg Q):∀ {r:List Oper} {S S':St} {fs:List Foot},SeqF cfg Q ops r S S' fs→∀ k,(∀ i o,r[i]? = some o→ops[k + i]? = some o) →
  ∃ st:Nat→St,st 0=S∧st r.length=S'∧fs.length=r.length∧∀ i F,fs[i]? = some F→StepOK cfg Q ops (k + i) (st i) (st (i + 1)) F:=by
 intro r S S' fs h
 have ext:∀ {r:List Oper} {S S₁ S':St} {fs:List Foot} {F:Foot} {k:Nat},(∃ st:Nat→St,st 0=S₁∧st r.length=S'∧fs.length=r.length∧∀ i F,fs[i]? = some F→StepOK cfg Q ops (k + 1 + i) (st i) (st (i + 1)) F)→StepOK cfg Q ops k S S₁ F →
   ∃ st:Nat→St,st 0=S∧st (r.length + 1)=S'∧(F :: fs).length=r.length + 1∧∀ i F',(F :: fs)[i]? = some F'→StepOK cfg Q ops (k + i) (st i) (st (i + 1)) F':=by
  intro r S S₁ S' fs F k ⟨st,h1,h2,h3,h4⟩ hF
  refine ⟨fun i=>match i with | 0=>S | i + 1=>st i,rfl,h2,by simp [h3],fun i F' hi=>?_⟩
  cases i with
  | zero=>simp at hi;subst hi;rw [h1.symm] at hF;exact hF
  | succ i=>
   have:=h4 i F' (by simpa using hi)
   rw [show k + (i + 1)=k + 1 + i by omega]
   exact this
 induction h with
 | nil S=>exact fun k _=>⟨fun _=>S,rfl,rfl,rfl,fun i F h=>by simp at h⟩
 | step o r S S' v b u fs hw hcl he _ ih=>
  intro k hk
  exact ext (ih (k + 1) (fun i o' ho=>by have:=hk (i + 1) o' (by simpa using ho);rwa [show k + (i + 1)=k + 1 + i by omega] at this)) (stepOK_step hc (by simpa using hk 0 o rfl) hw he)
 | skip o r S S' fs hw _ ih=>
  intro k hk
  exact ext (ih (k + 1) (fun i o' ho=>by have:=hk (i + 1) o' (by simpa using ho);rwa [show k + (i + 1)=k + 1 + i by omega] at this)) (stepOK_skip (by simpa using hk 0 o rfl) hw)
 | call o r S S' f args ts g ps rs b fs hw ho he hg _ ih=>
  intro k hk
  exact ext (ih (k + 1) (fun i o' ho=>by have:=hk (i + 1) o' (by simpa using ho);rwa [show k + (i + 1)=k + 1 + i by omega] at this)) (stepOK_call (by simpa using hk 0 o rfl) hw ho he hg)
theorem inter_mem {a b:List Nat} {x:Nat} (ha:x ∈ a) (hb:x ∈ b):inter a b=true:=List.any_eq_true.2 ⟨x,ha,by simpa using hb⟩
theorem Con.agree {S T:St} (hl:S.t.length=T.t.length) (ht:∀ (j:Nat),S.t[j]? = T.t[j]?) (hb:∀ (n:Nat),agB S T n) {a:Act} {w:World} (h:Con cfg base S a w):Con cfg base T a w:=by
 obtain ⟨E, μ,hm,h1,h2,h3⟩:=h
 have hc:Chg E E μ μ S.b T.b S.u T.u:=by
  refine ⟨Env.le_refl E,fun n hn=>(hb n).2.1 hn,fun n hn sz es sh he=>⟨es,sh,by rw [← (hb n).1];exact he,Nat.le_refl _,fun _=>rfl⟩,fun n hn he=>⟨rfl,fun sz es sh=>by rw [← (hb n).1];exact he sz es sh⟩⟩
 refine ⟨E, μ,?_,h1,by rw [h2,hl],fun i v x hv hx=>(h3 i v x hv (by rw [ht i];exact hx)).chg hc⟩
 refine ⟨fun n k hk=>(hb n).2.1 (hm.dom n k (by rw [(hb n).1];exact hk)),fun n k hk=>?_,fun n m k l B C c d hk hl'=>hm.inj n m k l B C c d (by rw [(hb n).1];exact hk) (by rw [(hb m).1];exact hl'),
  fun n k B c hk=>hm.live n k B c (by rw [(hb n).1];exact hk),hm.cell,hm.obj,hm.le,hm.cnew,hm.onew,hm.os,hm.tape,hm.output,hm.size,hm.keep,hm.mp,hm.mnew,pin_chg hm hc⟩
 exact BlkOk.other hm hc (by rw [(hb n).1];exact hk) rfl (fun _ _ _ _=>⟨rfl,fun _=>rfl⟩)
theorem still_tmp {st:Nat→St} {F:Nat→Foot} {n:Nat} (hs:∀ i,i < n→StepOK cfg Q ops i (st i) (st (i + 1)) (F i)) {j:Nat}:∀ (d m:Nat),m + d ≤ n→(∀ k,m ≤ k→k < m + d→j ∉ (F k).wt)→(st (m + d)).t[j]? = (st m).t[j]?
 | 0,m,_,_=>rfl
 | d + 1,m,hl,h=>by
  rw [show m + (d + 1)=(m + d) + 1 by omega,(hs (m + d) (by omega)).tmp j (h (m + d) (by omega) (by omega))]
  exact still_tmp hs d m (by omega) (fun k h1 h2=>h k h1 (by omega))
theorem agB_trans {S T U:St} {n:Nat} (h:agB S T n) (k:agB T U n):agB S U n:=⟨h.1.trans k.1,h.2.trans k.2⟩
theorem agB_symm {S T:St} {n:Nat} (h:agB S T n):agB T S n:=⟨h.1.symm,h.2.symm⟩
theorem agB_refl (S:St) (n:Nat):agB S S n:=⟨rfl,Iff.rfl⟩
theorem still_blk {st:Nat→St} {F:Nat→Foot} {n:Nat} (hs:∀ i,i < n→StepOK cfg Q ops i (st i) (st (i + 1)) (F i)) {j:Nat}:∀ (d m:Nat),m + d ≤ n→(∀ k,m ≤ k→k < m + d→j ∉ (F k).wb)→agB (st (m + d)) (st m) j
 | 0,m,_,_=>agB_refl _ _
 | d + 1,m,hl,h=>by
  have:=(hs (m + d) (by omega)).blk j (h (m + d) (by omega) (by omega))
  rw [show m + (d + 1)=(m + d) + 1 by omega]
  exact agB_trans (agB_symm this) (still_blk hs d m (by omega) (fun k h1 h2=>h k h1 (by omega)))
theorem still_len {st:Nat→St} {F:Nat→Foot} {n:Nat} (hs:∀ i,i < n→StepOK cfg Q ops i (st i) (st (i + 1)) (F i)):∀ m,m ≤ n→(st m).t.length=(st 0).t.length
 | 0,_=>rfl
 | m + 1,h=>by rw [(hs m (by omega)).len];exact still_len hs m (by omega)
structure Inv (n:Nat) (st:Nat→St) (F:Nat→Foot) (X:Nat→Prop) (T:St):Prop where
 len:T.t.length=(st 0).t.length
 tmp:∀ j m,m ≤ n→(∀ k,k < n→j ∈ (F k).wt→(X k ↔ k < m))→T.t[j]? = (st m).t[j]?
 blk:∀ j m,m ≤ n→(∀ k,k < n→j ∈ (F k).wb→(X k ↔ k < m))→agB (st m) T j
theorem reach_mem {X:Nat→Prop} (hX:∀ j,X j→∀ i,i ∈ preds ops j→X i):∀ (f i j:Nat),reach ops f i j=true→(∀ k,k ∈ preds ops j→X k)→X i
 | 0,i,j,h,hj=>hj i (by simpa [reach] using h)
 | f + 1,i,j,h,hj=>by
  simp only [reach,Bool.or_eq_true,List.any_eq_true] at h
  rcases h with h | ⟨k,hk,h⟩
  ·exact hj i (by simpa using h)
  ·exact reach_mem hX f i k h (fun m hm=>hX k (hj k hk) m hm)
theorem draw_step {n:Nat} {st:Nat→St} {F:Nat→Foot} (hs:∀ i,i < n→StepOK cfg Q ops i (st i) (st (i + 1)) (F i)) (hconf:∀ i j,i < j→j < n→conf (F i) (F j)=true→reach ops 6 i j=true) {X:Nat→Prop}
  (hX:∀ j,X j→j < n∧∀ i,i ∈ preds ops j→X i) {T:St} (hT:Inv n st F X T) {j:Nat} (hj:j < n) (hjX:¬ X j) (hready:∀ i,i ∈ preds ops j→X i) {a:Act} {w:World} (hcon:Con cfg base T a w) {K:Act→World→Prop} {R:Exit→Act→World→Prop}
  (hK:∀ T' a' w',Con cfg base T' a' w'→Inv n st F (fun k=>X k ∨ k=j) T'→K a' w'):wpOp Q ops R j K a w:=by
 have hX':∀ j,X j→∀ i,i ∈ preds ops j→X i:=fun j h=>(hX j h).2
 have hbefore:∀ k,k < n→k ≠ j→(conf (F k) (F j)=true ∨ conf (F j) (F k)=true)→(k < j→conf (F k) (F j)=true)→(j < k→conf (F j) (F k)=true)→(X k ↔ k < j):=by
  intro k hk hkj _ h1 h2
  constructor
  ·intro hXk
   rcases Nat.lt_or_ge k j with h | h
   ·exact h
   ·have hjk:j < k:=by omega
    exact (hjX (reach_mem hX' 6 j k (hconf j k hjk hk (h2 hjk)) (fun i hi=>hX' k hXk i hi))).elim
  ·intro hlt
   exact reach_mem hX' 6 k j (hconf k j hlt hj (h1 hlt)) hready
 have hlenj:(st j).t.length=(st 0).t.length:=still_len hs j (by omega)
 have htmp:∀ x,(x ∈ (F j).rt ∨ x ∈ (F j).wt)→T.t[x]? = (st j).t[x]?:=by
  intro x hx
  refine hT.tmp x j (by omega) fun k hk hkw=>?_
  by_cases hkj:k=j
  ·subst hkj
   exact ⟨fun h=>(hjX h).elim,fun h=>by omega⟩
  ·have c1:conf (F k) (F j)=true:=by
    simp only [conf,Bool.or_eq_true]
    rcases hx with hx | hx
    ·exact .inl (.inl (.inl (.inl (.inl (inter_mem hkw hx)))))
    ·exact .inl (.inl (.inl (.inl (.inr (inter_mem hkw hx)))))
   have c2:conf (F j) (F k)=true:=by
    simp only [conf,Bool.or_eq_true]
    rcases hx with hx | hx
    ·exact .inl (.inl (.inl (.inr (inter_mem hx hkw))))
    ·exact .inl (.inl (.inl (.inl (.inr (inter_mem hx hkw)))))
   exact hbefore k hk hkj (.inl c1) (fun _=>c1) (fun _=>c2)
 have hblk:∀ x,x ∈ (F j).rb ++ (F j).wb→agB (st j) T x:=by
  intro x hx
  refine hT.blk x j (by omega) fun k hk hkw=>?_
  by_cases hkj:k=j
  ·subst hkj
   exact ⟨fun h=>(hjX h).elim,fun h=>by omega⟩
  ·have c1:conf (F k) (F j)=true:=by
    simp only [conf,Bool.or_eq_true]
    rcases List.mem_append.1 hx with hx | hx
    ·exact .inl (.inl (.inr (inter_mem hkw hx)))
    ·exact .inl (.inr (inter_mem hkw hx))
   have c2:conf (F j) (F k)=true:=by
    simp only [conf,Bool.or_eq_true]
    rcases List.mem_append.1 hx with hx | hx
    ·exact .inr (inter_mem hx hkw)
    ·exact .inl (.inr (inter_mem hx hkw))
   exact hbefore k hk hkj (.inl c1) (fun _=>c1) (fun _=>c2)
 have hlater:∀ k,k < n→j < k→conf (F j) (F k)=true→¬ X k:=by
  intro k hk hjk hc' hXk
  exact hjX (reach_mem hX' 6 j k (hconf j k hjk hk hc') (fun i hi=>hX' k hXk i hi))
 refine (hs j hj).run T base a w (by rw [hT.len,hlenj]) (fun x hx=>htmp x (.inl hx)) hblk hcon K R fun T' a' w' hcon' hl' h1 h2 h3 h4=>?_
 refine hK T' a' w' hcon' ⟨by rw [hl',hT.len],fun x m hm hk=>?_,fun x m hm hk=>?_⟩
 ·by_cases hx:x ∈ (F j).wt
  ·rw [h1 x hx]
   have hjm:j < m:=(hk j hj hx).1 (.inr rfl)
   obtain ⟨d,rfl⟩:∃ d,m=j + 1 + d:=⟨m - (j + 1),by omega⟩
   refine (still_tmp hs d (j + 1) (by omega) fun k h5 h6 hkw=>?_).symm
   have hXk:=(hk k (by omega) hkw).2 h6
   rcases hXk with hXk | hXk
   ·exact hlater k (by omega) (by omega) (by simp only [conf,Bool.or_eq_true];exact .inl (.inl (.inl (.inl (.inr (inter_mem hx hkw)))))) hXk
   ·omega
  ·rw [h2 x hx]
   refine hT.tmp x m hm fun k hkn hkw=>?_
   have:=hk k hkn hkw
   have hkj:k ≠ j:=fun e=>hx (e ▸ hkw)
   constructor
   ·intro h;exact this.1 (.inl h)
   ·intro h
    rcases this.2 h with h | h
    ·exact h
    ·exact (hkj h).elim
 ·by_cases hx:x ∈ (F j).wb
  ·have hjm:j < m:=(hk j hj hx).1 (.inr rfl)
   obtain ⟨d,rfl⟩:∃ d,m=j + 1 + d:=⟨m - (j + 1),by omega⟩
   refine agB_trans (still_blk hs d (j + 1) (by omega) fun k h5 h6 hkw=>?_) (h3 x hx)
   have hXk:=(hk k (by omega) hkw).2 h6
   rcases hXk with hXk | hXk
   ·exact hlater k (by omega) (by omega) (by simp only [conf,Bool.or_eq_true];exact .inl (.inr (inter_mem hx hkw))) hXk
   ·omega
  ·refine agB_trans (hT.blk x m hm fun k hkn hkw=>?_) (h4 x hx)
   have:=hk k hkn hkw
   have hkj:k ≠ j:=fun e=>hx (e ▸ hkw)
   constructor
   ·intro h;exact this.1 (.inl h)
   ·intro h
    rcases this.2 h with h | h
    ·exact h
    ·exact (hkj h).elim
theorem ready_mem {listed:Array Bool} {j:Nat} (h:j ∈ Region.ready .any ops listed):j < ops.size∧listed.getD j true=false∧∀ i,i ∈ preds ops j→listed.getD i false=true:=by
 simp only [Region.ready,List.mem_filter,List.mem_range,Bool.and_eq_true,Bool.not_eq_true'] at h
 obtain ⟨h1,h2,h3⟩:=h
 refine ⟨h1,h2,fun i hi=>?_⟩
 unfold preds at hi
 rw [Array.getElem?_eq_getElem h1] at hi h3
 simp only [Option.map_some,Option.getD_some] at h3
 simp only [List.mem_filterMap,Option.ite_none_right_eq_some,Option.some.injEq] at hi
 obtain ⟨e,he,hb,rfl⟩:=hi
 have:=Array.all_eq_true'.1 h3 e (Array.mem_toList_iff.1 he)
 simpa [hb] using this
theorem mem_ready {listed:Array Bool} {j:Nat} (h1:j < ops.size) (h2:listed.getD j true=false) (h3:∀ i,i ∈ preds ops j→listed.getD i false=true):j ∈ Region.ready .any ops listed:=by
 simp only [Region.ready,List.mem_filter,List.mem_range,Bool.and_eq_true,Bool.not_eq_true']
 refine ⟨h1,h2,?_⟩
 rw [Array.getElem?_eq_getElem h1]
 simp only [Option.map_some,Option.getD_some]
 refine Array.all_eq_true'.2 fun e he=>?_
 by_cases hb:Region.binds .any e=true
 ·simp only [hb,Bool.not_true,Bool.false_or]
  refine h3 e.on ?_
  unfold preds
  rw [Array.getElem?_eq_getElem h1]
  simp only [List.mem_filterMap,Option.ite_none_right_eq_some,Option.some.injEq]
  exact ⟨e,Array.mem_toList_iff.2 he,hb,rfl⟩
 ·simp [hb]
theorem draw_any {st:Nat→St} {F:Nat→Foot} (hs:∀ i,i < ops.size→StepOK cfg Q ops i (st i) (st (i + 1)) (F i)) (hconf:∀ i j,i < j→j < ops.size→conf (F i) (F j)=true→reach ops 6 i j=true)
  (hpred:∀ j,j < ops.size→∀ i,i ∈ preds ops j→i < j) {R:Exit→Act→World→Prop} (hR:∀ a w,Con cfg base (st ops.size) a w→R .normal a w) :
  ∀ (fuel:Nat) (listed:Array Bool) (T:St) (a:Act) (w:World),listed.size=ops.size→fuel + (listed.toList.filter id).length=ops.size→(∀ j,listed.getD j false=true→∀ i,i ∈ preds ops j→listed.getD i false=true) →
   Inv ops.size st F (fun k=>listed.getD k false=true) T→Con cfg base T a w→wpAny Q .any ops R fuel listed a w:=by
 have hend:∀ (listed:Array Bool) (T:St) (a:Act) (w:World),listed.size=ops.size→(∀ j,j < ops.size→listed.getD j false=true)→Inv ops.size st F (fun k=>listed.getD k false=true) T→Con cfg base T a w→R .normal a w:=by
  intro listed T a w hsz hall hT hcon
  have hx:∀ k,k < ops.size→(listed.getD k false=true ↔ k < ops.size):=fun k hk=>⟨fun _=>hk,fun _=>hall k hk⟩
  exact hR a w (hcon.agree (by rw [hT.len,still_len hs ops.size (Nat.le_refl _)]) (fun j=>hT.tmp j ops.size (Nat.le_refl _) fun k hk _=>hx k hk) (fun n=>agB_symm (hT.blk n ops.size (Nat.le_refl _) fun k hk _=>hx k hk)))
 have hnone:∀ listed:Array Bool,listed.size=ops.size→Region.ready .any ops listed=[]→∀ j,j < ops.size→listed.getD j false=true:=by
  intro listed hsz hr j
  induction j using Nat.strongRecOn with
  | _ j ih=>
   intro hj
   cases hl:listed.getD j false with
   | true=>rfl
   | false=>
    have:j ∈ Region.ready .any ops listed:=mem_ready hj (by
     have hj':j < listed.size:=by omega
     simpa [Array.getD,hj'] using hl) (fun i hi=>ih i (hpred j hj i hi) (Nat.lt_trans (hpred j hj i hi) hj))
    rw [hr] at this
    cases this
 intro fuel
 induction fuel with
 | zero=>
  intro listed T a w hsz hcount hclosed hT hcon
  have hall:∀ j,j < ops.size→listed.getD j false=true:=by
   intro j hj
   have hf:listed.toList.filter id=listed.toList:=List.filter_eq_self.2 (by
    have h1:(listed.toList.filter id).length=listed.toList.length:=by simp;omega
    intro b hb
    have:=(List.length_filter_eq_length_iff).1 h1 b hb
    simpa using this)
   have hj':j < listed.size:=by omega
   have hm:listed[j] ∈ listed.toList:=by simp
   rw [← hf] at hm
   have:=(List.mem_filter.1 hm).2
   simpa [Array.getD,hj'] using this
  refine ⟨?_,hend listed T a w hsz hall hT hcon⟩
  cases hr:Region.ready .any ops listed with
  | nil=>rfl
  | cons j r=>
   have:=ready_mem (ops:=ops) (listed:=listed) (j:=j) (by rw [hr];simp)
   have h1:=hall j this.1
   have hj':j < listed.size:=by omega
   have h2:=this.2.1
   simp [Array.getD,hj'] at h1 h2
   rw [h1] at h2
   cases h2
 | succ fuel ih=>
  intro listed T a w hsz hcount hclosed hT hcon
  refine ⟨fun hr=>hend listed T a w hsz (hnone listed hsz hr) hT hcon,fun j hj=>?_⟩
  obtain ⟨h1,h2,h3⟩:=ready_mem hj
  have hj':j < listed.size:=by omega
  have h2':listed[j]=false:=by simpa [Array.getD,hj'] using h2
  have hset:∀ k,(listed.setIfInBounds j true).getD k false=true ↔ (listed.getD k false=true ∨ k=j):=by
   intro k
   by_cases hk:k=j
   ·subst hk;simp [Array.getD,hj']
   ·by_cases hkl:k < listed.size
    ·simp [Array.getD,hkl,hk,Array.getElem_setIfInBounds,Ne.symm hk]
    ·simp [Array.getD,hkl,hk]
  refine draw_step hs hconf (X:=fun k=>listed.getD k false=true) (fun k hk=>⟨?_,hclosed k hk⟩) hT h1 (by simp [Array.getD,hj',h2']) h3 hcon fun T' a' w' hcon' hT'=>?_
  ·rcases Nat.lt_or_ge k listed.size with h | h
   ·omega
   ·have:¬ k < listed.size:=by omega
    simp [Array.getD,this] at hk
  ·refine ih _ T' a' w' (by simp [hsz]) ?_ ?_ ?_ hcon'
   ·have:((listed.setIfInBounds j true).toList.filter id).length=(listed.toList.filter id).length + 1:=by
     rw [Array.toList_setIfInBounds]
     have hl:listed.toList=listed.toList.take j ++ listed[j] :: listed.toList.drop (j + 1):=by
      rw [← Array.getElem_toList hj',List.getElem_cons_drop,List.take_append_drop]
     have hs':listed.toList.set j true=listed.toList.take j ++ true :: listed.toList.drop (j + 1):=by
      rw [List.set_eq_take_append_cons_drop,if_pos (by simpa using hj')]
     rw [hs']
     conv=>rhs;rw [hl]
     simp [List.filter_append,h2']
     omega
    omega
   ·intro k hk i hi
    rw [hset] at hk ⊢
    rcases hk with hk | rfl
    ·exact .inl (hclosed k hk i hi)
    ·exact .inl (h3 i hi)
   ·refine ⟨hT'.len,fun x m hm hk=>hT'.tmp x m hm fun k hkn hkw=>?_,fun x m hm hk=>hT'.blk x m hm fun k hkn hkw=>?_⟩
    ·rw [← hset];exact hk k hkn hkw
    ·rw [← hset];exact hk k hkn hkw
end
theorem wpA_draw {cfg:Cfg} {base:Base} {Q:Program} {R:Ex→St→Prop} {S:St} (hc:CfgOk cfg Q) (hmix:Q.follows .mixedOrders=true) {id:Nat} {ops:Array Oper} {S':St} {fs:List Foot} (h:SeqF cfg Q ops ops.toList S S' fs) (hd:drawB ops fs=true)
  (hr:R .normal S'):wpA cfg base Q (.region id ops true) R S:=by
 obtain ⟨st,h0,hn,hfl,hstep⟩:=h.states hc 0 (fun i o ho=>by simpa using ho)
 have hsz:ops.toList.length=ops.size:=by simp
 rw [hsz] at hn hfl
 simp only [drawB,List.all_eq_true,List.mem_range] at hd
 intro a w hcon
 have hcon':Con cfg base (st 0) a { w with drawn:=w.drawn + 1 }:=by
  rw [h0]
  obtain ⟨E, μ,hm,ht⟩:=hcon
  exact ⟨E, μ,⟨hm.dom,fun n k hk=>BlkOk.other hm (Chg.refl _ _ _ _) hk rfl (fun _ _ _ _=>⟨rfl,fun _=>rfl⟩),hm.inj,hm.live,hm.cell,hm.obj,hm.le,hm.cnew,hm.onew,hm.os,hm.tape,hm.output,hm.size,hm.keep,fun B ks vs h=>(hm.mp B ks vs h).mono (Env.le_refl _) rfl,hm.mnew,hm.pin⟩,ht⟩
 refine wp_region_any hmix (draw_any (F:=fun i=>fs.getD i ⟨[],[],[],[]⟩) (st:=st) ?_ ?_ ?_ ?_ ops.size _ (st 0) a _ (by simp) (by simp) ?_ ?_ hcon')
 ·intro i hi
  have:=hstep i fs[i] (by simp [hfl,hi])
  simpa [List.getD,hfl,hi] using this
 ·intro i j hij hj hcf
  have:=hd j hj
  unfold drawFrom at this
  rw [List.getElem?_eq_getElem (by omega)] at this
  simp only [Bool.and_eq_true,List.all_eq_true,List.mem_range] at this
  have h2:=this.2 i hij
  rw [List.getElem?_eq_getElem (by omega)] at h2
  simp only [Bool.or_eq_true,Bool.not_eq_true'] at h2
  rcases h2 with h2 | h2
  ·have e1:fs.getD i ⟨[],[],[],[]⟩=fs[i]:=by simp [List.getD,show i < fs.length by omega]
   have e2:fs.getD j ⟨[],[],[],[]⟩=fs[j]:=by simp [List.getD,show j < fs.length by omega]
   simp only [e1,e2] at hcf
   rw [h2] at hcf
   cases hcf
  ·exact h2
 ·intro j hj i hi
  have:=hd j hj
  unfold drawFrom at this
  rw [List.getElem?_eq_getElem (by omega)] at this
  simp only [Bool.and_eq_true,List.all_eq_true] at this
  simpa using this.1 i hi
 ·intro a w h
  exact ⟨.normal,S',rfl,hr,by rw [← hn];exact h⟩
 ·intro j hj
  by_cases h:j < ops.size
  ·simp [Array.getD,h] at hj
  ·simp [Array.getD,h] at hj
 ·have hno:∀ k,¬ (Array.replicate ops.size false).getD k false=true:=by
   intro k
   by_cases h:k < ops.size <;> simp [Array.getD,h]
  refine ⟨rfl,fun x m hm hk=>?_,fun x m hm hk=>?_⟩
  ·have:=still_tmp (cfg:=cfg) (Q:=Q) (ops:=ops) (st:=st) (F:=fun i=>fs.getD i ⟨[],[],[],[]⟩) (n:=ops.size) (fun i hi=>by
    have:=hstep i fs[i] (by simp [hfl,hi])
    simpa [List.getD,hfl,hi] using this) (j:=x) m 0 (by omega) (fun k _ h2 hkw=>hno k ((hk k (by omega) hkw).2 (by omega)))
   rw [Nat.zero_add] at this
   exact this.symm
  ·have:=still_blk (cfg:=cfg) (Q:=Q) (ops:=ops) (st:=st) (F:=fun i=>fs.getD i ⟨[],[],[],[]⟩) (n:=ops.size) (fun i hi=>by
    have:=hstep i fs[i] (by simp [hfl,hi])
    simpa [List.getD,hfl,hi] using this) (j:=x) m 0 (by omega) (fun k _ h2 hkw=>hno k ((hk k (by omega) hkw).2 (by omega)))
   rw [Nat.zero_add] at this
   exact this
def evalSeqF (cfg:Cfg) (ops:Array Oper):List Oper→St→Option (List Oper × St × List Foot)
 | [],S=>some ([],S,[])
 | o :: r,S=>
  match wantedA ops S.t o with
  | some true=>
   if isCall o.op then some (o :: r,S,[]) else
   match evalOp cfg (o.dst.getD 0) o.op S with
   | some (v,b,u)=>(evalSeqF cfg ops r (S.put o.dst v b u)).map fun (x,y,z)=>(x,y,footOf ops o S.t :: z)
   | none=>none
  | some false=>(evalSeqF cfg ops r (S.put o.dst (.tup []) S.b S.u)).map fun (x,y,z)=>(x,y,footOf ops o S.t :: z)
  | none=>none
theorem SeqF.evals {cfg:Cfg} {Q:Program} {ops:Array Oper}:∀ (r:List Oper) (S:St) {r':List Oper} {S₁ S':St} {fs gs:List Foot},evalSeqF cfg ops r S=some (r',S₁,fs)→SeqF cfg Q ops r' S₁ S' gs→SeqF cfg Q ops r S S' (fs ++ gs)
 | [],S,r',S₁,S',fs,gs,h,k=>by
  simp only [evalSeqF,Option.some.injEq,Prod.mk.injEq] at h
  obtain ⟨rfl,rfl,rfl⟩:=h
  exact k
 | o :: r,S,r',S₁,S',fs,gs,h,k=>by
  simp only [evalSeqF] at h
  split at h
  ·rename_i hw
   split at h
   ·simp only [Option.some.injEq,Prod.mk.injEq] at h
    obtain ⟨rfl,rfl,rfl⟩:=h
    exact k
   ·rename_i hc
    split at h
    ·rename_i v b u he
     simp only [Option.map_eq_some_iff,Prod.mk.injEq] at h
     obtain ⟨⟨x,y,z⟩,h1,rfl,rfl,rfl⟩:=h
     exact .step o r S S' v b u _ hw (by simpa using hc) he (SeqF.evals r _ h1 k)
    ·cases h
  ·rename_i hw
   simp only [Option.map_eq_some_iff,Prod.mk.injEq] at h
   obtain ⟨⟨x,y,z⟩,h1,rfl,rfl,rfl⟩:=h
   exact .skip o r S S' _ hw (SeqF.evals r _ h1 k)
  ·cases h
end Go.Abs
namespace Go.Abs
open Go.RowKit
def leV (vs:List Nat):V→V→Prop
 | _,.any=>True
 | .nils,.own nm 0=>nm ∈ vs
 | x,y=>x=y
def leT (vs:List Nat):List V→List V→Prop
 | [],[]=>True
 | x :: r,y :: s=>leV vs x y∧leT vs r s
 | _,_=>False
def leK (vs:List Nat):Blk→Blk→Prop
 | .cells a,.cells b=>leT vs a b
 | .frz a,.frz b=>a=b
 | .arr n a s,.arr m b t=>n=m∧a=b∧s=t
 | .map a c,.map b d=>a=b∧c=d
 | .vmap a c,.vmap b d=>a=b∧leT vs c d
 | _,_=>False
def virtB (vs:List Nat) (n:Nat):Blk→Bool
 | .arr _ [] false=>vs.contains n
 | _=>false
def leBs (vs:List Nat) (b:Blks):Blks→Prop
 | []=>True
 | (n,k) :: r=>(virtB vs n k=true ∨ match getB b n with | some k'=>leK vs k' k | none=>False)∧leBs vs b r
def V.needs:V→List Nat
 | .own nm _=>[nm]
 | .elem nm _ _ _=>[nm]
 | .fn _ _ _=>[]
 | _=>[]
def flat0:V→Bool
 | .p _ | .nils | .any | .ref _ _ | .mp _=>true
 | _=>false
def flatV:V→Bool
 | .fn _ a b=>a.all flat0 && b.all flat0
 | .agg cs=>cs.all flat0
 | .tup vs=>vs.all flat0
 | _=>true
def Blk.vals:Blk→List V
 | .cells cs=>cs
 | .vmap _ vs=>vs
 | _=>[]
def St.vals (S:St):List V:=S.t ++ S.b.flatMap (fun p=>p.2.vals)
def namesB (S:St):Bool:=
 S.vals.all (fun v=>flatV v && v.names.all (fun n=>S.u.contains n) && v.needs.all (fun n=>(getB S.b n).isSome)) && S.b.all (fun p=>S.u.contains p.1)
structure St.le (vs:List Nat) (S T:St):Prop where
 t:leT vs S.t T.t
 b:leBs vs S.b T.b
 new:(vs.all fun n=>!S.u.contains n)=true
 names:namesB T=true
 pins:(S.u.all fun n=>n < 1000 || T.u.contains n)=true
 used:(T.u.all fun n=>S.u.contains n || vs.contains n)=true
 virt:(vs.all fun n=>match getB T.b n with | some (.arr _ [] false)=>true | _=>false)=true
theorem leT_len {vs:List Nat}:∀ {a b:List V},leT vs a b→a.length=b.length
 | [],[],_=>rfl
 | x :: r,y :: s,h=>by simp [leT_len h.2]
 | [],_ :: _,h=>h.elim
 | _ :: _,[],h=>h.elim
theorem leT_get {vs:List Nat}:∀ {a b:List V},leT vs a b→∀ (i:Nat) (x y:V),a[i]? = some x→b[i]? = some y→leV vs x y
 | [],[],_,i,x,y,h,_=>by simp at h
 | x :: r,y :: s,h,i,x',y',hx,hy=>by
  cases i with
  | zero=>simp at hx hy;subst hx;subst hy;exact h.1
  | succ i=>exact leT_get h.2 i x' y' (by simpa using hx) (by simpa using hy)
 | [],_ :: _,h,_,_,_,_,_=>h.elim
 | _ :: _,[],h,_,_,_,_,_=>h.elim
theorem leBs_get {vs:List Nat} {b:Blks}:∀ {c:Blks},leBs vs b c→∀ n k,getB c n=some k→virtB vs n k=true ∨ ∃ k',getB b n=some k'∧leK vs k' k
 | [],_,n,k,h=>by simp [getB] at h
 | (m,k₀) :: r,h,n,k,hk=>by
  simp only [getB] at hk
  split at hk
  ·rename_i e
   subst e
   cases hk
   rcases h.1 with h1 | h1
   ·exact .inl h1
   ·split at h1
    ·rename_i k' hk'
     exact .inr ⟨k',hk',h1⟩
    ·exact h1.elim
  ·exact leBs_get h.2 n k hk
theorem leV_cases {vs:List Nat} {x y:V} (h:leV vs x y):y = .any ∨ x=y ∨ (x = .nils∧∃ nm,y = .own nm 0∧nm ∈ vs):=by
 unfold leV at h
 split at h
 ·exact .inl rfl
 ·exact .inr (.inr ⟨rfl,_,rfl,h⟩)
 ·exact .inr (.inl h)
section
variable {cfg:Cfg} {base:Base}
theorem rep_le {vs:List Nat} {S T:St} (h:St.le vs S T) {E:Env} {μ:Places} {μ':Places} (hμ:∀ n,n ∉ vs→μ' n = μ n) (hv:∀ n,n ∈ vs→μ' n=none) (hdom:∀ n k,getB S.b n=some k→n ∈ S.u) {v:Value} {x y:V} (hr:Rep E μ S.b S.u v x) (hxy:leV vs x y) (hy:y ∈ T.vals):Rep E μ' T.b T.u v y:=by
 have hn:=h.names
 simp only [namesB,Bool.and_eq_true,List.all_eq_true,List.contains_iff_mem] at hn
 have hvirt:∀ n,n ∈ vs→∃ sz,getB T.b n=some (.arr sz [] false):=by
  intro n hn'
  have:=h.virt
  simp only [List.all_eq_true] at this
  have:=this n hn'
  split at this
  ·rename_i sz hb;exact ⟨sz,hb⟩
  ·cases this
 have hnew:∀ n,n ∈ vs→n ∉ S.u:=by
  intro n hn' hu
  have:=h.new
  simp only [List.all_eq_true,Bool.not_eq_true',List.contains_eq_mem,decide_eq_false_iff_not] at this
  exact this n hn' hu
 obtain ⟨⟨hflat,hnm⟩,hneed⟩:=hn.1 y hy
 have hkept:∀ n sz es sh,n ∉ vs→getB S.b n=some (.arr sz es sh)→(getB T.b n).isSome=true→getB T.b n=some (.arr sz es sh):=by
  intro n sz es sh hnv hS hT
  obtain ⟨k,hk⟩:=Option.isSome_iff_exists.1 hT
  rcases leBs_get h.b n k hk with h1 | ⟨k',h1,h2⟩
  ·unfold virtB at h1
   split at h1
   ·exact (hnv (by simpa using h1)).elim
   ·cases h1
  ·rw [hS] at h1
   cases h1
   cases k <;> simp only [leK] at h2
   obtain ⟨rfl,rfl,rfl⟩:=h2
   exact hk
 have hpart:∀ {v:Value} {x:V},flat0 x=true→(∀ n ∈ x.names,n ∈ T.u)→Rep E μ S.b S.u v x→Rep E μ' T.b T.u v x:=by
  intro v x hf hnx hr
  cases hr with
  | p v x h'=>exact .p v x h'
  | nils=>exact .nils
  | any v=>exact .any v
  | ref nm off B cap hu hm hb=>
   have hnv:nm ∉ vs:=fun hv'=>hnew nm hv' hu
   refine .ref nm off B cap (hnx nm (by simp [V.names])) ((hμ nm hnv).trans hm) fun sz es sh hT=>?_
   rcases leBs_get h.b nm _ hT with h1 | ⟨k',h1,h2⟩
   ·unfold virtB at h1
    split at h1
    ·exact hnv (by simpa using h1)
    ·cases h1
   ·cases k' <;> simp only [leK] at h2
    exact hb _ _ _ h1
  | mp nm B cap hu hm hb=>
   have hnv:nm ∉ vs:=fun hv'=>hnew nm hv' hu
   refine .mp nm B cap (hnx nm (by simp [V.names])) ((hμ nm hnv).trans hm) fun sz es sh hT=>?_
   rcases leBs_get h.b nm _ hT with h1 | ⟨k',h1,h2⟩
   ·unfold virtB at h1
    split at h1
    ·exact hnv (by simpa using h1)
    ·cases h1
   ·cases k' <;> simp only [leK] at h2
    exact hb _ _ _ h1
  | own v nm len sz es sh hu hb hs hl hv'=>simp [flat0] at hf
  | elem v nm len i j sz es sh hu hb hs hl hv'=>simp [flat0] at hf
  | fn f vs' ws ps qs hl hm hh hk=>simp [flat0] at hf
  | agg vs' ps hl hh=>simp [flat0] at hf
  | tup vs' ps hl hh=>simp [flat0] at hf
 rcases leV_cases hxy with rfl | rfl | ⟨rfl,nm,rfl,hnm'⟩
 ·exact .any v
 ·cases hr with
  | p v x h'=>exact .p v x h'
  | nils=>exact .nils
  | any v=>exact .any v
  | ref nm off B cap hu hm hb=>
   have hnv:nm ∉ vs:=fun hv'=>hnew nm hv' hu
   refine .ref nm off B cap (by simpa using hnm nm (by simp [V.names])) ((hμ nm hnv).trans hm) fun sz es sh hT=>?_
   rcases leBs_get h.b nm _ hT with h1 | ⟨k',h1,h2⟩
   ·unfold virtB at h1
    split at h1
    ·exact hnv (by simpa using h1)
    ·cases h1
   ·cases k' <;> simp only [leK] at h2
    exact hb _ _ _ h1
  | mp nm B cap hu hm hb=>
   have hnv:nm ∉ vs:=fun hv'=>hnew nm hv' hu
   refine .mp nm B cap (by simpa using hnm nm (by simp [V.names])) ((hμ nm hnv).trans hm) fun sz es sh hT=>?_
   rcases leBs_get h.b nm _ hT with h1 | ⟨k',h1,h2⟩
   ·unfold virtB at h1
    split at h1
    ·exact hnv (by simpa using h1)
    ·cases h1
   ·cases k' <;> simp only [leK] at h2
    exact hb _ _ _ h1
  | own v nm len sz es sh hu hb hs hl hv'=>
   have hnv:nm ∉ vs:=fun hv'=>hnew nm hv' hu
   have:=hkept nm sz es sh hnv hb (hneed nm (by simp [V.needs]))
   refine .own v nm len sz es sh (by simpa using hnm nm (by simp [V.names])) this hs hl fun e=>?_
   rw [hv' e]
   simp only [cur,hμ nm hnv]
  | elem v nm len i j sz es sh hu hb hs hl hv'=>
   have hnv:nm ∉ vs:=fun hv'=>hnew nm hv' hu
   have:=hkept nm sz es sh hnv hb (hneed nm (by simp [V.needs]))
   refine .elem v nm len i j sz es sh (by simpa using hnm nm (by simp [V.names])) this hs hl fun e=>?_
   rw [hμ nm hnv]
   exact hv' e
  | fn f vs' ws ps qs hl hm hh hk=>
   simp only [flatV,Bool.and_eq_true,List.all_eq_true] at hflat
   refine .fn f vs' ws ps qs hl hm (fun i v p hv hp=>?_) (fun i v p hv hp=>?_)
   ·exact hpart (hflat.1 p (List.mem_of_getElem? hp)) (fun n hn=>by simpa using hnm n (by simp only [V.names,List.mem_append];exact .inl (mem_namesL (List.mem_of_getElem? hp) hn))) (hh i v p hv hp)
   ·exact hpart (hflat.2 p (List.mem_of_getElem? hp)) (fun n hn=>by simpa using hnm n (by simp only [V.names,List.mem_append];exact .inr (mem_namesL (List.mem_of_getElem? hp) hn))) (hk i v p hv hp)
  | agg vs' ps hl hh=>
   simp only [flatV,List.all_eq_true] at hflat
   refine .agg vs' ps hl fun i v p hv hp=>?_
   exact hpart (hflat p (List.mem_of_getElem? hp)) (fun n hn=>by simpa using hnm n (by simp only [V.names];exact mem_namesL (List.mem_of_getElem? hp) hn)) (hh i v p hv hp)
  | tup vs' ps hl hh=>
   simp only [flatV,List.all_eq_true] at hflat
   refine .tup vs' ps hl fun i v p hv hp=>?_
   exact hpart (hflat p (List.mem_of_getElem? hp)) (fun n hn=>by simpa using hnm n (by simp only [V.names];exact mem_namesL (List.mem_of_getElem? hp) hn)) (hh i v p hv hp)
 ·cases hr with
  | nils=>
   obtain ⟨sz,hb⟩:=hvirt nm hnm'
   refine .own _ nm 0 sz [] false (by simpa using hnm nm (by simp [V.names])) hb rfl (Nat.le_refl _) fun _=>?_
   simp only [cur,hv nm hnm']
theorem Con.le' {vs:List Nat} {S T:St} (h:St.le vs S T) {a:Act} {w:World} {E:Env} {μ:Places} (hm:Mem cfg base E μ S.b S.u w) (ht:Tm E μ S a) :
  Mem cfg base E (fun n=>if n ∈ vs then none else μ n) T.b T.u w∧Tm E (fun n=>if n ∈ vs then none else μ n) T a:=by
 obtain ⟨h1,h2,h3⟩:=ht
 let μ':Places:=fun n=>if n ∈ vs then none else μ n
 show Mem cfg base E μ' T.b T.u w∧Tm E μ' T a
 have hμ:∀ n,n ∉ vs→μ' n = μ n:=fun n hn=>by simp [μ',hn]
 have hv:∀ n,n ∈ vs→μ' n=none:=fun n hn=>by simp [μ',hn]
 have hn:=h.names
 simp only [namesB,Bool.and_eq_true,List.all_eq_true,List.contains_iff_mem] at hn
 have hget:∀ n k,getB T.b n=some k→(n,k) ∈ T.b:=by
  intro n k
  generalize T.b=b
  induction b with
  | nil=>intro h;simp [getB] at h
  | cons p r ih=>
   obtain ⟨m,k₀⟩:=p
   intro h
   simp only [getB] at h
   split at h
   ·rename_i e;subst e;cases h;simp
   ·exact List.mem_cons_of_mem _ (ih h)
 have hblkvals:∀ n k y,getB T.b n=some k→y ∈ k.vals→y ∈ T.vals:=fun n k y hk hy=>List.mem_append_right _ (List.mem_flatMap.2 ⟨(n,k),hget n k hk,hy⟩)
 have hrep:∀ {v x y},Rep E μ S.b S.u v x→leV vs x y→y ∈ T.vals→Rep E μ' T.b T.u v y:=fun hr hxy hy=>rep_le h hμ hv hm.dom hr hxy hy
 have hvirtk:∀ n k,virtB vs n k=true→n ∈ vs∧∃ sz,k = .arr sz [] false:=by
  intro n k hk
  unfold virtB at hk
  split at hk
  ·rename_i sz;exact ⟨by simpa using hk,sz,rfl⟩
  ·cases hk
 have hold:∀ n k,getB T.b n=some k→(n ∈ vs∧∃ sz,k = .arr sz [] false) ∨ (n ∉ vs∧∃ k',getB S.b n=some k'∧leK vs k' k∧k'.mut=k.mut):=by
  intro n k hk
  rcases leBs_get h.b n k hk with h4 | ⟨k',h4,h5⟩
  ·exact .inl (hvirtk n k h4)
  ·by_cases hnv:n ∈ vs
   ·have:=h.new
    simp only [List.all_eq_true,Bool.not_eq_true',List.contains_eq_mem,decide_eq_false_iff_not] at this
    exact (this n hnv (hm.dom n k' h4)).elim
   ·refine .inr ⟨hnv,k',h4,h5,?_⟩
    cases k' <;> cases k <;> simp_all [leK,Blk.mut]
 refine ⟨⟨fun n k hk=>by simpa using hn.2 (n,k) (hget n k hk),fun n k hk=>?_,fun n m k l B C c d hk hl hkm hlm hB hC hnm=>?_,fun n k B c hk hkm hB=>?_,hm.cell,hm.obj,hm.le,hm.cnew,hm.onew,hm.os,hm.tape,hm.output,hm.size,hm.keep,hm.mp,hm.mnew,?_⟩,h1,by rw [h2,leT_len h.t],fun i v y hv' hy=>?_⟩
 ·rcases hold n k hk with ⟨hnv,sz,rfl⟩ | ⟨hnv,k',hk',hle,hkm₀⟩
  ·exact ⟨⟨by simp,fun i x hi=>by simp at hi⟩,.inl ⟨hv n hnv,rfl⟩⟩
  ·have hb:=hm.blk n k' hk'
   cases k' with
   | cells cs=>
    clear hkm₀
    obtain ⟨cs',rfl⟩:∃ cs',k = .cells cs':=by cases k <;> simp_all [leK]
    simp only [leK] at hle
    obtain ⟨B,cap,c,e1,e2,e3,e4,e5⟩:=hb
    refine ⟨B,cap,c,(hμ n hnv).trans e1,e2,by rw [e3,leT_len hle],fun i v y hv' hy=>?_,e5⟩
    have hlt:i < cs.length:=by
     rw [leT_len hle]
     rcases Nat.lt_or_ge i cs'.length with h' | h'
     ·exact h'
     ·simp [List.getElem?_eq_none h'] at hy
    exact hrep (e4 i v cs[i] hv' (by simp [hlt])) (leT_get hle i cs[i] y (by simp [hlt]) hy) (hblkvals n _ y hk (List.mem_of_getElem? hy))
   | frz cs=>
    cases k <;> simp only [leK] at hle
    subst hle
    obtain ⟨B,cap,e1,e2⟩:=hb
    exact ⟨B,cap,(hμ n hnv).trans e1,e2⟩
   | arr sz es sh=>
    cases k <;> simp only [leK] at hle
    obtain ⟨rfl,rfl,rfl⟩:=hle
    obtain ⟨e0,hb⟩:=hb
    refine ⟨e0,?_⟩
    rw [hμ n hnv]
    exact hb
   | map ks vs'=>
    cases k <;> simp only [leK] at hle
    obtain ⟨rfl,rfl⟩:=hle
    obtain ⟨B,cap,e1,e2⟩:=hb
    exact ⟨B,cap,(hμ n hnv).trans e1,e2⟩
   | vmap ks vs'=>
    cases k <;> simp only [leK] at hle
    obtain ⟨rfl,hle⟩:=hle
    obtain ⟨B,cap,e1,⟨es,clock,e2,e3,e4,e5,e7⟩,e6⟩:=hb
    refine ⟨B,cap,(hμ n hnv).trans e1,⟨es,clock,e2,e3,by rw [e4,leT_len hle],fun i e hi=>⟨(e5 i e hi).1,fun y hy=>?_⟩,e7⟩,e6⟩
    rename_i ys
    have hlt:i < vs'.length:=by
     rw [leT_len hle]
     exact (List.getElem?_eq_some_iff.1 hy).1
    exact hrep ((e5 i e hi).2 vs'[i] (by simp [hlt])) (leT_get hle i vs'[i] y (by simp [hlt]) hy) (hblkvals n _ y hk (List.mem_of_getElem? hy))
 ·rcases hold n k hk with ⟨hnv,sz,rfl⟩ | ⟨hnv,k',hk',_,hkm'⟩
  ·rw [hv n hnv] at hB;cases hB
  ·rcases hold m l hl with ⟨hnv',sz,rfl⟩ | ⟨hnv',l',hl',_,hlm'⟩
   ·rw [hv m hnv'] at hC;cases hC
   ·rw [hμ n hnv] at hB
    rw [hμ m hnv'] at hC
    exact hm.inj n m k' l' B C c d hk' hl' (by rw [hkm'];exact hkm) (by rw [hlm'];exact hlm) hB hC hnm
 ·rcases hold n k hk with ⟨hnv,sz,rfl⟩ | ⟨hnv,k',hk',_,hkm'⟩
  ·rw [hv n hnv] at hB;cases hB
  ·rw [hμ n hnv] at hB
   exact hm.live n k' B c hk' (by rw [hkm'];exact hkm) hB
 ·intro n B hpin
  obtain ⟨p1,p2,p3,p4⟩:=hm.pin n B hpin
  have hnv:n ∉ vs:=by
   intro hnv
   have:=h.new
   simp only [List.all_eq_true,Bool.not_eq_true',List.contains_eq_mem,decide_eq_false_iff_not] at this
   exact this n hnv p1
  refine ⟨?_,fun sz es sh hk=>?_,p3,(hμ n hnv).trans p4⟩
  ·have:=h.pins
   simp only [List.all_eq_true,Bool.or_eq_true,decide_eq_true_eq,List.contains_iff_mem] at this
   rcases this n p1 with h' | h'
   ·omega
   ·exact h'
  ·rcases hold n _ hk with ⟨hnv',_⟩ | ⟨_,k',hk',hle,_⟩
   ·exact hnv hnv'
   ·cases k' <;> simp only [leK] at hle
    exact p2 _ _ _ hk'
 ·have hlt:i < S.t.length:=by
   rw [leT_len h.t]
   rcases Nat.lt_or_ge i T.t.length with h' | h'
   ·exact h'
   ·simp [List.getElem?_eq_none h'] at hy
  exact hrep (h3 i v S.t[i] hv' (by simp [hlt])) (leT_get h.t i S.t[i] y (by simp [hlt]) hy) (List.mem_append_left _ (List.mem_of_getElem? hy))
theorem Con.le {vs:List Nat} {S T:St} (h:St.le vs S T) {a:Act} {w:World} (hcon:Con cfg base S a w):Con cfg base T a w:=by
 obtain ⟨E, μ,hm,ht⟩:=hcon
 obtain ⟨k1,k2⟩:=Con.le' h hm ht
 exact ⟨E,_,k1,k2⟩
theorem wpA_le {Q:Program} {c:Code} {R:Ex→St→Prop} {S:St} (vs:List Nat) (T:St) (h:St.le vs S T) (k:wpA cfg base Q c R T):wpA cfg base Q c R S:=fun a w hcon=>k a w (hcon.le h)
end
end Go.Abs
