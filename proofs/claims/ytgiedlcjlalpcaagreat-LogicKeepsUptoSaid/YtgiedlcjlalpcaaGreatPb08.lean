/- Part of a proof: Stop E0 Fld Lend WalkX Del2 C2 Q4 Q5 Prefix. -/
import Derived.Test.YtgiedlcjlalpcaaGreatPb01
import Derived.Test.YtgiedlcjlalpcaaGreatPb05
import Derived.Test.YtgiedlcjlalpcaaGreatPb06
import Derived.Test.YtgiedlcjlalpcaaGreatPb07
set_option linter.all false
namespace Go.Proofs.YtgiedlcjlalpcaaGreat
open Go.Abs
structure Stop (id:Nat):Prop where
 mk ::
structure Stopped (p:Prop):Prop where
 out:p
section
variable {base:Base} {R:Ex→St→Prop} {S:St}
theorem wpA_stopS {id:Nat} (st:Stop id) {ops:Array Oper} {dr:Bool} {y:Code} (h:Stopped (wpA cfg base Tryz.prog (.seq (.region id ops dr) y) R S)):wpA cfg base Tryz.prog (.seq (.region id ops dr) y) R S:=h.out
theorem wpA_stopR {id:Nat} (st:Stop id) {ops:Array Oper} {dr:Bool} (h:Stopped (wpA cfg base Tryz.prog (.region id ops dr) R S)):wpA cfg base Tryz.prog (.region id ops dr) R S:=h.out
end
section
variable {cfg:Cfg} {base:Base} {Q:Program} {σ:Nat→Nat} {S T:St} {B0 B1:Blks} {vs rs:List V}
theorem x_callN {o:Oper} {f:Operand} {args:Array Operand} {ts:Array TypeId} {g:FuncId} (h:CallM cfg Q g B0 vs rs B1) (ho:o.op = .call { callee:=.value f,args,argTypes:=ts })
  (h1:callArgs S f args=some (g,renVs σ vs)) (hL:Lend σ S S.b T B0 B1 vs) :
  XStep cfg Q o S fun S'=>S'=St.put ⟨T.t,lentB σ T B1,lentU σ T B1⟩ o.dst (renV σ (resVV rs)) (lentB σ T B1) (lentU σ T B1):=by
 intro base a w next R ⟨E, μ,hm,ht⟩ hn
 obtain ⟨fvs,fws,hf,hlen,hrep⟩:=callArgs_sound h1 ht
 obtain ⟨hmT,htT⟩:=hL.weak.mem cfg base E μ w a hm ht
 have hmC:=hL.enter hm
 obtain ⟨⟨fn,hfn,hbody,hname⟩,hcall⟩:=h
 have hargs:=hcall E _ w _ hmC (by rw [hlen,renVs_map,List.length_map]) (fun i v x hv hx=>by
  have:=hrep i v (renV σ x) hv (by rw [renVs_map,List.getElem?_map,hx];rfl)
  exact rep_unren hL.blk this x rfl fun n hnx=>hL.vals n (mem_namesL (List.mem_of_getElem? hx) hnx))
 have hrun:(execOp a.eval o).run Q w = .ok (.enter g (fvs ++ args.toList.map a.eval ++ fws).toArray) w:=by
  have harr:(fvs.toArray ++ args.map a.eval ++ fws.toArray)=(fvs ++ args.toList.map a.eval ++ fws).toArray:=by
   apply Array.ext';simp
  simp only [execOp,ho,resolve,hf,Deferred.ofValue,Sem.run_bind,Sem.run_pure,Result.andThen_ok,invoke,callFunc,run_program,hfn]
  rw [if_neg (by simp [hname]),if_neg (by simp [hbody]),harr]
  rfl
 simp only [Oper.wp,hrun,Oper.upon]
 refine hargs.mono fun e w' ⟨v,E₂, μ₂,hev,hmc,hres⟩=>?_
 subst hev
 obtain ⟨μ'',k1,k2,k3⟩:=hL.leave hm hmT hmc
 refine hn _ _ _ rfl ⟨E₂, μ'',?_,?_⟩
 ·cases o.dst <;> exact k2
 ·exact Tm.put (S:=T) htT k1 (k3.repRV hres) o.dst
end
def bareV:V→Bool
 | .p _=>true
 | .nils=>true
 | _=>false
theorem x_madeN {S:St} {o:Oper} {f:Operand} {args:Array Operand} {ts:Array TypeId} {g:FuncId} {vs:List V} {nm k sz:Nat} {es:List P} {d:Nat} (h:CallM cfg Tryz.prog g [] vs [.own nm k] [(nm,.arr sz es false)]) (ho:o.op = .call { callee:=.value f,args,argTypes:=ts })
  (hd:o.dst=some d) (h1:callArgs S f args=some (g,vs)) (h2:vs.all bareV=true) (hu:d ∉ S.u) :
  XStep cfg Tryz.prog o S fun S'=>S'=⟨S.t.set d (.own d k),(d,.arr sz es false) :: S.b.filter (fun p=>!(p.1 == d)),d :: S.u⟩:=by
 have hr:renVs (fun _=>d) vs=vs:=by
  rw [renVs_map]
  conv=>rhs;rw [← List.map_id vs]
  refine List.map_congr_left fun v hv=>?_
  have:=List.all_eq_true.1 h2 v hv
  cases v <;> simp_all [bareV,renV]
 have hn:V.namesL vs=[]:=by
  clear hr h1 h
  induction vs with
  | nil=>rfl
  | cons a r ih=>
   simp only [List.all_cons,Bool.and_eq_true] at h2
   have ha:a.names=[]:=by cases a <;> simp_all [bareV,V.names]
   simp [V.namesL,ha,ih h2.2]
 have hx:=x_callN (σ:=fun _=>d) (T:=S) h ho (by rw [hr];exact h1)
  {weak:=WeakTo.refl _
   blk:=fun n k hk=>by simp [getB] at hk
   keep:=fun n k hk=>by simp [getB] at hk
   gone:=fun n k hk=>by simp [getB] at hk
   inj:=fun n hn m hm _=>by simp [dom] at hn hm;rw [hn,hm]
   new:=fun n hn=>.inr ⟨hu,hu⟩
   vals:=fun n hm=>by rw [hn] at hm;simp at hm
   conts:=fun n k hk=>by simp [getB] at hk }
 have e:S.u.filter (fun n=>!(n == d))=S.u:=by
  rw [List.filter_eq_self]
  intro n hn
  have:n ≠ d:=fun e=>hu (e ▸ hn)
  simp [this]
 intro base a w next R hcon hn
 refine hx base a w next R hcon fun S' a' w' hS' hcon'=>hn S' a' w' ?_ hcon'
 rw [hS',hd]
 simp only [St.put,lentB,lentU,renBs,dom,List.map_cons,List.map_nil,renB,resVV,renV,List.cons_append,List.nil_append]
 have e':(fun n:Nat=>!([d].contains n))=fun n=>!(n == d):=by
  funext n;simp [List.contains_cons,Nat.beq_eq_true_eq,BEq.beq]
 have e'':(fun p:Nat × Blk=>!([d].contains p.1))=fun p=>!(p.1 == d):=by
  funext p;simp [List.contains_cons,BEq.beq]
 rw [e',e'',e]
end Go.Proofs.YtgiedlcjlalpcaaGreat
namespace Go.Proofs.YtgiedlcjlalpcaaGreat
open Go.Abs
theorem bodyM_2 {fn:Func} {S:St} {r x a b:P} (h1:resultVs cfg S fn.results.toList=some [.p x]) (hb:getB S.b 1000=some (.cells [.p a,.p b])∧x=r) (hu:S.u.contains 1000=true) (hu2:S.u.all (fun n=>n < 1000 || n == 1000)=true) :
  bodyM cfg fn [.p r] [(1000,.cells [.p a,.p b])] .ret S:=by
 obtain ⟨hb,rfl⟩:=hb
 refine ⟨[.p x],[.p x],S.b,h1,rfl,?_⟩
 refine ⟨⟨rfl,trivial⟩,⟨.inr ?_,trivial⟩,rfl,rfl,?_,?_,rfl⟩
 ·rw [hb];exact ⟨rfl,rfl,trivial⟩
 ·simp only [List.all_eq_true] at hu2 ⊢
  intro n hn
  have:=hu2 n hn
  simpa [dom,List.contains_cons,BEq.beq] using this
 ·simpa [dom] using hu
theorem x_lend {S:St} {o:Oper} {f:Operand} {args:Array Operand} {ts:Array TypeId} {g:FuncId} {vs:List V} {nm:Nat} {cs cs':List P} {rs:List P} (h:CallM cfg Tryz.prog g [(1000,.cells (cs.map .p))] vs (rs.map .p) [(1000,.cells (cs'.map .p))])
  (ho:o.op = .call { callee:=.value f,args,argTypes:=ts }) (h1:callArgs S f args=some (g,renVs (fun _=>nm) vs)) (hv:∀ n ∈ V.namesL vs,n=1000) (hb:getB S.b nm=some (.cells (cs.map .p))) :
  XStep cfg Tryz.prog o S fun S'=>S'=S.put o.dst (resV rs) ((nm,.cells (cs'.map .p)) :: S.b.filter (fun p=>!(p.1 == nm))) (nm :: S.u.filter (fun n=>!(n == nm))):=by
 have hm:∀ l:List P,renVs (fun _=>nm) (l.map .p)=l.map .p:=fun l=>by
  rw [renVs_map,List.map_map];rfl
 have hn:∀ l:List P,V.namesL (l.map .p)=[]:=by
  intro l;induction l with
  | nil=>rfl
  | cons a r ih=>simp [V.namesL,V.names,ih]
 have hx:=x_callN (σ:=fun _=>nm) (T:=S) h ho h1
  (lend_refl (b':=S.b) (S:=S) (fun n k hk=>by
    simp only [getB] at hk
    split at hk
    ·cases hk;simpa [renB,hm] using hb
    ·cases hk)
   (fun p hp=>by simp at hp;subst hp;exact ⟨rfl,Nat.le_refl _⟩)
   (fun n hn' m hm' _=>by simp [dom] at hn' hm';rw [hn',hm'])
   (fun n hn'=>by simp [dom] at hn' ⊢;exact .inl hn')
   (fun n hn'=>by simp [dom,hv n hn'])
   (fun p hp m hm'=>by simp at hp;subst hp;simp [Blk.vals,hn] at hm'))
 intro base a' w next R hcon hn'
 refine hx base a' w next R hcon fun S' a' w' hS' hcon'=>hn' S' a' w' ?_ hcon'
 have hres:renV (fun _=>nm) (resVV (rs.map .p))=resV rs:=by
  rcases rs with _ | ⟨r,_ | ⟨r2,rest⟩⟩
  ·rfl
  ·rfl
  ·simp only [List.map_cons,resVV,resV,renV]
   have:=hm (r :: r2 :: rest)
   simpa using this
 rw [hS',hres]
 have e':(fun n:Nat=>!([nm].contains n))=fun n=>!(n == nm):=by
  funext n;simp [BEq.beq]
 have e'':(fun p:Nat × Blk=>!([nm].contains p.1))=fun p=>!(p.1 == nm):=by
  funext p;simp [BEq.beq]
 simp only [lentB,lentU,renBs,dom,List.map_cons,List.map_nil,renB,hm,List.cons_append,List.nil_append,e',e'']
 cases o.dst <;> rfl
theorem bodyM_n {fn:Func} {S:St} {r x a:P} (h1:resultVs cfg S fn.results.toList=some [.p x]) (hb:getB S.b 1000=some (.cells [.p a])∧x=r) (hu:S.u.contains 1000=true) (hu2:S.u.all (fun n=>n < 1000 || n == 1000)=true) :
  bodyM cfg fn [.p r] [(1000,.cells [.p a])] .ret S:=by
 obtain ⟨hb,rfl⟩:=hb
 refine ⟨[.p x],[.p x],S.b,h1,rfl,?_⟩
 refine ⟨⟨rfl,trivial⟩,⟨.inr ?_,trivial⟩,rfl,rfl,?_,?_,rfl⟩
 ·rw [hb];exact ⟨rfl,trivial⟩
 ·simp only [List.all_eq_true] at hu2 ⊢
  intro n hn
  have:=hu2 n hn
  simpa [dom,List.contains_cons,BEq.beq] using this
 ·simpa [dom] using hu
theorem bodyM_0 {fn:Func} {S:St} {a:P} (h1:fn.results.toList=[]) (hb:getB S.b 1000=some (.cells [.p a])) (hu:S.u.contains 1000=true) (hu2:S.u.all (fun n=>n < 1000 || n == 1000)=true) :
  bodyM cfg fn [] [(1000,.cells [.p a])] .ret S:=by
 refine ⟨[],[],S.b,by rw [h1];rfl,rfl,?_⟩
 refine ⟨trivial,⟨.inr ?_,trivial⟩,rfl,rfl,?_,?_,rfl⟩
 ·rw [hb];exact ⟨rfl,trivial⟩
 ·simp only [List.all_eq_true] at hu2 ⊢
  intro n hn
  have:=hu2 n hn
  simpa [dom,List.contains_cons,BEq.beq] using this
 ·simpa [dom] using hu
theorem bodyM_normal {fn:Func} {rs:List V} {B1:Blks} {S:St} (h:bodyM cfg fn rs B1 .ret S):bodyM cfg fn rs B1 .normal S:=h
end Go.Proofs.YtgiedlcjlalpcaaGreat
namespace Go.Proofs.YtgiedlcjlalpcaaGreat
open Go.Abs
def aggP:P→Option (List P)
 | .agg cs=>some cs
 | _=>none
def fldV (i:Ty) (o:Nat):V→Option V
 | .p y=>match aggP y with | some cs=>partP i.agg i.size o cs | none=>none
 | .agg cs=>partV i.agg i.size o cs
 | _=>none
theorem fldV_p (i:Ty) (o:Nat) (y:P):fldV i o (.p y)=match aggP y with | some cs=>partP i.agg i.size o cs | none=>none:=rfl
theorem fldV_agg (i:Ty) (o:Nat) (cs:List V):fldV i o (.agg cs)=partV i.agg i.size o cs:=rfl
theorem aggP_agg (cs:List P):aggP (.agg cs)=some cs:=rfl
theorem aggP_col (c:Col):aggP c.p=some [.int .i64 c.kind,.bool c.null]:=rfl
theorem aggP_val (v:Val):aggP v.p=some [.int .i64 v.kind,.int .i64 v.int,.str v.text]:=rfl
theorem aggP_expr (e:Expr):aggP e.p=some [.int .i64 e.op,.int .i64 e.n,.int .i64 e.m,.int .i64 e.kind,.int .i64 e.lit.kind,.int .i64 e.lit.int,.str e.lit.text,.lst (Expr.ps e.args),.lst (Rel.ps e.rels)]:=by cases e;rfl
theorem evalOp_fieldP (cfg:Cfg) (d:Nat) (S:St) (t:TypeId) (x:Operand) (f:Nat):evalOp cfg d (.field t x f) S =
  (match cfg.ty t with
  | some ⟨.struct fs,_,_,_,_⟩=>
   match fs[f]? with
   | some (o,ft)=>
    match cfg.ty ft with
    | some i=>(fldV i o (opnd S.t x)).bind (fun v:V=>some (v,S.b,S.u))
    | none=>none
   | none=>none
  | _=>none):=by
 rw [evalOp_field]
 generalize opnd S.t x=y
 generalize cfg.ty t=q
 split
 ·split
  ·rename_i o ft hfo
   simp only [hfo]
   generalize cfg.ty ft=z
   cases z with
   | none=>rfl
   | some i=>
    cases y with
    | p q=>cases q <;> rfl
    | _=>rfl
  ·rename_i hfo
   simp only [hfo]
 ·rename_i h2
  split
  ·exact (h2 _ _ _ _ _ rfl).elim
  ·rfl
end Go.Proofs.YtgiedlcjlalpcaaGreat
namespace Go.Proofs.YtgiedlcjlalpcaaGreat
open Go.Abs
theorem bodyM_of {fn:Func} {S:St} {xs ys rs:List V} {b' B1:Blks} (h1:resultVs cfg S fn.results.toList=some xs) (h2:argM (dom B1) S.b xs=some (ys,b')) (ht:leT [] ys rs) (hb:∀ p ∈ B1,∃ k',getB b' p.1=some k'∧leK [] k' p.2)
  (hn:namesB ⟨rs,B1,dom B1⟩=true) (hu1:((dom B1).all fun n=>S.u.contains n)=true) (hu2:(S.u.all fun n=>n < 1000 || (dom B1).contains n)=true):bodyM cfg fn rs B1 .ret S:=by
 refine ⟨xs,ys,b',h1,h2,ht,?_,rfl,hn,hu2,?_,rfl⟩
 ·have:∀ B:Blks,(∀ p ∈ B,∃ k',getB b' p.1=some k'∧leK [] k' p.2)→leBs [] b' B:=by
   intro B
   induction B with
   | nil=>intro _;trivial
   | cons p r ih=>
    intro h
    obtain ⟨k',g1,g2⟩:=h p (by simp)
    refine ⟨.inr ?_,ih fun q hq=>h q (by simp [hq])⟩
    rw [g1];exact g2
  exact this B1 hb
 ·simp only [List.all_eq_true] at hu1 ⊢
  intro n hn'
  rw [hu1 n hn'];rfl
theorem x_lendM {S:St} {o:Oper} {f:Operand} {args:Array Operand} {ts:Array TypeId} {g:FuncId} {vs xs rs ys:List V} {B0 B1 b':Blks} (σ:Nat→Nat) (h:CallM cfg Tryz.prog g B0 vs rs B1) (ho:o.op = .call { callee:=.value f,args,argTypes:=ts })
  (h1:callArgs S f args=some (g,xs)) (h2:argM ((dom B0).map σ) S.b xs=some (ys,b')) (h3:ys=renVs σ vs) (hd:dom B1=dom B0) (hb:∀ p ∈ B0,getB b' (σ p.1)=some (renB σ p.2)) (hna:(B0.all fun p=>!isArr p.2 && decide (1000 ≤ p.1))=true)
  (hinj:((dom B0).all fun n=>(dom B0).all fun m=>!(σ n == σ m) || n == m)=true) (hv:((V.namesL vs).all fun n=>(dom B0).contains n)=true) (hc:(B0.all fun p=>(V.namesL p.2.vals).all fun m=>(dom B0).contains m)=true) :
  XStep cfg Tryz.prog o S fun S'=>S'=St.put ⟨S.t,b',S.u⟩ o.dst (renV σ (resVV rs)) (lentB σ ⟨S.t,b',S.u⟩ B1) (lentU σ ⟨S.t,b',S.u⟩ B1):=by
 refine x_callM (T:=⟨S.t,b',S.u⟩) h ho h1 h2 h3 (lend_refl (fun n k hk=>hb (n,k) (getB_mem hk)) (fun p hp=>?_) (fun n hn m hm e=>?_) (fun n hn=>.inl (hd ▸ hn)) (fun n hn=>?_) (fun p hp m hm=>?_))
 ·have:=List.all_eq_true.1 hna p hp
  simpa using this
 ·rw [hd] at hn hm
  have hn':n ∈ dom B0:=by simpa using hn
  have hm':m ∈ dom B0:=by simpa using hm
  have:=List.all_eq_true.1 (List.all_eq_true.1 hinj n hn') m hm'
  simp only [e,beq_self_eq_true,Bool.not_true,Bool.false_or,beq_iff_eq] at this
  exact this
 ·have:=List.all_eq_true.1 hv n hn
  simpa using this
 ·have:=List.all_eq_true.1 (List.all_eq_true.1 hc p hp) m hm
  simpa using this
end Go.Proofs.YtgiedlcjlalpcaaGreat
namespace Go.Proofs.YtgiedlcjlalpcaaGreat
open Go.Abs
set_option maxRecDepth 100000
structure NoV (n:Int):Prop where
structure AndN:Prop where
theorem andN (hnd:AndN) {A B:Prop} (h1:A) (h2:B):A∧B:=⟨h1,h2⟩
structure Hand (p:Prop):Type where
 out:p
section
variable {base:Base} {ops:Array Oper} {dr:Bool} {w:Option Bool} {g:FuncId} {ps:List P} {b:Blks} {o:Oper} {r:List Oper} {S:St} {fs:List Foot} {K:St→List Foot→Prop}
theorem mR_noV {cfg:Cfg} {Q:Program} {n:Int} (hno:NoV n) (k:runM cfg Q ops dr r (S.put o.dst (.p (.int .i64 n)) S.b S.u) (more dr ops o S.t fs) K):mR cfg Q ops dr false g ps o r S fs K:=mR_intro (rs:=[.int .i64 n]) (fun h=>by cases h) k
end
attribute [local irreducible] wpA Again LeJ
set_option hygiene false in
theorem walkX {G X Y:Prop} (hx:X) (hy:Y) (h:Hand X→Hand Y→G:=by
 intro hx hy
 repeat' (first
  | (refine wpA_stopS st0 ?_;first | (revert h' h;exact hx.out) | (revert h' h;exact hy.out) | (revert h;exact hx.out) | (revert h;exact hy.out) | (exact hx.out) | (exact hy.out) | (revert h' h;revert x0;exact hx.out) | (revert h' h;revert x0;exact hy.out) | (revert h;revert x0;exact hx.out) | (revert h;revert x0;exact hy.out) | (revert x0;exact hx.out) | (revert x0;exact hy.out) | (revert h' h;revert x1;exact hx.out) | (revert h' h;revert x1;exact hy.out) | (revert h;revert x1;exact hx.out) | (revert h;revert x1;exact hy.out) | (revert x1;exact hx.out) | (revert x1;exact hy.out) | (revert h' h;revert x1;revert x0;exact hx.out) | (revert h' h;revert x1;revert x0;exact hy.out) | (revert h;revert x1;revert x0;exact hx.out) | (revert h;revert x1;revert x0;exact hy.out) | (revert x1;revert x0;exact hx.out) | (revert x1;revert x0;exact hy.out))
  | (refine wpA_stopR st0 ?_;first | (revert h' h;exact hx.out) | (revert h' h;exact hy.out) | (revert h;exact hx.out) | (revert h;exact hy.out) | (exact hx.out) | (exact hy.out) | (revert h' h;revert x0;exact hx.out) | (revert h' h;revert x0;exact hy.out) | (revert h;revert x0;exact hx.out) | (revert h;revert x0;exact hy.out) | (revert x0;exact hx.out) | (revert x0;exact hy.out) | (revert h' h;revert x1;exact hx.out) | (revert h' h;revert x1;exact hy.out) | (revert h;revert x1;exact hx.out) | (revert h;revert x1;exact hy.out) | (revert x1;exact hx.out) | (revert x1;exact hy.out) | (revert h' h;revert x1;revert x0;exact hx.out) | (revert h' h;revert x1;revert x0;exact hy.out) | (revert h;revert x1;revert x0;exact hx.out) | (revert h;revert x1;revert x0;exact hy.out) | (revert x1;revert x0;exact hx.out) | (revert x1;revert x0;exact hy.out))
  | (refine wpA_stopS st1 ?_;first | (revert h' h;exact hx.out) | (revert h' h;exact hy.out) | (revert h;exact hx.out) | (revert h;exact hy.out) | (exact hx.out) | (exact hy.out) | (revert h' h;revert x0;exact hx.out) | (revert h' h;revert x0;exact hy.out) | (revert h;revert x0;exact hx.out) | (revert h;revert x0;exact hy.out) | (revert x0;exact hx.out) | (revert x0;exact hy.out) | (revert h' h;revert x1;exact hx.out) | (revert h' h;revert x1;exact hy.out) | (revert h;revert x1;exact hx.out) | (revert h;revert x1;exact hy.out) | (revert x1;exact hx.out) | (revert x1;exact hy.out) | (revert h' h;revert x1;revert x0;exact hx.out) | (revert h' h;revert x1;revert x0;exact hy.out) | (revert h;revert x1;revert x0;exact hx.out) | (revert h;revert x1;revert x0;exact hy.out) | (revert x1;revert x0;exact hx.out) | (revert x1;revert x0;exact hy.out))
  | (refine wpA_stopR st1 ?_;first | (revert h' h;exact hx.out) | (revert h' h;exact hy.out) | (revert h;exact hx.out) | (revert h;exact hy.out) | (exact hx.out) | (exact hy.out) | (revert h' h;revert x0;exact hx.out) | (revert h' h;revert x0;exact hy.out) | (revert h;revert x0;exact hx.out) | (revert h;revert x0;exact hy.out) | (revert x0;exact hx.out) | (revert x0;exact hy.out) | (revert h' h;revert x1;exact hx.out) | (revert h' h;revert x1;exact hy.out) | (revert h;revert x1;exact hx.out) | (revert h;revert x1;exact hy.out) | (revert x1;exact hx.out) | (revert x1;exact hy.out) | (revert h' h;revert x1;revert x0;exact hx.out) | (revert h' h;revert x1;revert x0;exact hy.out) | (revert h;revert x1;revert x0;exact hx.out) | (revert h;revert x1;revert x0;exact hy.out) | (revert x1;revert x0;exact hx.out) | (revert x1;revert x0;exact hy.out))
  | (refine wpA_stopS st2 ?_;first | (revert h' h;exact hx.out) | (revert h' h;exact hy.out) | (revert h;exact hx.out) | (revert h;exact hy.out) | (exact hx.out) | (exact hy.out) | (revert h' h;revert x0;exact hx.out) | (revert h' h;revert x0;exact hy.out) | (revert h;revert x0;exact hx.out) | (revert h;revert x0;exact hy.out) | (revert x0;exact hx.out) | (revert x0;exact hy.out) | (revert h' h;revert x1;exact hx.out) | (revert h' h;revert x1;exact hy.out) | (revert h;revert x1;exact hx.out) | (revert h;revert x1;exact hy.out) | (revert x1;exact hx.out) | (revert x1;exact hy.out) | (revert h' h;revert x1;revert x0;exact hx.out) | (revert h' h;revert x1;revert x0;exact hy.out) | (revert h;revert x1;revert x0;exact hx.out) | (revert h;revert x1;revert x0;exact hy.out) | (revert x1;revert x0;exact hx.out) | (revert x1;revert x0;exact hy.out))
  | (refine wpA_stopR st2 ?_;first | (revert h' h;exact hx.out) | (revert h' h;exact hy.out) | (revert h;exact hx.out) | (revert h;exact hy.out) | (exact hx.out) | (exact hy.out) | (revert h' h;revert x0;exact hx.out) | (revert h' h;revert x0;exact hy.out) | (revert h;revert x0;exact hx.out) | (revert h;revert x0;exact hy.out) | (revert x0;exact hx.out) | (revert x0;exact hy.out) | (revert h' h;revert x1;exact hx.out) | (revert h' h;revert x1;exact hy.out) | (revert h;revert x1;exact hx.out) | (revert h;revert x1;exact hy.out) | (revert x1;exact hx.out) | (revert x1;exact hy.out) | (revert h' h;revert x1;revert x0;exact hx.out) | (revert h' h;revert x1;revert x0;exact hy.out) | (revert h;revert x1;revert x0;exact hx.out) | (revert h;revert x1;revert x0;exact hy.out) | (revert x1;revert x0;exact hx.out) | (revert x1;revert x0;exact hy.out))
  | (refine wpA_seqZ fz0 (by rfl) (by rfl) fun K hK=>?_;refine goZ_id ?_;simp -implicitDefEqProofs [*];refine goZ_some ?_;refine hK.out _ _ ?_;clear hK;clear K)
  | (refine wpA_regZ fz0 (by rfl) (by rfl) fun K hK=>?_;refine goZ_id ?_;simp -implicitDefEqProofs [*];refine goZ_some ?_;refine hK.out _ _ ?_;clear hK;clear K)
  | (refine wpA_seqZ fz1 (by rfl) (by rfl) fun K hK=>?_;refine goZ_id ?_;simp -implicitDefEqProofs [*];refine goZ_some ?_;refine hK.out _ _ ?_;clear hK;clear K)
  | (refine wpA_regZ fz1 (by rfl) (by rfl) fun K hK=>?_;refine goZ_id ?_;simp -implicitDefEqProofs [*];refine goZ_some ?_;refine hK.out _ _ ?_;clear hK;clear K)
  | (refine wpA_seqD cfg_ok mix msk (by decide +kernel) fun K hK=>?_)
  | (refine wpA_seq ?_)
  | (refine wpA_block ?_)
  | (refine thenR_normal ?_)
  | (refine thenR_ret ?_)
  | (refine thenR_exit ?_)
  | (refine blockR_normal ?_)
  | (refine blockR_ret ?_)
  | (refine blockR_same ?_)
  | (refine blockR_other rfl ?_)
  | (refine wpA_skip ?_)
  | (refine wpA_ret ?_)
  | (refine wpA_exit ?_)
  | (refine wpA_regD cfg_ok mix msk (by decide +kernel) fun K hK=>?_)
  | (refine hK.out _ _ _ _ _ (by first | (intro h;cases h;done) | (intro _;kernel_rfl)) ?_;clear hK;clear K;try simp only [dropA,Nat.reducePow,Nat.reduceDiv,Nat.reduceMod, ↓reduceIte,Nat.reduceOr,Nat.zero_ne_one])
  | (refine wpA_condD msk (by first | (simp -implicitDefEqProofs [*];done) | (simp -implicitDefEqProofs [*];rfl)) ?_;try simp only [dropA,Nat.reducePow,Nat.reduceDiv,Nat.reduceMod, ↓reduceIte,Nat.reduceOr,Nat.zero_ne_one])
  | (refine bodyR_ret (by first | (simp -implicitDefEqProofs [*];done) | (simp -implicitDefEqProofs [*];rfl)) ?_)
  | (refine bodyR_normal (by first | (simp -implicitDefEqProofs [*];done) | (simp -implicitDefEqProofs [*];rfl)) ?_)
  | (refine runM_id ?_;simp -implicitDefEqProofs)
  | (refine mV_id ?_;simp -implicitDefEqProofs [*])
  | (refine mG_id ?_;simp -implicitDefEqProofs [*])
  | (refine mD_id ?_;simp -implicitDefEqProofs [*])
  | (refine mQ_intro Cal.out ?_)
  | (refine mR_intro (fun _=>Cal.out) ?_)
  | (refine mR_noV hno ?_)
  | (refine mR_no ?_)
  | (refine mQ_intro (pc0 (by first | assumption | omega | (simp -implicitDefEqProofs [*];done) | (simp -implicitDefEqProofs;omega))) ?_)
  | (refine mR_intro (fun hw=>pc0 (by first | assumption | omega | (simp -implicitDefEqProofs [*];done) | (simp -implicitDefEqProofs at hw;simp -implicitDefEqProofs [*];done))) ?_)
  | (refine mQ_intro (pc1 (by first | assumption | omega | (simp -implicitDefEqProofs [*];done) | (simp -implicitDefEqProofs;omega))) ?_)
  | (refine mR_intro (fun hw=>pc1 (by first | assumption | omega | (simp -implicitDefEqProofs [*];done) | (simp -implicitDefEqProofs at hw;simp -implicitDefEqProofs [*];done))) ?_)
  | (refine mQ_intro (pc2 (by first | assumption | omega | (simp -implicitDefEqProofs [*];done) | (simp -implicitDefEqProofs;omega))) ?_)
  | (refine mR_intro (fun hw=>pc2 (by first | assumption | omega | (simp -implicitDefEqProofs [*];done) | (simp -implicitDefEqProofs at hw;simp -implicitDefEqProofs [*];done))) ?_)
  | (refine mQ_intro (pc3 (by first | assumption | omega | (simp -implicitDefEqProofs [*];done) | (simp -implicitDefEqProofs;omega))) ?_)
  | (refine mR_intro (fun hw=>pc3 (by first | assumption | omega | (simp -implicitDefEqProofs [*];done) | (simp -implicitDefEqProofs at hw;simp -implicitDefEqProofs [*];done))) ?_)
  | (refine mQ_intro (pc4 (by first | assumption | omega | (simp -implicitDefEqProofs [*];done) | (simp -implicitDefEqProofs;omega))) ?_)
  | (refine mR_intro (fun hw=>pc4 (by first | assumption | omega | (simp -implicitDefEqProofs [*];done) | (simp -implicitDefEqProofs at hw;simp -implicitDefEqProofs [*];done))) ?_)
  | (refine mQ_intro (pc5 (by first | assumption | omega | (simp -implicitDefEqProofs [*];done) | (simp -implicitDefEqProofs;omega))) ?_)
  | (refine mR_intro (fun hw=>pc5 (by first | assumption | omega | (simp -implicitDefEqProofs [*];done) | (simp -implicitDefEqProofs at hw;simp -implicitDefEqProofs [*];done))) ?_)
  | (refine mQ_id ?_;simp -implicitDefEqProofs [*])
  | (refine mR_id ?_;simp -implicitDefEqProofs [*])
  | (refine goB_true ?_)
  | (refine andN hnd (by first | assumption | (simp -implicitDefEqProofs [*];done)) ?_)
  | (refine goB_false ?_)
  | (refine headLD ld0 leS (by first | exact ⟨by first | exact Nat.zero_le _ | omega,by first | trivial | (simp -implicitDefEqProofs [*];done),by first | rfl | (simp -implicitDefEqProofs [*];done)⟩ | (simp -implicitDefEqProofs [*];done)) ?_;rintro x0 ⟨hi0,hs0,hn0⟩ ny0 nz0;(try simp only [headM,List.nil_append,List.cons_append,dropA,Nat.reducePow,Nat.reduceDiv,Nat.reduceMod, ↓reduceIte,Nat.reduceOr,Nat.zero_ne_one]);have hj0:x0.1 ≤ 4294967296:=by omega)
  | (refine headLD ld0 leS (by first | exact ⟨by first | exact Nat.zero_le _ | omega,by first | trivial | (simp -implicitDefEqProofs [*];done),by first | rfl | (simp -implicitDefEqProofs [*];done)⟩ | (simp -implicitDefEqProofs [*];done)) ?_;rintro x0 ⟨hi0,hs0,hn0⟩ ny0 nz0;(try simp only [headM,List.nil_append,List.cons_append,dropA,Nat.reducePow,Nat.reduceDiv,Nat.reduceMod, ↓reduceIte,Nat.reduceOr,Nat.zero_ne_one]);have hj0:x0 ≤ 4294967296:=by omega)
  | (refine headLD ld1 leS (by first | exact ⟨by first | exact Nat.zero_le _ | omega,by first | trivial | (simp -implicitDefEqProofs [*];done),by first | rfl | (simp -implicitDefEqProofs [*];done)⟩ | (simp -implicitDefEqProofs [*];done)) ?_;rintro x1 ⟨hi1,hs1,hn1⟩ ny1 nz1;(try simp only [headM,List.nil_append,List.cons_append,dropA,Nat.reducePow,Nat.reduceDiv,Nat.reduceMod, ↓reduceIte,Nat.reduceOr,Nat.zero_ne_one]);have hj1:x1.1 ≤ 4294967296:=by omega)
  | (refine headLD ld1 leS (by first | exact ⟨by first | exact Nat.zero_le _ | omega,by first | trivial | (simp -implicitDefEqProofs [*];done),by first | rfl | (simp -implicitDefEqProofs [*];done)⟩ | (simp -implicitDefEqProofs [*];done)) ?_;rintro x1 ⟨hi1,hs1,hn1⟩ ny1 nz1;(try simp only [headM,List.nil_append,List.cons_append,dropA,Nat.reducePow,Nat.reduceDiv,Nat.reduceMod, ↓reduceIte,Nat.reduceOr,Nat.zero_ne_one]);have hj1:x1 ≤ 4294967296:=by omega)
  | (refine headLD ld2 leS (by first | exact ⟨by first | exact Nat.zero_le _ | omega,by first | trivial | (simp -implicitDefEqProofs [*];done),by first | rfl | (simp -implicitDefEqProofs [*];done)⟩ | (simp -implicitDefEqProofs [*];done)) ?_;rintro x2 ⟨hi2,hs2,hn2⟩ ny2 nz2;(try simp only [headM,List.nil_append,List.cons_append,dropA,Nat.reducePow,Nat.reduceDiv,Nat.reduceMod, ↓reduceIte,Nat.reduceOr,Nat.zero_ne_one]);have hj2:x2.1 ≤ 4294967296:=by omega)
  | (refine headLD ld2 leS (by first | exact ⟨by first | exact Nat.zero_le _ | omega,by first | trivial | (simp -implicitDefEqProofs [*];done),by first | rfl | (simp -implicitDefEqProofs [*];done)⟩ | (simp -implicitDefEqProofs [*];done)) ?_;rintro x2 ⟨hi2,hs2,hn2⟩ ny2 nz2;(try simp only [headM,List.nil_append,List.cons_append,dropA,Nat.reducePow,Nat.reduceDiv,Nat.reduceMod, ↓reduceIte,Nat.reduceOr,Nat.zero_ne_one]);have hj2:x2 ≤ 4294967296:=by omega)
  | (refine headLD ld3 leS (by first | exact ⟨by first | exact Nat.zero_le _ | omega,by first | trivial | (simp -implicitDefEqProofs [*];done),by first | rfl | (simp -implicitDefEqProofs [*];done)⟩ | (simp -implicitDefEqProofs [*];done)) ?_;rintro x3 ⟨hi3,hs3,hn3⟩ ny3 nz3;(try simp only [headM,List.nil_append,List.cons_append,dropA,Nat.reducePow,Nat.reduceDiv,Nat.reduceMod, ↓reduceIte,Nat.reduceOr,Nat.zero_ne_one]);have hj3:x3.1 ≤ 4294967296:=by omega)
  | (refine headLD ld3 leS (by first | exact ⟨by first | exact Nat.zero_le _ | omega,by first | trivial | (simp -implicitDefEqProofs [*];done),by first | rfl | (simp -implicitDefEqProofs [*];done)⟩ | (simp -implicitDefEqProofs [*];done)) ?_;rintro x3 ⟨hi3,hs3,hn3⟩ ny3 nz3;(try simp only [headM,List.nil_append,List.cons_append,dropA,Nat.reducePow,Nat.reduceDiv,Nat.reduceMod, ↓reduceIte,Nat.reduceOr,Nat.zero_ne_one]);have hj3:x3 ≤ 4294967296:=by omega)
  | (refine goB_intro (fun h=>?_) (fun h=>?_) <;> (try simp only [Bool.not_eq_true',Bool.not_eq_false',Bool.not_eq_true,Bool.not_eq_false,Bool.and_eq_true,Bool.or_eq_false_iff,and_assoc,decide_eq_true_eq,decide_eq_false_iff_not,Nat.not_lt,Nat.not_le,Int.ofNat_lt,Int.ofNat_le,Int.not_lt,Int.not_le] at h) <;> (try have g:=ne_of_beqI h) <;> (repeat (have h':=And.left h;replace h:=And.right h)) <;> (try (have hz0:=Eq.symm hn0;rw [List.drop_eq_nil_of_le h] at hz0;simp -implicitDefEqProofs at hz0)) <;> (try (have hz1:=Eq.symm hn1;rw [List.drop_eq_nil_of_le h] at hz1;simp -implicitDefEqProofs at hz1)) <;> (try (have hz3:=Eq.symm hn3;rw [List.drop_eq_nil_of_le h] at hz3;simp -implicitDefEqProofs at hz3)) <;> (try (have hz0:=Eq.symm hn0;rw [hst0.out] at hz0;rw [dif_neg (by first | exact Nat.not_lt.mpr h | omega)] at hz0)) <;> (try (have hz1:=Eq.symm hn1;rw [hst1.out] at hz1;rw [dif_neg (by first | exact Nat.not_lt.mpr h | omega)] at hz1)) <;> (try (have hz2:=Eq.symm hn2;rw [hst2.out] at hz2;rw [dif_neg (by first | exact Nat.not_lt.mpr h | omega)] at hz2)) <;> (try (have hz3:=Eq.symm hn3;rw [hst3.out] at hz3;rw [dif_neg (by first | exact Nat.not_lt.mpr h | omega)] at hz3)))
  | (refine bodyM_2 (by first | (simp -implicitDefEqProofs [*];done) | (simp -implicitDefEqProofs [*];rfl)) (by first | (simp -implicitDefEqProofs [*];done) | (simp -implicitDefEqProofs [*];omega)) (by rfl) (by rfl))
  | (refine bodyM_n (by first | (simp -implicitDefEqProofs [*];done) | (simp -implicitDefEqProofs [*];rfl)) (by first | (simp -implicitDefEqProofs [*];done) | (simp -implicitDefEqProofs [*];omega)) (by rfl) (by rfl)))
 all_goals first
  | (exact leJ_intro leS)
  | rfl
  | (refine again_nx ny3 (by first | assumption | omega | (dsimp only;omega)) (by first | omega | (dsimp only;omega)) ?_ leS;dsimp only;(first | rw [List.drop_eq_getElem_cons (by assumption)] at hn3 | rw [hst3.out] at hn3);refine ⟨by omega,by first | trivial | omega | (simp -implicitDefEqProofs [*];done) | (simp -implicitDefEqProofs;omega),?_⟩;first | (simpa -implicitDefEqProofs [*] using hn3) | (rw [← hn3];clear hn3;simp -implicitDefEqProofs [*];done))
  | (refine again_nx ny2 (by first | assumption | omega | (dsimp only;omega)) (by first | omega | (dsimp only;omega)) ?_ leS;dsimp only;(first | rw [List.drop_eq_getElem_cons (by assumption)] at hn2 | rw [hst2.out] at hn2);refine ⟨by omega,by first | trivial | omega | (simp -implicitDefEqProofs [*];done) | (simp -implicitDefEqProofs;omega),?_⟩;first | (simpa -implicitDefEqProofs [*] using hn2) | (rw [← hn2];clear hn2;simp -implicitDefEqProofs [*];done))
  | (refine again_nx nz3 (by first | assumption | omega | (dsimp only;omega)) (by first | omega | (dsimp only;omega)) ?_ leS;dsimp only;(first | rw [List.drop_eq_getElem_cons (by assumption)] at hn3 | rw [hst3.out] at hn3);refine ⟨by omega,by first | trivial | omega | (simp -implicitDefEqProofs [*];done) | (simp -implicitDefEqProofs;omega),?_⟩;first | (simpa -implicitDefEqProofs [*] using hn3) | (rw [← hn3];clear hn3;simp -implicitDefEqProofs [*];done))
  | (refine again_nx nz2 (by first | assumption | omega | (dsimp only;omega)) (by first | omega | (dsimp only;omega)) ?_ leS;dsimp only;(first | rw [List.drop_eq_getElem_cons (by assumption)] at hn2 | rw [hst2.out] at hn2);refine ⟨by omega,by first | trivial | omega | (simp -implicitDefEqProofs [*];done) | (simp -implicitDefEqProofs;omega),?_⟩;first | (simpa -implicitDefEqProofs [*] using hn2) | (rw [← hn2];clear hn2;simp -implicitDefEqProofs [*];done))
  | (refine again_nx ny1 (by first | assumption | omega | (dsimp only;omega)) (by first | omega | (dsimp only;omega)) ?_ leS;dsimp only;(first | rw [List.drop_eq_getElem_cons (by assumption)] at hn1 | rw [hst1.out] at hn1);refine ⟨by omega,by first | trivial | omega | (simp -implicitDefEqProofs [*];done) | (simp -implicitDefEqProofs;omega),?_⟩;first | (simpa -implicitDefEqProofs [*] using hn1) | (rw [← hn1];clear hn1;simp -implicitDefEqProofs [*];done))
  | (refine again_nx nz1 (by first | assumption | omega | (dsimp only;omega)) (by first | omega | (dsimp only;omega)) ?_ leS;dsimp only;(first | rw [List.drop_eq_getElem_cons (by assumption)] at hn1 | rw [hst1.out] at hn1);refine ⟨by omega,by first | trivial | omega | (simp -implicitDefEqProofs [*];done) | (simp -implicitDefEqProofs;omega),?_⟩;first | (simpa -implicitDefEqProofs [*] using hn1) | (rw [← hn1];clear hn1;simp -implicitDefEqProofs [*];done))
  | (refine again_nx ny0 (by first | assumption | omega | (dsimp only;omega)) (by first | omega | (dsimp only;omega)) ?_ leS;dsimp only;(first | rw [List.drop_eq_getElem_cons (by assumption)] at hn0 | rw [hst0.out] at hn0);refine ⟨by omega,by first | trivial | omega | (simp -implicitDefEqProofs [*];done) | (simp -implicitDefEqProofs;omega),?_⟩;first | (simpa -implicitDefEqProofs [*] using hn0) | (rw [← hn0];clear hn0;simp -implicitDefEqProofs [*];done))
  | (refine again_nx nz0 (by first | assumption | omega | (dsimp only;omega)) (by first | omega | (dsimp only;omega)) ?_ leS;dsimp only;(first | rw [List.drop_eq_getElem_cons (by assumption)] at hn0 | rw [hst0.out] at hn0);refine ⟨by omega,by first | trivial | omega | (simp -implicitDefEqProofs [*];done) | (simp -implicitDefEqProofs;omega),?_⟩;first | (simpa -implicitDefEqProofs [*] using hn0) | (rw [← hn0];clear hn0;simp -implicitDefEqProofs [*];done))
  | (simp -implicitDefEqProofs [*];done)
  | ((first | rw [List.drop_eq_getElem_cons (by assumption)] at hn3 | rw [List.drop_eq_nil_of_le (by assumption)] at hn3 | rw [hst3.out] at hn3);rw [← hn3];first | rfl | (simp -implicitDefEqProofs [*];done))
  | ((first | rw [List.drop_eq_getElem_cons (by assumption)] at hn2 | rw [List.drop_eq_nil_of_le (by assumption)] at hn2 | rw [hst2.out] at hn2);rw [← hn2];first | rfl | (simp -implicitDefEqProofs [*];done))
  | ((first | rw [List.drop_eq_getElem_cons (by assumption)] at hn1 | rw [List.drop_eq_nil_of_le (by assumption)] at hn1 | rw [hst1.out] at hn1);rw [← hn1];first | rfl | (simp -implicitDefEqProofs [*];done))
  | ((first | rw [List.drop_eq_getElem_cons (by assumption)] at hn0 | rw [List.drop_eq_nil_of_le (by assumption)] at hn0 | rw [hst0.out] at hn0);rw [← hn0];first | rfl | (simp -implicitDefEqProofs [*];done))
  | ((first | rw [List.drop_eq_getElem_cons (by assumption)] at hn3 | rw [List.drop_eq_nil_of_le (by assumption)] at hn3 | rw [hst3.out] at hn3);(try simp -implicitDefEqProofs [*] at hn3);(try simp -implicitDefEqProofs);grind)
  | ((first | rw [List.drop_eq_getElem_cons (by assumption)] at hn2 | rw [List.drop_eq_nil_of_le (by assumption)] at hn2 | rw [hst2.out] at hn2);(try simp -implicitDefEqProofs [*] at hn2);(try simp -implicitDefEqProofs);grind)
  | ((first | rw [List.drop_eq_getElem_cons (by assumption)] at hn1 | rw [List.drop_eq_nil_of_le (by assumption)] at hn1 | rw [hst1.out] at hn1);(try simp -implicitDefEqProofs [*] at hn1);(try simp -implicitDefEqProofs);grind)
  | ((first | rw [List.drop_eq_getElem_cons (by assumption)] at hn0 | rw [List.drop_eq_nil_of_le (by assumption)] at hn0 | rw [hst0.out] at hn0);(try simp -implicitDefEqProofs [*] at hn0);(try simp -implicitDefEqProofs);grind)
  | (rcases Nx.em ny3 with hq | hq <;> (try simp only [Nat.not_lt] at hq) <;> (first | (rw [List.drop_eq_getElem_cons hq] at hn3;rw [← hn3];(try simp [hq] at h);first | (simp -implicitDefEqProofs [*];done) | (simp -implicitDefEqProofs;grind) | grind) | (rw [List.drop_eq_nil_of_le hq] at hn3;rw [← hn3];first | rfl | (simp -implicitDefEqProofs [*];done) | (simp -implicitDefEqProofs;grind) | grind) | (rw [hst3.out] at hn3;rw [← hn3];(try simp [hq] at h);first | rfl | (simp -implicitDefEqProofs [*];done) | (simp -implicitDefEqProofs [*];grind) | grind)))
  | (rcases Nx.em ny2 with hq | hq <;> (try simp only [Nat.not_lt] at hq) <;> (first | (rw [List.drop_eq_getElem_cons hq] at hn2;rw [← hn2];(try simp [hq] at h);first | (simp -implicitDefEqProofs [*];done) | (simp -implicitDefEqProofs;grind) | grind) | (rw [List.drop_eq_nil_of_le hq] at hn2;rw [← hn2];first | rfl | (simp -implicitDefEqProofs [*];done) | (simp -implicitDefEqProofs;grind) | grind) | (rw [hst2.out] at hn2;rw [← hn2];(try simp [hq] at h);first | rfl | (simp -implicitDefEqProofs [*];done) | (simp -implicitDefEqProofs [*];grind) | grind)))
  | (rcases Nx.em ny1 with hq | hq <;> (try simp only [Nat.not_lt] at hq) <;> (first | (rw [List.drop_eq_getElem_cons hq] at hn1;rw [← hn1];(try simp [hq] at h);first | (simp -implicitDefEqProofs [*];done) | (simp -implicitDefEqProofs;grind) | grind) | (rw [List.drop_eq_nil_of_le hq] at hn1;rw [← hn1];first | rfl | (simp -implicitDefEqProofs [*];done) | (simp -implicitDefEqProofs;grind) | grind) | (rw [hst1.out] at hn1;rw [← hn1];(try simp [hq] at h);first | rfl | (simp -implicitDefEqProofs [*];done) | (simp -implicitDefEqProofs [*];grind) | grind)))
  | (rcases Nx.em ny0 with hq | hq <;> (try simp only [Nat.not_lt] at hq) <;> (first | (rw [List.drop_eq_getElem_cons hq] at hn0;rw [← hn0];(try simp [hq] at h);first | (simp -implicitDefEqProofs [*];done) | (simp -implicitDefEqProofs;grind) | grind) | (rw [List.drop_eq_nil_of_le hq] at hn0;rw [← hn0];first | rfl | (simp -implicitDefEqProofs [*];done) | (simp -implicitDefEqProofs;grind) | grind) | (rw [hst0.out] at hn0;rw [← hn0];(try simp [hq] at h);first | rfl | (simp -implicitDefEqProofs [*];done) | (simp -implicitDefEqProofs [*];grind) | grind)))
  | (simp -implicitDefEqProofs [*];grind) | grind | (simp_all -implicitDefEqProofs;done)
  | (refine bodyM_normal (bodyM_of rfl rfl trivial ?_ (by rfl) (by rfl) (by rfl));simp [getB,leK,leT,leV];done)
  | (refine bodyM_of rfl rfl trivial ?_ (by rfl) (by rfl) (by rfl);simp [getB,leK,leT,leV];done)
  | (first | (revert h' h;exact hx.out) | (revert h' h;exact hy.out) | (revert h;exact hx.out) | (revert h;exact hy.out) | (exact hx.out) | (exact hy.out) | (revert h' h;revert x0;exact hx.out) | (revert h' h;revert x0;exact hy.out) | (revert h;revert x0;exact hx.out) | (revert h;revert x0;exact hy.out) | (revert x0;exact hx.out) | (revert x0;exact hy.out) | (revert h' h;revert x1;exact hx.out) | (revert h' h;revert x1;exact hy.out) | (revert h;revert x1;exact hx.out) | (revert h;revert x1;exact hy.out) | (revert x1;exact hx.out) | (revert x1;exact hy.out) | (revert h' h;revert x1;revert x0;exact hx.out) | (revert h' h;revert x1;revert x0;exact hy.out) | (revert h;revert x1;revert x0;exact hx.out) | (revert h;revert x1;revert x0;exact hy.out) | (revert x1;revert x0;exact hx.out) | (revert x1;revert x0;exact hy.out))):G:=h ⟨hx⟩ ⟨hy⟩
end Go.Proofs.YtgiedlcjlalpcaaGreat
namespace Go.Proofs.YtgiedlcjlalpcaaGreat
open Go.Abs Go.RowKit
set_option maxRecDepth 100000
theorem setCells_blk {B:Nat} {t:TypeId} {fz:Nat × Nat}:∀ (vs:List Value) (o:Nat) (w:World) (c:Array Value),w.heap[B]? = some (.cells c t fz) →
  ∃ c',(w.setCells B o vs).heap[B]? = some (.cells c' t fz)∧c'.size=c.size∧∀ q,c'[q]? = if o ≤ q∧q < o + vs.length∧q < c.size then vs[q - o]? else c[q]?
 | [],o,w,c,h=>⟨c,h,rfl,fun q=>by rw [if_neg (by simp;omega)]⟩
 | v :: r,o,w,c,h=>by
  have h1:(w.setCell ⟨B,o,none⟩ v).heap[B]? = some (.cells (c.setIfInBounds o v) t fz):=by
   simp [World.setCell,Array.getElem?_modify,h]
  obtain ⟨c',h2,h3,h4⟩:=setCells_blk r (o + 1) (w.setCell ⟨B,o,none⟩ v) _ h1
  refine ⟨c',h2,by simpa using h3,fun q=>?_⟩
  rw [h4 q]
  simp only [Array.size_setIfInBounds,List.length_cons]
  by_cases hq:q < c.size
  ·by_cases h5:o + 1 ≤ q∧q < o + 1 + r.length
   ·rw [if_pos ⟨h5.1,h5.2,hq⟩,if_pos ⟨by omega,by omega,hq⟩,show q - o=q - (o + 1) + 1 by omega,List.getElem?_cons_succ]
   ·rw [if_neg (by omega)]
    by_cases h6:q=o
    ·subst h6
     rw [if_pos ⟨Nat.le_refl _,by omega,hq⟩,Nat.sub_self,List.getElem?_cons_zero,Array.getElem?_setIfInBounds_self,if_pos hq]
    ·rw [if_neg (by omega),Array.getElem?_setIfInBounds_ne (Ne.symm h6)]
  ·rw [if_neg (by omega),if_neg (by omega)]
   have e1:(c.setIfInBounds o v)[q]? = none:=Array.getElem?_eq_none (by simp;omega)
   have e2:c[q]? = none:=Array.getElem?_eq_none (by omega)
   rw [e1,e2]
theorem setCells_rest (B:Nat):∀ (vs:List Value) (o:Nat) (w:World),(w.setCells B o vs).heap.size=w.heap.size∧(w.setCells B o vs).os=w.os∧(w.setCells B o vs).tape=w.tape∧(w.setCells B o vs).output=w.output∧∀ j,j ≠ B→(w.setCells B o vs).heap[j]? = w.heap[j]?
 | [],o,w=>⟨rfl,rfl,rfl,rfl,fun _ _=>rfl⟩
 | v :: r,o,w=>by
  obtain ⟨h1,h2,h3,h4,h5⟩:=setCells_rest B r (o + 1) (w.setCell ⟨B,o,none⟩ v)
  refine ⟨h1.trans (by simp [World.setCell]),h2,h3,h4,fun j hj=>(h5 j hj).trans ?_⟩
  simp [World.setCell,Array.getElem?_modify,Ne.symm hj]
theorem zero29 (w:World):∃ z:Value,(zeroValue 29).run Tryz.prog w = .ok z w∧z.cells.size=9∧(∀ v ∈ z.cells.toList,v.oneCell'=true):=by
 obtain ⟨z,h1,h2,h3⟩:=cfg_ok.run_zeroValue (w:=w) (t:=29) ty29
 refine ⟨z,h1,h3,fun v hv=>?_⟩
 obtain ⟨q,hq,rfl⟩:=List.getElem_of_mem hv
 have hl:=zerosB_len h2
 have hx:q < ([.p (.int .i64 0),.p (.int .i64 0),.p (.int .i64 0),.p (.int .i64 0),.p (.int .i64 0),.p (.int .i64 0),.p (.str ⟨#[]⟩),.nils,.nils]:List V).length:=by rw [← hl];exact hq
 have hr:=zerosB_sound h2 ⟨fun _ _=>none,fun _=>none,fun _=>none⟩ (fun _=>none) [] [] q _ _ (List.getElem?_eq_getElem hq) (List.getElem?_eq_getElem hx)
 refine oneCell_of_rep hr ?_
 have hq9:q < 9:=hx
 match q,hq9 with
 | 0,_=>rfl
 | 1,_=>rfl
 | 2,_=>rfl
 | 3,_=>rfl
 | 4,_=>rfl
 | 5,_=>rfl
 | 6,_=>rfl
 | 7,_=>rfl
 | 8,_=>rfl
theorem run_clear9 (w:World) (B o m c:Nat) (hm:0 < m) (hc:∀ j,j < m * 9→(w.cell? ⟨B,o + j,none⟩).isSome=true) (hf:∀ j,j < m * 9→w.frozen? ⟨B,o + j,none⟩=false) :
  ∃ zs:List Value,zs.length=m * 9∧∀ ty,(Builtin.clear_ #[26] ty #[.slice (some ⟨B,o,none⟩) m c]).run Tryz.prog w = .ok (.tuple #[]) (w.setCells B o zs):=by
 obtain ⟨z,h1,h2,h3⟩:=zero29 w
 have hlen:(Builtin.zeroCells z.cells m).toList.length=m * 9:=by simp [Builtin.zeroCells,h2]
 have hone:∀ v ∈ (Builtin.zeroCells z.cells m).toList,v.oneCell'=true:=by
  intro v hv
  simp only [Builtin.zeroCells,Array.toList_map,List.mem_map] at hv
  obtain ⟨q,_,rfl⟩:=hv
  have hq:q % z.cells.size < z.cells.size:=Nat.mod_lt _ (by omega)
  rw [getElem!_pos z.cells _ hq]
  exact h3 _ (by simp)
 refine ⟨(Builtin.zeroCells z.cells m).toList,hlen,fun ty=>?_⟩
 have hst:=run_storeCells_cells (P:=Tryz.prog) B o (Builtin.zeroCells z.cells m).toList 0 w (by simpa [hlen] using hc) (by simpa [hlen] using hf) hone
 simp only [Nat.add_zero] at hst
 obtain ⟨k,rfl⟩:∃ k,m=k + 1:=⟨m - 1,by omega⟩
 simp [Builtin.clear_,run_underlying und26,h1,hst]
theorem callM232 (l:List Expr) (i j:Nat) (hij:i < j) (hj:j ≤ l.length) :
  CallM cfg Tryz.prog 232 [(1000,.arr 9 (Expr.ps l) false)] [.own 1000 l.length,.p (.int .i64 i),.p (.int .i64 j)] [.own 1001 (l.length - (j - i))] [(1001,.arr 9 (Expr.ps (l.take i ++ l.drop j)) false)]:=by
 refine ⟨⟨_,Tryz.func232,rfl,rfl⟩,fun E μ w cvs hm hlen hrep=>?_⟩
 match cvs,hlen with
 | [v0,v1,v2],_=>
 have r0:=hrep 0 v0 _ rfl rfl
 have r1:=(hrep 1 v1 _ rfl rfl).inv_p
 have r2:=(hrep 2 v2 _ rfl rfl).inv_p
 have e1:v1 = .int .i64 i:=by cases r1;rfl
 have e2:v2 = .int .i64 j:=by cases r2;rfl
 subst e1;subst e2
 obtain ⟨⟨hlim,hok⟩,hb⟩:=hm.blk 1000 _ rfl
 rw [eps_len] at hlim
 rcases hb with ⟨_,h0⟩ | ⟨B,cap,c,f1,⟨tt,f2⟩,f3,f4,f5,f6⟩
 ·have:l.length=0:=by rw [← eps_len,h0];rfl
  omega
 rw [eps_len] at f4
 have ev:v0 = .slice (some ⟨B,0,none⟩) l.length cap:=by
  cases r0 with
  | own _ _ _ sz es sh hu hb hs hl hv=>
   have hb':some (Blk.arr 9 (Expr.ps l) false)=some (.arr sz es sh):=hb
   cases hb'
   rw [hv (by rw [eps_len])]
   simp [cur,f1]
 subst ev
 have hE0:∀ o,E.cell B o=none:=fun o=>f6 o (fun h=>by cases h)
 have hcell:∀ q,q < l.length * 9→∃ v,c[q]? = some v∧v.oneCell'=true:=by
  intro q hq
  have hq':q / 9 < l.length:=by omega
  have hx:(Expr.ps l)[q / 9]? = some (l[q / 9].p):=by simp [Expr.ps_map,hq']
  have hc9:(l[q / 9].p).cells.length=9:=hok _ _ hx
  have hy:(l[q / 9].p).cells[q % 9]? = some ((l[q / 9].p).cells[q % 9]'(by rw [hc9];omega)):=List.getElem?_eq_getElem _
  obtain ⟨v,g1,g2,_⟩:=f5 _ _ hx _ _ hy
  rw [show q / 9 * 9 + q % 9=q by omega] at g1
  refine ⟨v,g1,oneCell_of_repP g2 ?_⟩
  have hall:=elemOk_e l[q / 9]
  simp only [elemOk,Bool.and_eq_true,List.all_eq_true] at hall
  exact hall.2 _ (List.getElem_mem _)
 obtain ⟨news,hnews⟩:∃ news,news=(c.toList.drop (j * 9)).take ((l.length - j) * 9):=⟨_,rfl⟩
 have hcs:l.length * 9 ≤ c.size:=by rw [← f3];omega
 have hnl:news.length=(l.length - j) * 9:=by
  rw [hnews];simp;omega
 have hnget:∀ t,t < (l.length - j) * 9→news[t]? = c[j * 9 + t]?:=by
  intro t ht
  rw [hnews,List.getElem?_take,if_pos ht,List.getElem?_drop]
  simp
 have hd:w.drew.heap=w.heap:=rfl
 obtain ⟨A,hA,hsrc⟩:∃ A:Addr,(if cap=j then some (⟨B,0,none⟩:Addr) else some ⟨B,j * 9,none⟩)=some A∧(∀ t u,news[t]? = some u→w.drew.cell? (A.add t)=some u):=by
  by_cases h:cap=j
  ·refine ⟨⟨B,0,none⟩,by simp [h],fun t u hu=>?_⟩
   have:news.length=0:=by rw [hnl];omega
   rw [List.length_eq_zero_iff.1 this] at hu
   simp at hu
  ·refine ⟨⟨B,j * 9,none⟩,by simp [h],fun t u hu=>?_⟩
   have ht:t < (l.length - j) * 9:=by
    have:=(List.getElem?_eq_some_iff.1 hu).1
    rwa [hnl] at this
   rw [hnget t ht] at hu
   rw [Addr.add_lit]
   show w.cell? _=_
   rw [cell_of_blockAt ⟨tt,f2⟩]
   exact hu
 obtain ⟨W1,hW1⟩:∃ W1,W1=w.drew.setCells B (0 + i * 9) news:=⟨_,rfl⟩
 obtain ⟨c1,q1,q2,q3⟩:=setCells_blk news (0 + i * 9) w.drew c f2
 obtain ⟨p1,p2,p3,p4,p5⟩:=setCells_rest B news (0 + i * 9) w.drew
 rw [← hW1] at q1 p1 p2 p3 p4 p5
 have hm1:0 < l.length - (i + (l.length - j)):=by omega
 obtain ⟨zs,z1,z2⟩:=run_clear9 W1 B ((i + (l.length - j)) * 9) (l.length - (i + (l.length - j))) (cap - (i + (l.length - j))) hm1
  (fun q hq=>by
   rw [cell_of_blockAt ⟨tt,q1⟩]
   have:(i + (l.length - j)) * 9 + q < c1.size:=by rw [q2];omega
   simp [this])
  (fun q hq=>by simp [World.frozen?,q1])
 obtain ⟨c2,s1,s2,s3⟩:=setCells_blk zs ((i + (l.length - j)) * 9) W1 c1 q1
 obtain ⟨t1,t2,t3,t4,t5⟩:=setCells_rest B zs ((i + (l.length - j)) * 9) W1
 obtain ⟨i0,hi0,hz1⟩:∃ i0,Tryz.prog.info? 29=some i0∧i0.size=9:=by
  obtain ⟨inf,z,d,g1,g2,_⟩:=cfg_ok.info (t:=29) ty29
  exact ⟨inf,g1,g2⟩
 have hrow:∀ q,q < (i + (l.length - j)) * 9→c2[q]? = if q < i * 9 then c[q]? else c[q - i * 9 + j * 9]?:=by
  intro q hq
  rw [s3 q,if_neg (by omega),q3 q]
  by_cases h:q < i * 9
  ·rw [if_pos h,if_neg (by omega)]
  ·rw [if_neg h,if_pos ⟨by omega,by rw [hnl];omega,by omega⟩,hnget _ (by omega)]
   congr 1;omega
 have hown:(baseM w E [(1000,.arr 9 (Expr.ps l) false)] μ).L B:=⟨1000,_,cap,rfl,rfl,f1⟩
 have hlenr:(l.take i ++ l.drop j).length=i + (l.length - j):=by simp;omega
 refine del232 B cap l.length i j w W1 _ _ hij hj (by omega) i0 hi0 hz1 A news hA hsrc hnl (fun u hu=>?_) (fun t ht=>?_) hW1 z2 ?_
 ·obtain ⟨t,ht,rfl⟩:=List.getElem_of_mem hu
  obtain ⟨v,g1,g2⟩:=hcell (j * 9 + t) (by rw [hnl] at ht;omega)
  have:=hnget t (by rw [hnl] at ht;exact ht)
  rw [List.getElem?_eq_getElem ht,g1] at this
  cases this
  exact g2
 ·rw [hnl] at ht
  constructor
  ·show (w.cell? _).isSome=true
   rw [cell_of_blockAt ⟨tt,f2⟩]
   have:i * 9 + t < c.size:=by omega
   simp [this]
  ·show w.frozen? _=false
   simp [World.frozen?,f2]
 ·refine ⟨_,E,fun m=>if m=1001 then some (B,cap) else μ m,rfl,?_,?_⟩
  ·refine ⟨?_,?_,?_,?_,?_,hm.obj,Env.le_refl E,fun _ _ _ h=>.inl h,fun _ _ h=>.inl h,?_,?_,?_,?_,?_,?_,fun _ _ h=>.inl h,?_⟩
   ·intro n k hk
    simp only [getB] at hk
    split at hk
    ·rename_i e;subst e;simp [dom]
    ·cases hk
   ·intro n k hk
    simp only [getB] at hk
    split at hk
    ·rename_i e
     subst e
     cases hk
     refine ⟨⟨by rw [eps_len,hlenr];omega,fun q x hx=>?_⟩,.inr ⟨B,cap,c2,by simp,⟨tt,s1⟩,by rw [s2,q2];exact f3,by rw [eps_len,hlenr];omega,fun q x hx y z hz=>?_,fun o _=>hE0 o⟩⟩
     ·rw [Expr.ps_map,List.getElem?_map,Option.map_eq_some_iff] at hx
      obtain ⟨a,_,rfl⟩:=hx
      rw [expr_cells];rfl
     ·have hx':=hx
      rw [Expr.ps_map,List.getElem?_map,Option.map_eq_some_iff] at hx'
      obtain ⟨a,ha,rfl⟩:=hx'
      have hqlt:q < i + (l.length - j):=by
       have:=(List.getElem?_eq_some_iff.1 ha).1
       rwa [hlenr] at this
      have hz9:y < 9:=by
       have:=(List.getElem?_eq_some_iff.1 hz).1
       rw [expr_cells] at this
       exact this
      rw [hrow (q * 9 + y) (by omega)]
      by_cases hqi:q < i
      ·rw [if_pos (by omega)]
       have ha':l[q]? = some a:=by
        rw [List.getElem?_append_left (by simp;omega),List.getElem?_take,if_pos hqi] at ha
        exact ha
       obtain ⟨v,g1,g2,_⟩:=f5 q a.p (by simp [Expr.ps_map,ha']) y z hz
       exact ⟨v,g1,g2,fun e=>by cases e⟩
      ·rw [if_neg (by omega)]
       have ha':l[j + (q - i)]? = some a:=by
        rw [List.getElem?_append_right (by simp;omega),List.getElem?_drop] at ha
        rw [← ha]
        congr 1
        simp;omega
       obtain ⟨v,g1,g2,_⟩:=f5 (j + (q - i)) a.p (by simp [Expr.ps_map,ha']) y z hz
       refine ⟨v,?_,g2,fun e=>by cases e⟩
       rw [← g1]
       congr 1;omega
    ·cases hk
   ·intro n m k k' A' C' d d' hk hk' _ _ _ _ hne
    simp only [getB] at hk hk'
    split at hk
    ·split at hk'
     ·omega
     ·cases hk'
    ·cases hk
   ·intro n k A' d hk _ hA'
    simp only [getB] at hk
    split at hk
    ·rename_i e
     subst e
     simp only [if_true,Option.some.injEq,Prod.mk.injEq] at hA'
     rw [← hA'.1]
     exact .inr hown
    ·cases hk
   ·intro C o v hv
    have hC:C ≠ B:=by rintro rfl;rw [hE0] at hv;cases hv
    have:=hm.cell C o v hv
    rw [← this]
    refine World.cell?_of_block ?_
    exact (t5 C hC).trans (p5 C hC)
   ·exact t2.trans p2
   ·exact t3.trans p3
   ·exact t4.trans p4
   ·show w.heap.size ≤ _
    rw [t1,p1];exact Nat.le_refl _
   ·intro q _ hL
    have hq:q ≠ B:=by rintro rfl;exact hL hown
    exact (t5 q hq).trans (p5 q hq)
   ·intro C ks vs hC
    have hma:=hm.mp C ks vs hC
    have hCB:C ≠ B:=by
     rintro rfl
     obtain ⟨es,clock,hes,_⟩:=hma
     rw [f2] at hes;cases hes
    exact hma.mono (Env.le_refl E) ((t5 C hCB).trans (p5 C hCB))
   ·intro n B' h
    simp only [baseM,ownP] at h
    split at h
    ·rename_i h1000
     simp only [getB] at h
     split at h
     ·rename_i k hk
      split at hk
      ·cases hk;simp [isArr] at h
      ·cases hk
     ·cases h
    ·cases h
  ·show Rep E _ _ _ _ _
   refine .own _ 1001 _ 9 (Expr.ps (l.take i ++ l.drop j)) false (by simp [dom]) rfl rfl (by rw [eps_len,hlenr];omega) fun _=>?_
   simp [cur]
   omega
end Go.Proofs.YtgiedlcjlalpcaaGreat
namespace Go.Proofs.YtgiedlcjlalpcaaGreat
open Go.Abs Go.RowKit Go.Lib
set_option maxHeartbeats 4000000
set_option maxRecDepth 1000000
theorem und3:Tryz.prog.underlying 3=some (.int .i64):=by kernel_rfl
theorem run_app_make (w:World) (n:Nat) (h0:0 < n) (hn:n ≤ 4294967296):∃ (z:Value),z.cells.size=9∧∀ ty,(Builtin.append_ #[26,3] ty #[.slice none 0 0,.int .i64 n]).run Tryz.prog w =
  .ok (.slice (some ⟨w.heap.size,0,none⟩) n (grownCap w n 0 29)) (w.drew.alloc (.cells (#[] ++ Builtin.zeroCells z.cells n ++ Builtin.zeroCells z.cells (grownCap w n 0 29 - n)) 29)):=by
 obtain ⟨inf,z,d,g1,g2,g3,g4,g5,g6,_⟩:=cfg_ok.info (t:=29) ty29
 have g2:inf.size=9:=g2
 have g3:inf.bytes=112:=g3
 refine ⟨z,g6,fun ty=>?_⟩
 have hw:IntKind.i64.wrap (n:Int)=n:=wrap_nat (by omega)
 have h48:Builtin.nextslicecap (0 + n) 0 * inf.bytes ≤ 281474976710656:=growslice_fits (by omega) (by rw [g3];omega)
 rw [Nat.zero_add] at h48
 have h48':¬ (281474976710656 < Builtin.nextslicecap n 0 * inf.bytes):=by omega
 have hb:¬ ((281474976710656:Int) < (n:Int) * (inf.bytes:Int)):=by rw [g3];omega
 have h9:¬ (n * inf.size=0):=by rw [g2];omega
 have hs:¬ (n=0):=by omega
 have hi0:¬ inf.size=0:=by rw [g2];omega
 have h63:¬ (9223372036854775807 < (n:Int)):=by omega
 have hlt:¬ ((n:Int) < 0):=by omega
 simp [Builtin.append_,run_underlying und26,run_underlying und3,sizeOf,typeInfo,zeroValue,g1,g4,asInt,asIntOf,hw,hb,hlt,hs,h48',h63,h9,hi0,Question.forced,Builtin.firstCells,newRow,grownCap]
theorem wpList_mk {ops:Array Oper} {rest:List Oper} {o:Oper} {a:Act} {w W:World} {Q:Exit→Act→World→Prop} (hgd:o.guard=none) (s x:Operand)
  (ho:o.op = .call { callee:=.builtin .append,args:=#[s,x],argTypes:=#[26,3] }) (n:Nat) (v:Value) (hs:a.eval s = .slice none 0 0) (hx:a.eval x = .int .i64 n)
  (happ:∀ ty,(Builtin.append_ #[26,3] ty #[.slice none 0 0,.int .i64 n]).run Tryz.prog w = .ok v W) (h:wpList Tryz.prog ops Q rest (a.put o.dst v) W):wpList Tryz.prog ops Q (o :: rest) a w:=by
 refine wpList_plain hgd fun K hK=>?_
 unfold Oper.wp
 simp [execOp,ho,resolve,invoke,builtin,hs,hx,happ,Result.andThen]
 exact hK _ _ h
theorem grow275 (w:World) (n:Nat) (h0:0 < n) (hn:n ≤ 4294967296) (K:Ending→World→Prop) (W:World) (cap:Nat)
  (happ:∀ ty,(Builtin.append_ #[26,3] ty #[.slice none 0 0,.int .i64 n]).run Tryz.prog w = .ok (.slice (some ⟨w.heap.size,0,none⟩) n cap) W)
  (hK:Go.RowKit.Hid (K (.returned (.slice (some ⟨w.heap.size,0,none⟩) 0 cap)) W)) :
  Calls Tryz.prog 275 #[.slice none 0 0,.int .i64 n] w K:=by
 have mixed:Tryz.prog.follows Departure.mixedOrders=true:=by kernel_rfl
 have hw:IntKind.i64.wrap (n:Int)=n:=wrap_nat (by omega)
 have hlt:¬ ((n:Int) < 0):=by omega
 have hgt:(0:Int) < (n:Int):=by omega
 go_enter Tryz.func275,Tryz.ntmps275
 go_wp2_with (at_builtin;refine wpList_mk rfl _ _ rfl n _ rfl rfl happ ?_)
 go_wp2
 exact hK.out
end Go.Proofs.YtgiedlcjlalpcaaGreat
namespace Go.Proofs.YtgiedlcjlalpcaaGreat
open Go.Abs
theorem args1 {e:Expr} (h:Inner e) (ho:e.op=9 ∨ e.op=11 ∨ e.op=21 ∨ e.op=22 ∨ e.op=23):∃ a,e.args=[a]:=by
 have hm:=h.many
 unfold many at hm
 rw [if_pos (by simpa [or_assoc] using ho)] at hm
 match hh:e.args with
 | [a]=>exact ⟨a,rfl⟩
 | []=>rw [hh] at hm;simp at hm
 | _ :: _ :: _=>rw [hh] at hm;simp at hm;omega
theorem args2 {e:Expr} (h:Inner e) (ho:e.op ≤ 18) (h9:e.op ≠ 9) (h11:e.op ≠ 11):∃ a b,e.args=[a,b]:=by
 have hm:=h.many
 have hlo:=h.lo
 unfold many at hm
 rw [if_neg (by simp;omega),if_neg (by simp;omega),if_neg (by simp;omega)] at hm
 simp at hm
 have hm2:e.args.length=2:=by omega
 match hh:e.args with
 | [a,b]=>exact ⟨a,b,rfl⟩
 | []=>rw [hh] at hm2;simp at hm2
 | [_]=>rw [hh] at hm2;simp at hm2
 | _ :: _ :: _ :: _=>rw [hh] at hm2;simp at hm2
theorem args_case {e:Expr} (h:Inner e) (ho:e.op=24):3 ≤ e.args.length∧e.args.length % 2=1:=by
 have hm:=h.many
 unfold many at hm
 rw [if_neg (by simp [ho]),if_neg (by simp [ho]),if_pos (by simp [ho])] at hm
 have ht:((e.args.length:Int)).tmod 2=((e.args.length % 2:Nat):Int):=rfl
 rw [ht] at hm
 simp at hm;omega
theorem args_list {e:Expr} (h:Inner e) (ho:e.op=19 ∨ e.op=20 ∨ e.op=25):2 ≤ e.args.length∧e.args.length ≤ 16:=by
 have hm:=h.many
 unfold many at hm
 rw [if_neg (by simp;omega),if_pos (by simpa [or_assoc] using ho)] at hm
 simp at hm;omega
def okV (k:Int) (v:Val):Prop:=real k=true∧rightV v=true∧(v.kind=0 ∨ v.kind=k)
theorem okV_int (n:Int):okV 1 (intW n):=⟨rfl,right_int n,.inr rfl⟩
theorem okV_bool (b:Bool):okV 2 (boolW b):=⟨rfl,right_bool b,.inr rfl⟩
theorem okV_null {k:Int} (h:real k=true):okV k nullW:=⟨h,right_null,.inl rfl⟩
theorem okV_div (op x y:Int):okV 1 (divided op x y):=by
 unfold divided
 repeat' split
 all_goals first | exact okV_int _ | exact okV_null rfl
theorem okV_not {v:Val} (h:okV 2 v):okV 2 (notV v):=by
 unfold notV
 split
 ·exact h
 ·exact okV_bool _
theorem okV_and (l:List Val):okV 2 (andV l):=by
 unfold andV
 repeat' split
 all_goals first | exact okV_bool _ | exact okV_null rfl
theorem okV_or (l:List Val):okV 2 (orVs l):=by
 unfold orVs
 repeat' split
 all_goals first | exact okV_bool _ | exact okV_null rfl
theorem okV_coal {k:Int} (hk:real k=true):∀ (l:List Val),(∀ v ∈ l,okV k v)→okV k (coalV l)
 | [],_=>okV_null hk
 | v :: r,h=>by
  simp only [coalV]
  split
  ·exact h v (by simp)
  ·exact okV_coal hk r fun w hw=>h w (by simp [hw])
theorem okV_case {k:Int} (last:Val) (hlast:okV k last):∀ (l:List Expr) (cols:List Col),caseOK k (l.map (kd cols))=true→(∀ a ∈ l,okV (kd cols a) a.lit)→okV k (caseV last (l.map Expr.lit))
 | [],_,_,_=>hlast
 | [_],_,_,_=>hlast
 | t :: v :: r,cols,hc,hl=>by
  have hc':(kd cols t == 2 && kd cols v == k && caseOK k (r.map (kd cols)))=true:=hc
  simp only [Bool.and_eq_true,beq_iff_eq] at hc'
  simp only [List.map_cons,caseV]
  split
  ·have:=hl v (by simp)
   rw [hc'.1.2] at this
   exact this
  ·exact okV_case last hlast r cols hc'.2 fun a ha=>hl a (by simp [ha])
theorem okV_last {k:Int}:∀ (l:List Expr) (cols:List Col),caseOK k (l.map (kd cols))=true→(∀ a ∈ l,okV (kd cols a) a.lit)→okV k (lastV (l.map Expr.lit))
 | [],_,h,_=>by simp [caseOK] at h
 | [v],cols,h,hl=>by
  have h':kd cols v=k:=by simpa [caseOK] using h
  have:=hl v (by simp)
  rw [h'] at this
  exact this
 | t :: v :: [],cols,h,hl=>by
  have hc':(kd cols t == 2 && kd cols v == k && caseOK k [])=true:=h
  simp [caseOK] at hc'
 | t :: v :: c :: r,cols,h,hl=>by
  have hc':(kd cols t == 2 && kd cols v == k && caseOK k ((c :: r).map (kd cols)))=true:=h
  simp only [Bool.and_eq_true] at hc'
  exact okV_last (c :: r) cols hc'.2 fun a ha=>hl a (by simp at ha ⊢;exact .inr (.inr ha))
theorem allK1_mem {k:Int} {cols:List Col} {l:List Expr} (h:allK1 k (l.map (kd cols))=true):∀ a ∈ l,kd cols a=k:=by
 intro a ha
 simp only [allK1,List.all_eq_true,List.mem_map] at h
 simpa using h _ ⟨a,ha,rfl⟩
theorem okV_lit {cols:List Col} {e:Expr} {k:Int} (h:Has cols e k) (h3:e.op=3):okV k e.lit:=by
 have:=has_isLit h h3
 exact ⟨this.real,this.right,this.kinds⟩
theorem strict_val {k:Int} {op:Int} {l:List Val} (r:Val) (hr:okV k r) (hk:real k=true):okV k (if anyNullV l then nullW else r):=by
 split
 ·exact okV_null hk
 ·exact hr
theorem value_right {cols:List Col} {e:Expr} {k:Int} (h:Has cols e k) (h4:4 ≤ e.op) (hl:∀ a ∈ e.args,a.op=3):okV k (valueV e (e.args.map Expr.lit)):=by
 have hi:=nodeR_inner (wf_node h.wf) (by omega) (by omega) (by omega)
 obtain ⟨ha,hs⟩:=has_elim h h4
 have hv:∀ a ∈ e.args,okV (kd cols a) a.lit:=fun a h1=>okV_lit (ha a h1) (hl a h1)
 have hh:=hi.hi
 have strict:e.op ≤ 17→valueV e (e.args.map Expr.lit)=if anyNullV (e.args.map Expr.lit) then nullW else strictV e.op (e.args.map Expr.lit):=by
  intro h17
  unfold valueV
  rw [if_neg (by simp;omega),if_neg (by simp;omega),if_neg (by simp;omega),if_neg (by simp;omega),if_neg (by simp;omega),if_neg (by simp;omega),if_neg (by simp;omega),if_neg (by simp;omega),if_neg (by simp;omega)]
 have cases:e.op=4 ∨ e.op=5 ∨ e.op=6 ∨ e.op=7 ∨ e.op=8 ∨ e.op=9 ∨ e.op=10 ∨ e.op=11 ∨ (12 ≤ e.op∧e.op ≤ 17) ∨ e.op=18 ∨ e.op=19 ∨ e.op=20 ∨ e.op=21 ∨ e.op=22 ∨ e.op=23 ∨ e.op=24 ∨ e.op=25:=by omega
 rcases cases with h' | h' | h' | h' | h' | h' | h' | h' | h' | h' | h' | h' | h' | h' | h' | h' | h'
 ·have hk:k=1:=by simp [sig,h'] at hs;exact hs.2
  subst hk;rw [strict (by omega),h']
  exact strict_val (op:=4) _ (okV_int _) rfl
 ·have hk:k=1:=by simp [sig,h'] at hs;exact hs.2
  subst hk;rw [strict (by omega),h']
  exact strict_val (op:=4) _ (okV_int _) rfl
 ·have hk:k=1:=by simp [sig,h'] at hs;exact hs.2
  subst hk;rw [strict (by omega),h']
  exact strict_val (op:=4) _ (okV_int _) rfl
 ·have hk:k=1:=by simp [sig,h'] at hs;exact hs.2
  subst hk;rw [strict (by omega),h']
  exact strict_val (op:=4) _ (okV_div _ _ _) rfl
 ·have hk:k=1:=by simp [sig,h'] at hs;exact hs.2
  subst hk;rw [strict (by omega),h']
  exact strict_val (op:=4) _ (okV_div _ _ _) rfl
 ·have hk:k=1:=by simp [sig,h'] at hs;exact hs.2
  subst hk;rw [strict (by omega),h']
  exact strict_val (op:=4) _ (okV_int _) rfl
 ·have hk:k=3∧allK1 3 (e.args.map (kd cols))=true:=by simp [sig,h'] at hs;exact ⟨hs.2,hs.1⟩
  obtain ⟨rfl,hk1⟩:=hk
  rw [strict (by omega),h']
  obtain ⟨a,b,hab⟩:=args2 hi (by omega) (by omega) (by omega)
  have hka:=allK1_mem hk1
  have va:=hv a (by simp [hab])
  have vb:=hv b (by simp [hab])
  rw [hka a (by simp [hab])] at va
  rw [hka b (by simp [hab])] at vb
  rw [hab]
  simp only [List.map_cons,List.map_nil]
  split
  ·exact okV_null rfl
  ·rename_i hn
   simp [anyNullV] at hn
   have a3:a.lit.kind=3:=va.2.2.resolve_left hn.1
   have b3:b.lit.kind=3:=vb.2.2.resolve_left hn.2
   exact ⟨rfl,right_cat (right_text va.2.1 a3).2 (right_text vb.2.1 b3).2,.inr rfl⟩
 ·have hk:k=1:=by simp [sig,h'] at hs;exact hs.2
  subst hk;rw [strict (by omega),h']
  exact strict_val (op:=4) _ (okV_int _) rfl
 ·have hk:k=2:=by
   unfold sig at hs
   rw [if_neg (by simp;omega),if_neg (by simp;omega),if_neg (by simp;omega),if_neg (by simp;omega),if_neg (by simp;omega),if_neg (by simp;omega),if_neg (by simp;omega)] at hs
   simp at hs;exact hs.2
  subst hk;rw [strict (by omega)]
  have hc:∃ b,strictV e.op (e.args.map Expr.lit)=boolW b:=by
   have cases:e.op=12 ∨ e.op=13 ∨ e.op=14 ∨ e.op=15 ∨ e.op=16 ∨ e.op=17:=by omega
   rcases cases with h | h | h | h | h | h <;> rw [h] <;> exact ⟨_,rfl⟩
  obtain ⟨b,hb⟩:=hc
  rw [hb]
  exact strict_val (op:=4) _ (okV_bool _) rfl
 ·have hk:k=2:=by simp [sig,h'] at hs;exact hs.2
  subst hk
  rw [show valueV e (e.args.map Expr.lit)=boolW ((e.args.map Expr.lit).getD 0 nullW == (e.args.map Expr.lit).getD 1 nullW) by simp [valueV,h']]
  exact okV_bool _
 ·have hk:k=2:=by simp [sig,h'] at hs;exact hs.2
  subst hk
  rw [show valueV e (e.args.map Expr.lit)=andV (e.args.map Expr.lit) by simp [valueV,h']]
  exact okV_and _
 ·have hk:k=2:=by simp [sig,h'] at hs;exact hs.2
  subst hk
  rw [show valueV e (e.args.map Expr.lit)=orVs (e.args.map Expr.lit) by simp [valueV,h']]
  exact okV_or _
 ·have hk:k=2∧allK1 2 (e.args.map (kd cols))=true:=by simp [sig,h'] at hs;exact ⟨hs.2,hs.1⟩
  obtain ⟨rfl,hk1⟩:=hk
  obtain ⟨a,hab⟩:=args1 hi (by omega)
  have va:=hv a (by simp [hab])
  rw [allK1_mem hk1 a (by simp [hab])] at va
  rw [show valueV e (e.args.map Expr.lit)=notV a.lit by simp [valueV,h',hab]]
  exact okV_not va
 ·have hk:k=2:=by simp [sig,h'] at hs;exact hs
  subst hk
  rw [show valueV e (e.args.map Expr.lit)=boolW (((e.args.map Expr.lit).getD 0 nullW).kind == 0) by simp [valueV,h']]
  exact okV_bool _
 ·have hk:k=2:=by simp [sig,h'] at hs;exact hs.2
  subst hk
  rw [show valueV e (e.args.map Expr.lit)=boolW (trueV ((e.args.map Expr.lit).getD 0 nullW)) by simp [valueV,h']]
  exact okV_bool _
 ·have hk:caseOK k (e.args.map (kd cols))=true:=by simpa [sig,h'] using hs
  rw [show valueV e (e.args.map Expr.lit)=caseV (lastV (e.args.map Expr.lit)) (e.args.map Expr.lit) by simp [valueV,h']]
  exact okV_case _ (okV_last e.args cols hk hv) e.args cols hk hv
 ·have hk:allK1 k (e.args.map (kd cols))=true:=by simpa [sig,h'] using hs
  have hka:=allK1_mem hk
  rw [show valueV e (e.args.map Expr.lit)=coalV (e.args.map Expr.lit) by simp [valueV,h']]
  have h2:=(args_list hi (by omega)).1
  obtain ⟨a,r,hab⟩:∃ a r,e.args=a :: r:=by
   match hh:e.args with
   | []=>rw [hh] at h2;simp at h2
   | a :: r=>exact ⟨a,r,rfl⟩
  have hreal:real k=true:=by
   have:=hv a (by simp [hab])
   rw [hka a (by simp [hab])] at this
   exact this.1
  refine okV_coal hreal _ fun v hvm=>?_
  obtain ⟨x,hx,rfl⟩:=List.mem_map.1 hvm
  have:=hv x hx
  rw [hka x hx] at this
  exact this
end Go.Proofs.YtgiedlcjlalpcaaGreat
namespace Go.Proofs.YtgiedlcjlalpcaaGreat
open Go.Abs
section
variable {cols:List Col}
theorem constL_eq (e:Expr) (cols:List Col):∀ (l:List Expr) (acc:List Val),constL e cols acc l=if l.all isLit then (litE (kindE cols e).1.kind (valueV e (acc ++ l.map Expr.lit)),true) else (e,false)
 | [],acc=>by simp [constL]
 | a :: r,acc=>by
  simp only [constL,List.all_cons]
  by_cases h:isLit a=true
  ·rw [if_pos h,constL_eq e cols r];simp [h]
  ·rw [if_neg h];simp [h]
theorem isLit_op {a:Expr}:isLit a=true ↔ a.op=3:=by simp [isLit]
theorem constant_has {e:Expr} {k:Int} (h:Has cols e k) (h4:4 ≤ e.op) (hs:(constantE e cols).2=true):Has cols (constantE e cols).1 k:=by
 unfold constantE at hs ⊢
 rw [constL_eq] at hs ⊢
 by_cases ha:e.args.all isLit=true
 ·rw [if_pos ha]
  have hl:∀ a ∈ e.args,a.op=3:=fun a hm=>isLit_op.1 (List.all_eq_true.1 ha a hm)
  have hv:=value_right h h4 hl
  have hk:(kindE cols e).1.kind=k:=h.kind
  rw [hk]
  exact has_lit hv.1 hv.2.1 hv.2.2
 ·rw [if_neg ha] at hs;cases hs
theorem oneOr_has {e:Expr} {l:List Expr} {k:Int} (hw:wf e=true) (h4:4 ≤ e.op) (h0:l ≠ []) (h1:l.length=1→∀ a,l=[a]→Has cols a k) (h2:l.length ≠ 1→Has cols (setA e l) k):Has cols (oneOr e l) k:=by
 unfold oneOr
 by_cases h:l.length=1
 ·rw [if_pos (by simp [h])]
  match l,h with
  | [a],_=>exact h1 rfl a rfl
 ·rw [if_neg (by simp;omega)]
  exact h2 h
theorem sig_list {op k:Int} {ks:List Int} (ho:op=19 ∨ op=20):sig op ks k=(allK1 2 ks && k == 2):=by
 rcases ho with h | h <;> simp [sig,h]
theorem allK1_iff {k:Int} {l:List Expr}:allK1 k (l.map (kd cols))=true ↔ ∀ a ∈ l,kd cols a=k:=by
 constructor
 ·exact allK1_mem
 ·intro h
  simp only [allK1,List.all_eq_true,List.mem_map]
  rintro x ⟨a,ha,rfl⟩
  simp [h a ha]
theorem many_list {op n:Int} (ho:op=19 ∨ op=20 ∨ op=25) (h1:2 ≤ n) (h2:n ≤ 16):many op n=true:=by
 unfold many
 rw [if_neg (by simp;omega),if_pos (by simpa [or_assoc] using ho)]
 simp [h1,h2]
theorem mem_cut {l:List Expr} {i j:Nat} {a:Expr} (h:a ∈ l.take i ++ l.drop j):a ∈ l:=by
 rcases List.mem_append.1 h with h | h
 ·exact List.mem_of_mem_take h
 ·exact List.mem_of_mem_drop h
theorem without_has {e:Expr} {k:Int} (h:Has cols e k) (hi:Inner e) (ho:e.op=19 ∨ e.op=20 ∨ e.op=25) (hall:∀ a ∈ e.args,Has cols a k) (hsig:∀ l:List Expr,(∀ a ∈ l,kd cols a=k)→sig e.op (l.map (kd cols)) k=true) {i:Nat} (hlt:i < e.args.length):Has cols (withoutE e i) k:=by
 have hlen:=args_list hi ho
 have hl:(e.args.take i ++ e.args.drop (i + 1)).length=e.args.length - 1:=by simp;omega
 unfold withoutE
 refine oneOr_has h.wf hi.lo ?_ ?_ ?_
 ·intro h0;rw [h0] at hl;simp at hl;omega
 ·intro _ a ha
  exact hall a (mem_cut (by rw [ha];simp))
 ·intro h1
  have hk:∀ a ∈ e.args.take i ++ e.args.drop (i + 1),Has cols a k:=fun a ha=>hall a (mem_cut ha)
  refine has_set h.wf hi.lo (many_list ho (by rw [hl];omega) (by rw [hl];omega)) (fun a ha=>?_) (hsig _ fun a ha=>(hk a ha).kind)
  have:=hk a ha
  exact ⟨this.wf,this.ok,rfl⟩
theorem list3_has (e:Expr) (and:Bool):∀ (l:List Expr),(list3 e and l).2=true→Has cols (list3 e and l).1 2
 | [],h=>by cases h
 | a :: r,h=>by
  simp only [list3] at h ⊢
  split
  ·exact has_truth cols _
  ·rename_i hn;rw [if_neg hn] at h;exact list3_has e and r h
theorem listed_has {e:Expr} {k:Int} (h:Has cols e k) (ho:e.op=19 ∨ e.op=20) (and:Bool) (hs:(listedE e and).2=true):Has cols (listedE e and).1 k:=by
 have hi:=nodeR_inner (wf_node h.wf) (by omega) (by omega) (by omega)
 obtain ⟨ha,hsg⟩:=has_elim h hi.lo
 rw [sig_list ho] at hsg
 simp only [Bool.and_eq_true,beq_iff_eq] at hsg
 obtain ⟨h2,rfl⟩:=hsg
 have hk:=allK1_iff.1 h2
 have hall:∀ a ∈ e.args,Has cols a 2:=fun a hm=>⟨(ha a hm).wf,(ha a hm).ok,hk a hm⟩
 have hlen:=args_list hi (by omega)
 have hsig:∀ l:List Expr,(∀ a ∈ l,kd cols a=2)→sig e.op (l.map (kd cols)) 2=true:=fun l hl=>by rw [sig_list ho,allK1_iff.2 hl];rfl
 have r2:∀ (l:List Expr) (i:Nat),l=e.args.drop i→(list2 e and l i).2=true→Has cols (list2 e and l i).1 2:=by
  intro l
  induction l with
  | nil=>intro i _ hs;exact list3_has e and e.args hs
  | cons a r ih=>
   intro i hl hs
   have hi':i < e.args.length:=by
    rcases Nat.lt_or_ge i e.args.length with h' | h'
    ·exact h'
    ·rw [List.drop_eq_nil_of_le h'] at hl;cases hl
   simp only [list2] at hs ⊢
   split
   ·exact without_has h hi (by omega) hall hsig hi'
   ·rename_i hn
    rw [if_neg hn] at hs
    refine ih (i + 1) ?_ hs
    rw [List.drop_eq_getElem_cons hi'] at hl
    exact (List.cons.inj hl).2
 have r1:∀ (l:List Expr) (i:Nat),l=e.args.drop i→(list1 e and l i).2=true→Has cols (list1 e and l i).1 2:=by
  intro l
  induction l with
  | nil=>intro i _ hs;exact r2 e.args 0 rfl hs
  | cons a r ih=>
   intro i hl hs
   have hi':i < e.args.length:=by
    rcases Nat.lt_or_ge i e.args.length with h' | h'
    ·exact h'
    ·rw [List.drop_eq_nil_of_le h'] at hl;cases hl
   rw [List.drop_eq_getElem_cons hi'] at hl
   obtain ⟨hae,hr⟩:=List.cons.inj hl
   simp only [list1] at hs ⊢
   split
   ·rename_i hj
    simp only [joins,Bool.and_eq_true,beq_iff_eq,decide_eq_true_eq] at hj
    have ham:a ∈ e.args:=by rw [hae];exact List.getElem_mem hi'
    have hA:=hall a ham
    have hia:=nodeR_inner (wf_node hA.wf) (by omega) (by omega) (by omega)
    obtain ⟨hb,hbs⟩:=has_elim hA hia.lo
    rw [sig_list (by omega)] at hbs
    simp only [Bool.and_eq_true] at hbs
    have hbk:=allK1_iff.1 hbs.1
    have hal:=args_list hia (by omega)
    have hx:∀ x ∈ e.args.take i ++ a.args ++ e.args.drop (i + 1),Has cols x 2:=by
     intro x hx
     simp only [List.mem_append] at hx
     rcases hx with (hx | hx) | hx
     ·exact hall x (List.mem_of_mem_take hx)
     ·exact ⟨(hb x hx).wf,(hb x hx).ok,hbk x hx⟩
     ·exact hall x (List.mem_of_mem_drop hx)
    have hlx:(e.args.take i ++ a.args ++ e.args.drop (i + 1)).length=e.args.length - 1 + a.args.length:=by simp;omega
    refine has_set h.wf hi.lo (many_list (by omega) (by rw [hlx];omega) (by rw [hlx];omega)) (fun x hm=>⟨(hx x hm).wf,(hx x hm).ok,rfl⟩) (hsig _ fun x hm=>(hx x hm).kind)
   ·rename_i hn
    rw [if_neg hn] at hs
    exact ih (i + 1) hr hs
 exact r1 e.args 0 rfl hs
theorem many_two {op n:Int} (h1:12 ≤ op) (h2:op ≤ 18) (hn:n=2):many op n=true:=by
 unfold many
 rw [if_neg (by simp;omega),if_neg (by simp;omega),if_neg (by simp;omega)]
 simp [hn];omega
theorem many_one {op n:Int} (ho:op=21 ∨ op=22 ∨ op=23) (hn:n=1):many op n=true:=by
 unfold many
 rw [if_pos (by simp;omega)]
 simp [hn]
theorem sig_cmp {op k:Int} {ks:List Int} (h1:12 ≤ op) (h2:op ≤ 18):sig op ks k=(allK1 (ks.headD 0) ks && k == 2):=by
 unfold sig
 rw [if_neg (by simp;omega),if_neg (by simp;omega),if_neg (by simp;omega),if_neg (by simp;omega),if_neg (by simp;omega),if_neg (by simp;omega),if_neg (by simp;omega)]
theorem has_self {e:Expr} {k:Int} (h:Has cols e k):Has cols e (kd cols e):=⟨h.wf,h.ok,rfl⟩
theorem has_not {a:Expr} (h:Has cols a 2):Has cols (opE 21 [a]) 2:=by
 refine has_op (by decide) (by decide) (many_one (.inl rfl) rfl) (fun x hx=>by simp at hx;subst hx;exact has_self h) ?_
 simp [sig,allK1,h.kind]
theorem has_isnull {a:Expr} {k:Int} (h:Has cols a k):Has cols (opE 22 [a]) 2:=
 has_op (by decide) (by decide) (many_one (.inr (.inl rfl)) rfl) (fun x hx=>by simp at hx;subst hx;exact has_self h) (by simp [sig])
theorem has_cmp {op:Int} {a b:Expr} {k:Int} (h1:12 ≤ op) (h2:op ≤ 18) (ha:Has cols a k) (hb:Has cols b k):Has cols (opE op [a,b]) 2:=by
 refine has_op (by omega) (by omega) (many_two h1 h2 rfl) (fun x hx=>?_) ?_
 ·simp at hx
  rcases hx with rfl | rfl
  ·exact has_self ha
  ·exact has_self hb
 ·rw [sig_cmp h1 h2]
  simp [allK1,ha.kind,hb.kind]
theorem opposite_range {op:Int} (h1:12 ≤ op) (h2:op ≤ 17):12 ≤ opposite op∧opposite op ≤ 17:=by
 have:op=12 ∨ op=13 ∨ op=14 ∨ op=15 ∨ op=16 ∨ op=17:=by omega
 rcases this with h | h | h | h | h | h <;> subst h <;> decide
theorem exchanged_range {op:Int} (h1:12 ≤ op) (h2:op ≤ 17):12 ≤ exchanged op∧exchanged op ≤ 17:=by
 have:op=12 ∨ op=13 ∨ op=14 ∨ op=15 ∨ op=16 ∨ op=17:=by omega
 rcases this with h | h | h | h | h | h <;> subst h <;> decide
theorem cmp_elim {e:Expr} {k:Int} (h:Has cols e k) (h1:12 ≤ e.op) (h2:e.op ≤ 18):k=2∧∃ a b kk,e.args=[a,b]∧Has cols a kk∧Has cols b kk:=by
 have hi:=nodeR_inner (wf_node h.wf) (by omega) (by omega) (by omega)
 obtain ⟨ha,hs⟩:=has_elim h hi.lo
 obtain ⟨a,b,hab⟩:=args2 hi h2 (by omega) (by omega)
 rw [sig_cmp h1 h2,hab] at hs
 simp [allK1] at hs
 refine ⟨hs.2,a,b,kd cols a,hab,ha a (by simp [hab]),?_⟩
 have hb:=ha b (by simp [hab])
 exact ⟨hb.wf,hb.ok,hs.1⟩
theorem not_has {a:Expr} (h:Has cols a 2) (hs:(notE a).2=true):Has cols (notE a).1 2:=by
 unfold notE at hs ⊢
 split
 ·rename_i h21
  have h21:a.op=21:=by simpa using h21
  have hi:=nodeR_inner (wf_node h.wf) (by omega) (by omega) (by omega)
  obtain ⟨x,hx⟩:=args1 hi (by omega)
  obtain ⟨hb,hbs⟩:=has_elim h hi.lo
  simp [sig,h21,hx,allK1] at hbs
  have:=hb x (by simp [hx])
  rw [hx]
  exact ⟨this.wf,this.ok,hbs⟩
 ·rename_i n21
  rw [if_neg n21] at hs
  split
  ·rename_i hc
   simp only [Bool.and_eq_true,decide_eq_true_eq] at hc
   obtain ⟨_,x,y,kk,hxy,hx,hy⟩:=cmp_elim h (by omega) (by omega)
   have:=opposite_range hc.1 hc.2
   rw [hxy]
   exact has_cmp this.1 (by omega) hx hy
  ·rename_i nc
   rw [if_neg nc] at hs
   split
   ·rename_i hl
    have ho:a.op=19 ∨ a.op=20:=by simpa using hl
    have hi:=nodeR_inner (wf_node h.wf) (by omega) (by omega) (by omega)
    obtain ⟨hb,hbs⟩:=has_elim h hi.lo
    rw [sig_list ho] at hbs
    simp only [Bool.and_eq_true] at hbs
    have hbk:=allK1_iff.1 hbs.1
    have hal:=args_list hi (by omega)
    have hx:∀ x ∈ a.args.map fun x=>opE 21 [x],Has cols x 2:=by
     intro x hx
     obtain ⟨y,hy,rfl⟩:=List.mem_map.1 hx
     exact has_not ⟨(hb y hy).wf,(hb y hy).ok,hbk y hy⟩
    refine has_op (by omega) (by omega) (many_list (by omega) (by rw [List.length_map];omega) (by rw [List.length_map];omega)) (fun x hm=>has_self (hx x hm)) ?_
    rw [sig_list (by omega),allK1_iff.2 fun x hm=>(hx x hm).kind];rfl
   ·rename_i nl
    rw [if_neg nl] at hs;cases hs
end
end Go.Proofs.YtgiedlcjlalpcaaGreat
namespace Go.Abs
open Go.RowKit
section
variable {cfg:Cfg} {Q:Program} {ops:Array Oper} {K:St→List Foot→Prop}
theorem runK_soundP (hcfg:CfgOk cfg Q) {base:Base} {post:Exit→Act→World→Prop} {l2:List Nat} (hK:∀ S fs a w,K S fs→Con cfg base S a w→wpOps Q ops post l2 a w):∀ {r:List Oper} {S:St} {fs:List Foot},runK cfg Q ops false r S fs K→∀ (l:List Nat),l.map (fun i=>ops[i]?)=r.map some→∀ {a:Act} {w:World},Con cfg base S a w →
  wpOps Q ops post (l ++ l2) a w
 | [],S,fs,h,l,hl,a,w,hcon=>by
  have:l=[]:=by simpa using hl
  subst this
  exact hK S fs a w (by rw [runK_nil] at h;exact h) hcon
 | o :: r,S,fs,h,[],hl,a,w,hcon=>by simp at hl
 | o :: r,S,fs,h,i :: l,hl,a,w,hcon=>by
  simp only [List.map_cons,List.cons.injEq] at hl
  rw [runK_cons] at h
  generalize hw:wantedA ops S.t o=x at h
  simp only [List.cons_append,wpOps,hl.1]
  cases x with
  | none=>unfold goG at h;exact h.elim
  | some q=>
  unfold goG at h
  obtain ⟨h1,h2⟩:=h
  cases q with
  | false=>
   rw [if_neg (by rw [wanted_sound hw hcon];simp)]
   exact runK_soundP hcfg hK (h2 rfl) l hl.2 (hcon.skip o.dst)
  | true=>
   have h1:=h1 rfl
   rw [if_pos (wanted_sound hw hcon)]
   generalize hc:callOf o.op=x at h1
   cases x with
   | none=>
    rw [goC_none] at h1
    generalize he:evalOp cfg (o.dst.getD 0) o.op S=x at h1
    cases x with
    | none=>
     rw [goV_none] at h1
     unfold goX at h1
     exact .inl (h1.2 base a w _ _ hcon fun S' a' w' hN hcon'=>runK_soundP hcfg hK hN l hl.2 hcon')
    | some x=>
     obtain ⟨v,b,u⟩:=x
     rw [goV_some] at h1
     exact .inl (oper_sound hcfg he hcon fun a' w' h'=>runK_soundP hcfg hK h1 l hl.2 h')
   | some fa=>
    obtain ⟨f,args⟩:=fa
    rw [goC_some] at h1
    generalize he:callResW cfg S f args=x at h1
    cases x with
    | none=>
     rw [goD_none] at h1
     unfold goX at h1
     exact .inl (h1.2 base a w _ _ hcon fun S' a' w' hN hcon'=>runK_soundP hcfg hK hN l hl.2 hcon')
    | some x=>
     obtain ⟨g,ps,b⟩:=x
     rw [goD_some] at h1
     unfold goR at h1
     obtain ⟨rs,e2,e3⟩:=h1
     obtain ⟨ts,hts⟩:=callOf_some hc
     exact .inl (call_sound hts (callResW_some he) e2 hcon fun a' w' h'=>runK_soundP hcfg hK e3 l hl.2 h')
variable {base:Base} {R:Ex→St→Prop} {S:St}
theorem wpA_regP (hc:CfgOk cfg Q) {id:Nat} (r:List Oper) (l1 l2:List Nat) (h1:List.range ops.size=l1 ++ l2) (h2:l1.map (fun i=>ops[i]?)=r.map some)
  (h:∀ K:St→List Foot→Prop,Hid (∀ S' fs,(∀ a w,Con cfg base S' a w→wpOps Q ops (postSt cfg base fun S=>R .normal S) l2 a w)→K S' fs)→runK cfg Q ops false r S [] K):wpA cfg base Q (.region id ops false) R S:=by
 intro a w hcon
 refine wp_mono (wp_region (Q:=postSt cfg base fun S=>R .normal S) ?_) ?_
 ·rw [h1]
  exact runK_soundP hc (K:=fun S' _=>∀ a w,Con cfg base S' a w→wpOps Q ops (postSt cfg base fun S=>R .normal S) l2 a w) (fun S fs a w hk hcon=>hk a w hcon) (h _ ⟨fun _ _ k=>k⟩) l1 h2 hcon
 ·intro e a w h
  cases e <;> simp only [postSt] at h
  obtain ⟨S,h1,h2⟩:=h
  exact ⟨.normal,S,rfl,h1,h2⟩
theorem take_some (ops:Array Oper) (n:Nat) (h:n ≤ ops.size):(List.range n).map (fun i=>ops[i]?)=(ops.toList.take n).map some:=by
 apply List.ext_getElem?
 intro i
 simp only [List.getElem?_map,List.getElem?_take]
 by_cases hi:i < n
 ·rw [List.getElem?_range hi,if_pos hi]
  have:i < ops.size:=by omega
  simp [this]
 ·rw [if_neg hi,List.getElem?_eq_none (by simpa using Nat.le_of_not_lt hi)]
  rfl
theorem wpA_regN (hc:CfgOk cfg Q) {id:Nat} (n:Nat) (l2:List Nat) (h1:List.range ops.size=List.range n ++ l2) (hn:n ≤ ops.size)
  (h:∀ K:St→List Foot→Prop,Hid (∀ S' fs,(∀ a w,Con cfg base S' a w→wpOps Q ops (postSt cfg base fun S=>R .normal S) l2 a w)→K S' fs)→runK cfg Q ops false (ops.toList.take n) S [] K):wpA cfg base Q (.region id ops false) R S:=
 wpA_regP hc _ (List.range n) l2 h1 (take_some ops n hn) h
end
end Go.Abs
