/- Part of a proof: Walk Loop Imp Imp2 Imp3 Types. -/
import Derived.Test.YtgiedlcjlalpcaaGreatPb04
set_option linter.all false
namespace Go.Abs
open Go.RowKit
def callOf:Op→Option (Operand × Array Operand)
 | .call { callee:=.value f,args,.. }=>some (f,args)
 | _=>none
theorem callOf_isCall {op:Op}:callOf op=none→isCall op=false:=by
 unfold callOf isCall
 split <;> simp_all
theorem callOf_some {op:Op} {f:Operand} {args:Array Operand} (h:callOf op=some (f,args)):∃ ts,op = .call { callee:=.value f,args,argTypes:=ts }:=by
 unfold callOf at h
 split at h
 ·rename_i ts
  simp only [Option.some.injEq,Prod.mk.injEq] at h
  obtain ⟨rfl,rfl⟩:=h
  exact ⟨_,rfl⟩
 ·cases h
def more (dr:Bool) (ops:Array Oper) (o:Oper) (t:List V) (fs:List Foot):List Foot:=
 match dr with
 | true=>footOf ops o t :: fs
 | false=>fs
theorem more_true (ops:Array Oper) (o:Oper) (t:List V) (fs:List Foot):more true ops o t fs=footOf ops o t :: fs:=rfl
theorem more_false (ops:Array Oper) (o:Oper) (t:List V) (fs:List Foot):more false ops o t fs=fs:=rfl
def XStep (cfg:Cfg) (Q:Program) (o:Oper) (S:St) (N:St→Prop):Prop:=
 ∀ (base:Base) (a:Act) (w:World) (next:Act→World→Prop) (R:Exit→Act→World→Prop),Con cfg base S a w→(∀ S' a' w',N S'→Con cfg base S' a' w'→next a' w')→o.wp Q a w next R
def callResW (cfg:Cfg) (S:St) (f:Operand) (args:Array Operand):Option (FuncId × List P × Blks):=
 match callRes S f args with
 | some (g,ps,b)=>if cfg.imp g then none else some (g,ps,b)
 | none=>none
theorem callResW_some {cfg:Cfg} {S:St} {f:Operand} {args:Array Operand} {x:FuncId × List P × Blks} (h:callResW cfg S f args=some x):callRes S f args=some x:=by
 unfold callResW at h
 split at h
 ·rename_i g ps b he
  split at h
  ·cases h
  ·rw [he];exact h
 ·cases h
def runK (cfg:Cfg) (Q:Program) (ops:Array Oper) (dr:Bool):List Oper→St→List Foot→(St→List Foot→Prop)→Prop
 | [],S,fs,K=>K S fs
 | o :: r,S,fs,K=>
  match wantedA ops S.t o with
  | none=>False
  | some w=>
   (w=true→match callOf o.op with
    | none=>(match evalOp cfg (o.dst.getD 0) o.op S with
     | some (v,b,u)=>runK cfg Q ops dr r (S.put o.dst v b u) (more dr ops o S.t fs) K
     | none=>dr=false∧XStep cfg Q o S fun S'=>runK cfg Q ops dr r S' fs K)
    | some (f,args)=>(match callResW cfg S f args with
     | some (g,ps,b)=>∃ rs,CallP cfg Q g ps rs∧runK cfg Q ops dr r (S.put o.dst (resV rs) b S.u) (more dr ops o S.t fs) K
     | none=>dr=false∧XStep cfg Q o S fun S'=>runK cfg Q ops dr r S' fs K)) ∧
   (w=false→runK cfg Q ops dr r (S.put o.dst (.tup []) S.b S.u) (more dr ops o S.t fs) K)
section
variable (cfg:Cfg) (Q:Program) (ops:Array Oper) (dr:Bool)
def goX (o:Oper) (r:List Oper) (S:St) (fs:List Foot) (K:St→List Foot→Prop):Prop:=dr=false∧XStep cfg Q o S fun S'=>runK cfg Q ops dr r S' fs K
def goV (x:Option (V × Blks × List Nat)) (o:Oper) (r:List Oper) (S:St) (fs:List Foot) (K:St→List Foot→Prop):Prop:=
 match x with
 | some (v,b,u)=>runK cfg Q ops dr r (S.put o.dst v b u) (more dr ops o S.t fs) K
 | none=>goX cfg Q ops dr o r S fs K
def goR (g:FuncId) (ps:List P) (b:Blks) (o:Oper) (r:List Oper) (S:St) (fs:List Foot) (K:St→List Foot→Prop):Prop:=
 ∃ rs,CallP cfg Q g ps rs∧runK cfg Q ops dr r (S.put o.dst (resV rs) b S.u) (more dr ops o S.t fs) K
def goD (x:Option (FuncId × List P × Blks)) (o:Oper) (r:List Oper) (S:St) (fs:List Foot) (K:St→List Foot→Prop):Prop:=
 match x with
 | some (g,ps,b)=>goR cfg Q ops dr g ps b o r S fs K
 | none=>goX cfg Q ops dr o r S fs K
def goC (x:Option (Operand × Array Operand)) (o:Oper) (r:List Oper) (S:St) (fs:List Foot) (K:St→List Foot→Prop):Prop:=
 match x with
 | none=>goV cfg Q ops dr (evalOp cfg (o.dst.getD 0) o.op S) o r S fs K
 | some (f,args)=>goD cfg Q ops dr (callResW cfg S f args) o r S fs K
def goG (x:Option Bool) (o:Oper) (r:List Oper) (S:St) (fs:List Foot) (K:St→List Foot→Prop):Prop:=
 match x with
 | none=>False
 | some w=>(w=true→goC cfg Q ops dr (callOf o.op) o r S fs K)∧(w=false→runK cfg Q ops dr r (S.put o.dst (.tup []) S.b S.u) (more dr ops o S.t fs) K)
end
section
variable {cfg:Cfg} {Q:Program} {ops:Array Oper} {dr:Bool} {o:Oper} {r:List Oper} {S:St} {fs:List Foot} {K:St→List Foot→Prop}
theorem runK_nil:runK cfg Q ops dr [] S fs K=K S fs:=rfl
theorem runK_cons:runK cfg Q ops dr (o :: r) S fs K=goG cfg Q ops dr (wantedA ops S.t o) o r S fs K:=rfl
theorem goG_true:goG cfg Q ops dr (some true) o r S fs K=goC cfg Q ops dr (callOf o.op) o r S fs K:=by simp [goG]
theorem goG_false:goG cfg Q ops dr (some false) o r S fs K=runK cfg Q ops dr r (S.put o.dst (.tup []) S.b S.u) (more dr ops o S.t fs) K:=by simp [goG]
theorem goC_none:goC cfg Q ops dr none o r S fs K=goV cfg Q ops dr (evalOp cfg (o.dst.getD 0) o.op S) o r S fs K:=rfl
theorem goC_some {f:Operand} {args:Array Operand}:goC cfg Q ops dr (some (f,args)) o r S fs K=goD cfg Q ops dr (callResW cfg S f args) o r S fs K:=rfl
theorem goV_some {v:V} {b:Blks} {u:List Nat}:goV cfg Q ops dr (some (v,b,u)) o r S fs K=runK cfg Q ops dr r (S.put o.dst v b u) (more dr ops o S.t fs) K:=rfl
theorem goV_none:goV cfg Q ops dr none o r S fs K=goX cfg Q ops dr o r S fs K:=rfl
theorem goD_none:goD cfg Q ops dr none o r S fs K=goX cfg Q ops dr o r S fs K:=rfl
theorem goX_intro {N:St→Prop} (h:XStep cfg Q o S N) (k:∀ S',N S'→runK cfg Q ops false r S' fs K):goX cfg Q ops false o r S fs K:=⟨rfl,fun base a w next R hcon hn=>h base a w next R hcon fun S' a' w' hN hcon'=>hn S' a' w' (k S' hN) hcon'⟩
theorem goD_some {g:FuncId} {ps:List P} {b:Blks}:goD cfg Q ops dr (some (g,ps,b)) o r S fs K=goR cfg Q ops dr g ps b o r S fs K:=rfl
theorem goR_intro {g:FuncId} {ps rs:List P} {b:Blks} (h:CallP cfg Q g ps rs) (k:runK cfg Q ops dr r (S.put o.dst (resV rs) b S.u) (more dr ops o S.t fs) K):goR cfg Q ops dr g ps b o r S fs K:=⟨rs,h,k⟩
theorem runK_id (h:runK cfg Q ops dr r S fs K):runK cfg Q ops dr r S fs K:=h
theorem runK_sound:∀ {r:List Oper} {S:St} {fs:List Foot},runK cfg Q ops true r S fs K→∃ S' gs,SeqF cfg Q ops r S S' gs∧K S' (gs.reverse ++ fs)
 | [],S,fs,h=>⟨S,[],.nil S,h⟩
 | o :: r,S,fs,h=>by
  have fin:∀ {S':St} {gs:List Foot},K S' (gs.reverse ++ more true ops o S.t fs)→K S' ((footOf ops o S.t :: gs).reverse ++ fs):=by
   intro S' gs k
   simpa [more] using k
  rw [runK_cons] at h
  generalize hw:wantedA ops S.t o=x at h
  cases x with
  | none=>exact h.elim
  | some w=>
  obtain ⟨h1,h2⟩:=h
  cases w with
  | false=>
   obtain ⟨S',gs,k1,k2⟩:=runK_sound (h2 rfl)
   exact ⟨S',_ :: gs,.skip o r S S' gs hw k1,fin k2⟩
  | true=>
   have h1:=h1 rfl
   generalize hc:callOf o.op=x at h1
   cases x with
   | none=>
    rw [goC_none] at h1
    generalize he:evalOp cfg (o.dst.getD 0) o.op S=x at h1
    cases x with
    | none=>exact absurd h1.1 (by simp)
    | some x=>
     obtain ⟨v,b,u⟩:=x
     obtain ⟨S',gs,k1,k2⟩:=runK_sound h1
     exact ⟨S',_ :: gs,.step o r S S' v b u gs hw (callOf_isCall hc) he k1,fin k2⟩
   | some fa=>
    obtain ⟨f,args⟩:=fa
    rw [goC_some] at h1
    generalize he:callResW cfg S f args=x at h1
    cases x with
    | none=>exact absurd h1.1 (by simp)
    | some x=>
     obtain ⟨g,ps,b⟩:=x
     obtain ⟨rs,e2,e3⟩:=h1
     obtain ⟨S',gs,k1,k2⟩:=runK_sound e3
     obtain ⟨ts,hts⟩:=callOf_some hc
     exact ⟨S',_ :: gs,.call o r S S' f args ts g ps rs b gs hw hts (callResW_some he) e2 k1,fin k2⟩
theorem runK_soundO (hcfg:CfgOk cfg Q) {base:Base}:∀ {r:List Oper} {S:St} {fs:List Foot},runK cfg Q ops false r S fs K→∀ (l:List Nat),l.map (fun i=>ops[i]?)=r.map some→∀ {a:Act} {w:World},Con cfg base S a w →
  wpOps Q ops (postSt cfg base fun S=>∃ fs,K S fs) l a w
 | [],S,fs,h,l,hl,a,w,hcon=>by
  have:l=[]:=by simpa using hl
  subst this
  exact ⟨S,⟨fs,h⟩,hcon⟩
 | o :: r,S,fs,h,[],hl,a,w,hcon=>by simp at hl
 | o :: r,S,fs,h,i :: l,hl,a,w,hcon=>by
  simp only [List.map_cons,List.cons.injEq] at hl
  rw [runK_cons] at h
  generalize hw:wantedA ops S.t o=x at h
  simp only [wpOps,hl.1]
  cases x with
  | none=>exact h.elim
  | some q=>
  obtain ⟨h1,h2⟩:=h
  cases q with
  | false=>
   rw [if_neg (by rw [wanted_sound hw hcon];simp)]
   exact runK_soundO hcfg (h2 rfl) l hl.2 (hcon.skip o.dst)
  | true=>
   have h1:=h1 rfl
   rw [if_pos (wanted_sound hw hcon)]
   generalize hc:callOf o.op=x at h1
   cases x with
   | none=>
    rw [goC_none] at h1
    generalize he:evalOp cfg (o.dst.getD 0) o.op S=x at h1
    cases x with
    | none=>exact .inl (h1.2 base a w _ _ hcon fun S' a' w' hN hcon'=>runK_soundO hcfg hN l hl.2 hcon')
    | some x=>
     obtain ⟨v,b,u⟩:=x
     exact .inl (oper_sound hcfg he hcon fun a' w' h'=>runK_soundO hcfg h1 l hl.2 h')
   | some fa=>
    obtain ⟨f,args⟩:=fa
    rw [goC_some] at h1
    generalize he:callResW cfg S f args=x at h1
    cases x with
    | none=>exact .inl (h1.2 base a w _ _ hcon fun S' a' w' hN hcon'=>runK_soundO hcfg hN l hl.2 hcon')
    | some x=>
     obtain ⟨g,ps,b⟩:=x
     obtain ⟨rs,e2,e3⟩:=h1
     obtain ⟨ts,hts⟩:=callOf_some hc
     exact .inl (call_sound hts (callResW_some he) e2 hcon fun a' w' h'=>runK_soundO hcfg e3 l hl.2 h')
end
theorem range_some (ops:Array Oper):(List.range ops.size).map (fun i=>ops[i]?)=ops.toList.map some:=by
 apply List.ext_getElem?
 intro i
 simp only [List.getElem?_map,Array.getElem?_toList]
 by_cases hi:i < ops.size
 ·simp [List.getElem?_range hi,hi]
 ·simp [hi,List.getElem?_eq_none]
theorem SeqF.seq {cfg:Cfg} {Q:Program} {ops:Array Oper} {r:List Oper} {S S':St} {fs:List Foot} (h:SeqF cfg Q ops r S S' fs):Seq cfg Q ops r S S':=by
 induction h with
 | nil S=>exact .nil S
 | step o r S S' v b u fs hw hc he _ ih=>exact .step o r S S' v b u hw hc he ih
 | skip o r S S' fs hw _ ih=>exact .skip o r S S' hw ih
 | call o r S S' f args ts g ps rs b fs hw ho he hg _ ih=>exact .call o r S S' f args ts g ps rs b hw ho he hg ih
variable {cfg:Cfg} {base:Base} {Q:Program} {R:Ex→St→Prop} {S:St}
structure Hid (p:Prop):Type where
 out:p
theorem wpA_regK (hc:CfgOk cfg Q) {id:Nat} {ops:Array Oper} (h:∀ K:St→List Foot→Prop,Hid (∀ S' fs,R .normal S'→K S' fs)→runK cfg Q ops false ops.toList S [] K):wpA cfg base Q (.region id ops false) R S:=by
 intro a w hcon
 refine wp_mono (wp_region (runK_soundO hc (h (fun S' _=>R .normal S') ⟨fun _ _ h=>h⟩) (List.range ops.size) (range_some ops) hcon)) ?_
 intro e a w h
 cases e <;> simp only [postSt] at h
 obtain ⟨S,⟨_,h1⟩,h2⟩:=h
 exact ⟨.normal,S,rfl,h1,h2⟩
theorem wpA_regF (hc:CfgOk cfg Q) (hmix:Q.follows .mixedOrders=true) {id:Nat} {ops:Array Oper} (h:∀ K:St→List Foot→Prop,Hid (∀ S' fs,drawB ops fs.reverse=true→R .normal S'→K S' fs)→runK cfg Q ops true ops.toList S [] K):wpA cfg base Q (.region id ops true) R S:=by
 obtain ⟨S',fs,h1,h2,h3⟩:=runK_sound (h (fun S' fs=>drawB ops fs.reverse=true∧R .normal S') ⟨fun _ _ h k=>⟨h,k⟩⟩)
 exact wpA_draw hc hmix h1 (by simpa using h2) h3
theorem wpA_seqK (hc:CfgOk cfg Q) {id:Nat} {ops:Array Oper} {y:Code} (h:∀ K:St→List Foot→Prop,Hid (∀ S' fs,wpA cfg base Q y R S'→K S' fs)→runK cfg Q ops false ops.toList S [] K):wpA cfg base Q (.seq (.region id ops false) y) R S:=
 wpA_seq (wpA_regK hc fun K hK=>h K ⟨fun S' fs k=>hK.out S' fs (thenR_normal k)⟩)
def boolV:V→Option Bool
 | .p (.bool q)=>some q
 | _=>none
def goB (x:Option Bool) (A B:Prop):Prop:=
 match x with
 | none=>False
 | some q=>(q=true→A)∧(q=false→B)
theorem wpA_condK {c:Operand} {x y:Code} {q:Option Bool} (hq:boolV (opnd S.t c)=q) (h:goB q (wpA cfg base Q x R S) (wpA cfg base Q y R S)):wpA cfg base Q (.cond c x y) R S:=by
 subst hq
 generalize h1:boolV (opnd S.t c)=q at h
 cases q with
 | none=>exact h.elim
 | some q=>
  refine wpA_cond (q:=q) ?_ h.1 h.2
  unfold boolV at h1
  split at h1
  ·rename_i hq;cases h1;exact hq
  ·cases h1
theorem goB_true {A B:Prop} (h:A):goB (some true) A B:=⟨fun _=>h,fun h=>by cases h⟩
theorem goB_false {A B:Prop} (h:B):goB (some false) A B:=⟨fun k=>(nomatch k),fun _=>h⟩
theorem goB_intro {q:Bool} {A B:Prop} (h:q=true→A) (k:q=false→B):goB (some q) A B:=⟨h,k⟩
theorem bodyR_ret {fn:Func} {ps rs:List P} (h1:resultPs cfg S fn.results.toList=some ps) (h:ps=rs):bodyR cfg fn rs .ret S:=by
 subst h;exact h1
theorem bodyR_normal {fn:Func} {ps rs:List P} (h1:resultPs cfg S fn.results.toList=some ps) (h:ps=rs):bodyR cfg fn rs .normal S:=bodyR_ret h1 h
theorem callOf_fn (f:Operand) (args:Array Operand) (ts:Array TypeId):callOf (.call { callee:=.value f,args,argTypes:=ts })=some (f,args):=rfl
theorem callOf_builtin (b:Builtin) (args:Array Operand) (ts:Array TypeId):callOf (.call { callee:=.builtin b,args,argTypes:=ts })=none:=rfl
attribute [irreducible] runK goG goC goV goD goR goX goB more
end Go.Abs
namespace Go.Abs
open Go.RowKit
mutual
def okP:P→Prop
 | .agg cs=>okPs cs
 | .lst es=>es.length ≤ 4294967296∧okPs es
 | .fn _ a b=>okPs a∧okPs b
 | .imm cs _=>okPs cs
 | _=>True
def okPs:List P→Prop
 | []=>True
 | x :: r=>okP x∧okPs r
end
theorem okPs_iff:∀ {l:List P},okPs l ↔ ∀ x ∈ l,okP x
 | []=>by simp [okPs]
 | x :: r=>by simp [okPs,okPs_iff (l:=r)]
theorem okPs_get {l:List P} (h:∀ (i:Nat) (x:P),l[i]? = some x→okP x):okPs l:=by
 refine okPs_iff.2 fun x hx=>?_
 obtain ⟨i,hi⟩:=List.getElem?_of_mem hx
 exact h i x hi
theorem okP_cells {x:P} (h:∀ (j:Nat) (y:P),x.cells[j]? = some y→okP y):okP x:=by
 cases x with
 | agg cs=>exact okPs_get h
 | _=>exact h 0 _ rfl
theorem RepP.ok {E:Env} {v:Value} {x:P} (r:RepP E v x):okP x:=by
 induction r with
 | bool b=>simp [okP]
 | int k n=>simp [okP]
 | str s=>simp [okP]
 | nilp=>simp [okP]
 | nilf=>simp [okP]
 | nilm=>simp [okP]
 | nili=>simp [okP]
 | agg vs ps hl h ih=>
   refine okPs_get fun i x hi=>?_
   have hlt:i < vs.length:=by rw [hl];exact (List.getElem?_eq_some_iff.1 hi).1
   exact ih i vs[i] x (by simp [hlt]) hi
 | lst base cap es f b off sz hcap hlen hb hsz hc hr ih=>
   refine ⟨hlen,okPs_get fun i x hi=>okP_cells fun j y hy=>ih i x hi j y hy⟩
 | fn f vs ws ps qs hl hm h k ih ik=>
   refine ⟨okPs_get fun i x hi=>?_,okPs_get fun i x hi=>?_⟩
   ·have hlt:i < vs.length:=by rw [hl];exact (List.getElem?_eq_some_iff.1 hi).1
    exact ih i vs[i] x (by simp [hlt]) hi
   ·have hlt:i < ws.length:=by rw [hm];exact (List.getElem?_eq_some_iff.1 hi).1
    exact ik i ws[i] x (by simp [hlt]) hi
 | imm b off0 off cs f hc hr ih=>exact okPs_get fun i x hi=>ih i x hi
 | obj b tag off ps ho=>simp [okP]
 | imap b ks vs h=>simp [okP]
section
variable {cfg:Cfg} {base:Base} {Q:Program} {R:Ex→St→Prop} {S:St} {c:Code}
theorem wpA_ok (i:Nat) {x:P} (hx:S.t[i]? = some (.p x)) (h:okP x→wpA cfg base Q c R S):wpA cfg base Q c R S:=by
 intro a w hcon
 have hcon':=hcon
 obtain ⟨E, μ,hm,h1,h2,h3⟩:=hcon
 have hlt:i < a.tmps.size:=by
  have:=(List.getElem?_eq_some_iff.1 hx).1
  omega
 have:=(h3 i a.tmps[i] (.p x) (by simp [hlt]) hx).inv_p
 exact h this.ok a w hcon'
end
def St.head (S:St) (fg:List Nat) (un:List Nat) (up:List (Nat × V)) (bs:List (Nat × Blk)):St:=
 ⟨up.foldl (fun t p=>t.set p.1 p.2) (fg.foldl (fun t i=>t.set i .any) S.t),
  bs.foldl (fun b p=>setB b p.1 p.2) (S.b.filter fun p=>!un.contains p.1),
  bs.foldl (fun u p=>if u.contains p.1 then u else p.1 :: u) (S.u.filter fun n=>!un.contains n)⟩
def Again {σ:Type} (H:σ→St) (Inv:σ→Prop) (m:σ→Nat) (x:σ) (S':St):Prop:=∃ y vs,m y < m x∧Inv y∧St.le vs S' (H y)
theorem wpA_head {cfg:Cfg} {base:Base} {Q:Program} {R:Ex→St→Prop} {S:St} {c:Code} {σ:Type} (H:σ→St) (Inv:σ→Prop) (m:σ→Nat) (x₀:σ) (vs:List Nat) (h₀:St.le vs S (H x₀)) (i₀:Inv x₀)
  (round:∀ x,Inv x→wpA cfg base Q c (thenR (Again H Inv m x) R) (H x)):wpA cfg base Q (.loop c) R S:=by
 refine wpA_loop (fun n S=>∃ x vs,Inv x∧m x=n∧St.le vs S (H x)) ⟨x₀,vs,i₀,rfl,h₀⟩ ?_
 rintro n S ⟨x,vs,hx,rfl,hle⟩
 refine wpA_le vs (H x) hle ?_
 refine wpA_mono (round x hx) ?_
 intro e S' h
 cases e with
 | normal=>
  obtain ⟨y,vs',h1,h2,h3⟩:=h
  exact ⟨m y,h1,y,vs',h2,rfl,h3⟩
 | ret=>exact h
 | exit n=>exact h
def LeJ (S T:St):Prop:=St.le [] S T
theorem leT_nil {vs:List Nat}:leT vs [] []=True:=rfl
theorem leT_cons {vs:List Nat} {x y:V} {r s:List V}:leT vs (x :: r) (y :: s)=(leV vs x y∧leT vs r s):=rfl
theorem leV_any {vs:List Nat} {x:V}:leV vs x .any=True:=by cases x <;> simp [leV]
theorem leV_refl {vs:List Nat} {x:V}:leV vs x x=True:=by
 unfold leV;split <;> simp_all
theorem leV_p {vs:List Nat} {x y:P}:leV vs (.p x) (.p y)=(x=y):=by simp [leV]
theorem leV_nils {vs:List Nat} {n:Nat}:leV vs .nils (.own n 0)=(n ∈ vs):=rfl
theorem leV_own {vs:List Nat} {m n k l:Nat}:leV vs (.own m k) (.own n l)=(m=n∧k=l):=by simp [leV]
theorem leV_ref {vs:List Nat} {m n k l:Nat}:leV vs (.ref m k) (.ref n l)=(m=n∧k=l):=by simp [leV]
theorem leBs_nil {vs:List Nat} {b:Blks}:leBs vs b []=True:=rfl
theorem leBs_cells {vs:List Nat} {b r:Blks} {n:Nat} {cs:List V}:leBs vs b ((n,.cells cs) :: r)=((match getB b n with | some k'=>leK vs k' (.cells cs) | none=>False)∧leBs vs b r):=by
 simp only [leBs,virtB,Bool.false_eq_true,false_or]
 try rfl
theorem leBs_frz {vs:List Nat} {b r:Blks} {n:Nat} {cs:List P}:leBs vs b ((n,.frz cs) :: r)=((match getB b n with | some k'=>leK vs k' (.frz cs) | none=>False)∧leBs vs b r):=by
 simp only [leBs,virtB,Bool.false_eq_true,false_or]
 try rfl
theorem leBs_arr {vs:List Nat} {b r:Blks} {n sz:Nat} {es:List P} {sh:Bool} {k':Blk} (h:getB b n=some k') (h':leK vs k' (.arr sz es sh)) (hr:leBs vs b r):leBs vs b ((n,.arr sz es sh) :: r):=by
 refine ⟨.inr ?_,hr⟩
 rw [h];exact h'
theorem leBs_virt {vs:List Nat} {b r:Blks} {n sz:Nat} (h:vs.contains n=true) (hr:leBs vs b r):leBs vs b ((n,.arr sz [] false) :: r):=⟨.inl h,hr⟩
theorem leBs_arr' {vs:List Nat} {b r:Blks} {n sz:Nat} {es:List P} {sh:Bool} (h:getB b n=some (.arr sz es sh)):leBs vs b ((n,.arr sz es sh) :: r)=leBs vs b r:=by
 have h1:leK vs (.arr sz es sh) (.arr sz es sh):=⟨rfl,rfl,rfl⟩
 exact propext ⟨fun h'=>h'.2,fun h'=>leBs_arr h h1 h'⟩
theorem leBs_virt' {vs:List Nat} {b r:Blks} {n sz:Nat} (h:vs.contains n=true):leBs vs b ((n,.arr sz [] false) :: r)=leBs vs b r:=propext ⟨fun h'=>h'.2,fun h'=>leBs_virt h h'⟩
theorem sizesOk_nil (sz:Nat):sizesOk sz []=true:=rfl
theorem sizesOk_cons (sz:Nat) (x:P) (r:List P):sizesOk sz (x :: r)=(elemOk sz x && sizesOk sz r):=by simp [sizesOk]
theorem elemOk_int (k:IntKind) (n:Int):elemOk 1 (.int k n)=true:=rfl
theorem elemOk_bool (b:Bool):elemOk 1 (.bool b)=true:=rfl
theorem elemOk_str (s:ByteArray):elemOk 1 (.str s)=true:=rfl
theorem elemOk_lst (l:List P):elemOk 1 (.lst l)=true:=rfl
theorem elemOk_fn (f:Fn) (a b:List P):elemOk 1 (.fn f a b)=true:=rfl
theorem cells_agg (cs:List P):P.cells (.agg cs)=cs:=rfl
theorem cells_int (k:IntKind) (n:Int):P.cells (.int k n)=[.int k n]:=rfl
theorem cells_bool (b:Bool):P.cells (.bool b)=[.bool b]:=rfl
theorem cells_str (s:ByteArray):P.cells (.str s)=[.str s]:=rfl
theorem cells_lst (l:List P):P.cells (.lst l)=[.lst l]:=rfl
theorem cells_fn (f:Fn) (a b:List P):P.cells (.fn f a b)=[.fn f a b]:=rfl
theorem cells_nilp:P.cells .nilp=[.nilp]:=rfl
theorem cells_nilf:P.cells .nilf=[.nilf]:=rfl
theorem cells_nilm:P.cells .nilm=[.nilm]:=rfl
theorem cells_imm (cs:List P) (o:Nat):P.cells (.imm cs o)=[.imm cs o]:=rfl
theorem cells_obj (g:Nat) (cs:List P) (o:Nat):P.cells (.obj g cs o)=[.obj g cs o]:=rfl
theorem cells_imap (a b:List P):P.cells (.imap a b)=[.imap a b]:=rfl
theorem binV_int (ty:Option Ty) (op:BinOp) (k:IntKind) (a b:Int):binV ty op (.p (.int k a)) (.p (.int k b))=intBin op k a b:=by simp [binV]
theorem binV_str (ty:Option Ty) (op:BinOp) (a b:ByteArray):binV ty op (.p (.str a)) (.p (.str b))=strBin op a b:=by simp [binV]
theorem binV_bool_eql (n b:Nat) (z:List V) (e:List TK) (x y:Bool):binV (some ⟨.bool,n,b,z,e⟩) .eql (.p (.bool x)) (.p (.bool y))=some (.p (.bool ((x == y)))):=by simp [binV,eqV]
theorem binV_ptr_nil_eql (t:TypeId) (n b:Nat) (z:List V) (e:List TK)  : binV (some ⟨.ptr t,n,b,z,e⟩) .eql (.p .nilp) (.p .nilp)=some (.p (.bool true)):=by simp [binV,eqV]
theorem binV_ptr_imm_eql (t:TypeId) (n b:Nat) (z:List V) (e:List TK) (cs:List P) (o:Nat):binV (some ⟨.ptr t,n,b,z,e⟩) .eql (.p (.imm cs o)) (.p .nilp)=some (.p (.bool false)):=by simp [binV,eqV]
theorem binV_ptr_obj_eql (t:TypeId) (n b:Nat) (z:List V) (e:List TK) (g:Nat) (cs:List P) (o:Nat):binV (some ⟨.ptr t,n,b,z,e⟩) .eql (.p (.obj g cs o)) (.p .nilp)=some (.p (.bool false)):=by simp [binV,eqV]
theorem binV_ptr_ref_eql (t:TypeId) (n b:Nat) (z:List V) (e:List TK) (g o:Nat):binV (some ⟨.ptr t,n,b,z,e⟩) .eql (.ref g o) (.p .nilp)=some (.p (.bool false)):=by simp [binV,eqV]
theorem binV_func_nil_eql (n b:Nat) (z:List V) (e:List TK)  : binV (some ⟨.func,n,b,z,e⟩) .eql (.p .nilf) (.p .nilf)=some (.p (.bool true)):=by simp [binV,eqV]
theorem binV_func_fn_eql (n b:Nat) (z:List V) (e:List TK) (f:Fn) (a c:List P):binV (some ⟨.func,n,b,z,e⟩) .eql (.p (.fn f a c)) (.p .nilf)=some (.p (.bool false)):=by simp [binV,eqV]
theorem binV_func_fv_eql (n b:Nat) (z:List V) (e:List TK) (f:Fn) (a c:List V):binV (some ⟨.func,n,b,z,e⟩) .eql (.fn f a c) (.p .nilf)=some (.p (.bool false)):=by simp [binV,eqV]
theorem binV_bool_neq (n b:Nat) (z:List V) (e:List TK) (x y:Bool):binV (some ⟨.bool,n,b,z,e⟩) .neq (.p (.bool x)) (.p (.bool y))=some (.p (.bool (!(x == y)))):=by simp [binV,eqV]
theorem binV_ptr_nil_neq (t:TypeId) (n b:Nat) (z:List V) (e:List TK)  : binV (some ⟨.ptr t,n,b,z,e⟩) .neq (.p .nilp) (.p .nilp)=some (.p (.bool false)):=by simp [binV,eqV]
theorem binV_ptr_imm_neq (t:TypeId) (n b:Nat) (z:List V) (e:List TK) (cs:List P) (o:Nat):binV (some ⟨.ptr t,n,b,z,e⟩) .neq (.p (.imm cs o)) (.p .nilp)=some (.p (.bool true)):=by simp [binV,eqV]
theorem binV_ptr_obj_neq (t:TypeId) (n b:Nat) (z:List V) (e:List TK) (g:Nat) (cs:List P) (o:Nat):binV (some ⟨.ptr t,n,b,z,e⟩) .neq (.p (.obj g cs o)) (.p .nilp)=some (.p (.bool true)):=by simp [binV,eqV]
theorem binV_ptr_ref_neq (t:TypeId) (n b:Nat) (z:List V) (e:List TK) (g o:Nat):binV (some ⟨.ptr t,n,b,z,e⟩) .neq (.ref g o) (.p .nilp)=some (.p (.bool true)):=by simp [binV,eqV]
theorem binV_func_nil_neq (n b:Nat) (z:List V) (e:List TK)  : binV (some ⟨.func,n,b,z,e⟩) .neq (.p .nilf) (.p .nilf)=some (.p (.bool false)):=by simp [binV,eqV]
theorem binV_func_fn_neq (n b:Nat) (z:List V) (e:List TK) (f:Fn) (a c:List P):binV (some ⟨.func,n,b,z,e⟩) .neq (.p (.fn f a c)) (.p .nilf)=some (.p (.bool true)):=by simp [binV,eqV]
theorem binV_func_fv_neq (n b:Nat) (z:List V) (e:List TK) (f:Fn) (a c:List V):binV (some ⟨.func,n,b,z,e⟩) .neq (.fn f a c) (.p .nilf)=some (.p (.bool true)):=by simp [binV,eqV]
theorem ne_of_beqI {a b:Int} (h:(a == b)=false):¬ a=b:=by simpa using h
theorem roomFor_of {n b:Nat} (h:n ≤ 4294967296) (hb:b ≤ 16384):roomFor n b=true:=by
 simp only [roomFor,decide_eq_true_eq]
 refine ⟨?_,h⟩
 calc n * b ≤ 4294967296 * 16384:=Nat.mul_le_mul h hb
  _=70368744177664:=by decide
theorem wrap_i64 {n:Int} (h:-9223372036854775808 ≤ n) (h':n < 9223372036854775808):IntKind.wrap .i64 n=n:=by
 simp [IntKind.wrap,IntKind.bits,IntKind.signed]
 omega
theorem wrap_nat {n:Nat} (h:n ≤ 8589934592):IntKind.wrap .i64 (n:Int)=n:=wrap_i64 (by omega) (by omega)
theorem wrap_succ {n:Nat} (h:n ≤ 4294967296):IntKind.wrap .i64 ((n:Int) + 1)=((n + 1:Nat):Int):=by rw [wrap_i64 (by omega) (by omega)];rfl
end Go.Abs
namespace Go.Abs
open Go.RowKit
mutual
def renV (σ:Nat→Nat):V→V
 | .ref nm off=>.ref (σ nm) off
 | .own nm len=>.own (σ nm) len
 | .elem nm len i j=>.elem (σ nm) len i j
 | .mp nm=>.mp (σ nm)
 | .fn f a b=>.fn f (renVs σ a) (renVs σ b)
 | .agg cs=>.agg (renVs σ cs)
 | .tup vs=>.tup (renVs σ vs)
 | .p x=>.p x
 | .nils=>.nils
 | .any=>.any
def renVs (σ:Nat→Nat):List V→List V
 | []=>[]
 | v :: r=>renV σ v :: renVs σ r
end
theorem renVs_map (σ:Nat→Nat):∀ (l:List V),renVs σ l=l.map (renV σ)
 | []=>rfl
 | v :: r=>by simp [renVs,renVs_map σ r]
def renB (σ:Nat→Nat):Blk→Blk
 | .cells cs=>.cells (renVs σ cs)
 | .vmap ks vs=>.vmap ks (renVs σ vs)
 | k=>k
structure Emb (σ:Nat→Nat) (E E':Env) (μ μ':Places) (b b':Blks) (u u':List Nat):Prop where
 env:E.le E'
 sub:∀ n,n ∈ u→σ n ∈ u'
 arr:∀ n,n ∈ u→∀ sz es sh,getB b n=some (.arr sz es sh)→getB b' (σ n)=some (.arr sz es sh)∧μ' (σ n) = μ n
 oth:∀ n,n ∈ u→(∀ sz es sh,getB b n ≠ some (.arr sz es sh))→μ' (σ n) = μ n∧∀ sz es sh,getB b' (σ n) ≠ some (.arr sz es sh)
theorem Rep.emb {σ:Nat→Nat} {E E':Env} {μ μ':Places} {b b':Blks} {u u':List Nat} (c:Emb σ E E' μ μ' b b' u u') {v:Value} {x:V} (r:Rep E μ b u v x):Rep E' μ' b' u' v (renV σ x):=by
 induction r with
 | p v x h=>exact .p v x (h.mono c.env)
 | nils=>exact .nils
 | any v=>exact .any v
 | ref nm off B cap hu hm hb=>
  obtain ⟨h1,h2⟩:=c.oth nm hu hb
  exact .ref _ off B cap (c.sub _ hu) (h1.trans hm) h2
 | mp nm B cap hu hm hb=>
  obtain ⟨h1,h2⟩:=c.oth nm hu hb
  exact .mp _ B cap (c.sub _ hu) (h1.trans hm) h2
 | own v nm len sz es sh hu hb hs hl hv=>
  obtain ⟨he,hm⟩:=c.arr nm hu sz es sh hb
  refine .own v _ len sz es sh (c.sub _ hu) he hs hl fun e=>?_
  rw [hv e]
  simp only [cur,hm]
 | elem v nm len i j sz es sh hu hb hs hl hv=>
  obtain ⟨he,hm⟩:=c.arr nm hu sz es sh hb
  refine .elem v _ len i j sz es sh (c.sub _ hu) he hs hl fun e=>?_
  rw [hm]
  exact hv e
 | fn f vs ws ps qs hl hm _ _ ih ik=>
  simp only [renV,renVs_map]
  refine .fn f vs ws _ _ (by simpa using hl) (by simpa using hm) (fun i v p h1 h2=>?_) (fun i v p h1 h2=>?_)
  ·simp only [List.getElem?_map,Option.map_eq_some_iff] at h2
   obtain ⟨q,hq,rfl⟩:=h2
   exact ih i v q h1 hq
  ·simp only [List.getElem?_map,Option.map_eq_some_iff] at h2
   obtain ⟨q,hq,rfl⟩:=h2
   exact ik i v q h1 hq
 | agg vs ps hl _ ih=>
  simp only [renV,renVs_map]
  refine .agg vs _ (by simpa using hl) (fun i v p h1 h2=>?_)
  simp only [List.getElem?_map,Option.map_eq_some_iff] at h2
  obtain ⟨q,hq,rfl⟩:=h2
  exact ih i v q h1 hq
 | tup vs ps hl _ ih=>
  simp only [renV,renVs_map]
  refine .tup vs _ (by simpa using hl) (fun i v p h1 h2=>?_)
  simp only [List.getElem?_map,Option.map_eq_some_iff] at h2
  obtain ⟨q,hq,rfl⟩:=h2
  exact ih i v q h1 hq
theorem BlkOk.emb {σ:Nat→Nat} {E E':Env} {μ μ':Places} {b b':Blks} {u u':List Nat} {w:World} (c:Emb σ E E' μ μ' b b' u u') (hEE:∀ B o,E'.cell B o=E.cell B o) (hEm:∀ B,E'.mp B=E.mp B) {n:Nat} (hn:n ∈ u) {k:Blk} (hk:getB b n=some k) (h:BlkOk E μ b u w n k) :
  BlkOk E' μ' b' u' w (σ n) (renB σ k):=by
 cases k with
 | cells cs=>
  obtain ⟨B,cap,cc,h1,h2,h3,h4,h5⟩:=h
  have h6:=(c.oth n hn (by rw [hk];intro _ _ _ e;cases e)).1
  refine ⟨B,cap,cc,h6.trans h1,h2,by simpa [renVs_map] using h3,fun i v x hv hx=>?_,fun o=>(hEE B o).trans (h5 o)⟩
  rw [renVs_map] at hx
  simp only [List.getElem?_map,Option.map_eq_some_iff] at hx
  obtain ⟨q,hq,rfl⟩:=hx
  exact (h4 i v q hv hq).emb c
 | frz cs=>
  obtain ⟨B,cap,h1,h2⟩:=h
  have h6:=(c.oth n hn (by rw [hk];intro _ _ _ e;cases e)).1
  exact ⟨B,cap,h6.trans h1,fun i x hi=>by obtain ⟨v,g1,g2⟩:=h2 i x hi;exact ⟨v,c.env.cell _ _ _ g1,g2.mono c.env⟩⟩
 | arr sz es sh=>
  obtain ⟨h0,h⟩:=h
  have h6:=(c.arr n hn sz es sh hk).2
  refine ⟨h0,?_⟩
  rcases h with ⟨h1,h2⟩ | ⟨B,cap,cc,h1,h2,h3,h4,h5,h7⟩
  ·exact .inl ⟨h6.trans h1,h2⟩
  ·refine .inr ⟨B,cap,cc,h6.trans h1,h2,h3,h4,fun i x hi j y hj=>?_,fun o ho=>(hEE B o).trans (h7 o ho)⟩
   obtain ⟨v,g1,g2,g3⟩:=h5 i x hi j y hj
   exact ⟨v,g1,g2.mono c.env,fun e=>(hEE _ _).trans (g3 e)⟩
 | map ks vs=>
  obtain ⟨B,cap,h1,h2,h3,h4⟩:=h
  have h6:=(c.oth n hn (by rw [hk];intro _ _ _ e;cases e)).1
  exact ⟨B,cap,h6.trans h1,h2.mono c.env rfl,fun o=>(hEE B o).trans (h3 o),(hEm B).trans h4⟩
 | vmap ks vs=>
  obtain ⟨B,cap,h1,h2,h3,h4⟩:=h
  have h6:=(c.oth n hn (by rw [hk];intro _ _ _ e;cases e)).1
  obtain ⟨es,clock,g1,g2,g3,g4,g5⟩:=h2
  refine ⟨B,cap,h6.trans h1,⟨es,clock,g1,g2,by simpa [renVs_map] using g3,fun i e hi=>⟨fun k hk=>((g4 i e hi).1 k hk).mono c.env,fun y hy=>?_⟩,g5⟩,fun o=>(hEE B o).trans (h3 o),(hEm B).trans h4⟩
  rw [renVs_map] at hy
  simp only [List.getElem?_map,Option.map_eq_some_iff] at hy
  obtain ⟨q,hq,rfl⟩:=hy
  exact ((g4 i e hi).2 q hq).emb c
def isArr:Blk→Bool
 | .arr _ _ _=>true
 | _=>false
theorem isArr_iff {k:Blk}:isArr k=false ↔ ∀ sz es sh,k ≠ .arr sz es sh:=by
 cases k <;> simp [isArr]
def ownL (B0:Blks) (μ:Places) (a:Nat):Prop:=∃ n k c,getB B0 n=some k∧k.mut=true∧μ n=some (a,c)
def ownP (B0:Blks) (μ:Places) (n:Nat):Option (Nat × Nat):=if 1000 ≤ n then (match getB B0 n with | some k=>if isArr k then none else μ n | none=>none) else none
def baseM (w:World) (E:Env) (B0:Blks) (μ:Places):Base:=⟨w,ownL B0 μ,E,ownP B0 μ⟩
def RepRV (E:Env) (μ:Places) (b:Blks) (u:List Nat) (v:Value) (rs:List V):Prop:=
 match rs with
 | [r]=>Rep E μ b u v r
 | rs=>∃ vs:List Value,v = .tuple vs.toArray∧vs.length=rs.length∧∀ (i:Nat) (x:Value) (p:V),vs[i]? = some x→rs[i]? = some p→Rep E μ b u x p
def resVV:List V→V
 | [r]=>r
 | rs=>.tup rs
def dom (B:Blks):List Nat:=B.map (·.1)
def CallM (cfg:Cfg) (Q:Program) (f:FuncId) (B0:Blks) (vs rs:List V) (B1:Blks):Prop:=
 (∃ fn,Q.funcs[f]? = some fn∧fn.body.isNone=false∧(fn.name == "runtime.NumGoroutine")=false) ∧
 ∀ (E:Env) (μ:Places) (w:World) (cvs:List Value),Mem cfg (baseM w E B0 μ) E μ B0 (dom B0) w→cvs.length=vs.length→(∀ (i:Nat) (v:Value) (x:V),cvs[i]? = some v→vs[i]? = some x→Rep E μ B0 (dom B0) v x) →
  Calls Q f cvs.toArray w fun e w'=>∃ v E' μ',e = .returned v∧Mem cfg (baseM w E B0 μ) E' μ' B1 (dom B1) w'∧RepRV E' μ' B1 (dom B1) v rs
def argM (ns:List Nat) (b:Blks):List V→Option (List V × Blks)
 | []=>some ([],b)
 | v :: r=>
  if v.names.any (fun n=>ns.contains n) then (argM ns b r).map fun (ys,b')=>(v :: ys,b')
  else match toP b v with
   | some (x,b')=>(argM ns b' r).map fun (ys,b'')=>(.p x :: ys,b'')
   | none=>none
theorem argM_sound {cfg:Cfg} {base:Base} {ns:List Nat} (xs:List V):∀ {E:Env} {μ:Places} {b:Blks} {u:List Nat} {w:World} {ys:List V} {b':Blks},Mem cfg base E μ b u w→∀ (vs:List Value),vs.length=xs.length →
  (∀ (i:Nat) (v:Value) (p:V),vs[i]? = some v→xs[i]? = some p→Rep E μ b u v p)→argM ns b xs=some (ys,b') →
  ∃ E',Chg E E' μ μ b b' u u∧Mem cfg base E' μ b' u w∧ys.length=xs.length∧∀ (i:Nat) (v:Value) (p:V),vs[i]? = some v→ys[i]? = some p→Rep E' μ b' u v p:=by
 induction xs with
 | nil=>
  intro E μ b u w ys b' hm vs hl hr h
  simp only [argM,Option.some.injEq,Prod.mk.injEq] at h
  obtain ⟨rfl,rfl⟩:=h
  exact ⟨E,Chg.refl _ _ _ _,hm,rfl,fun i v p _ h=>by simp at h⟩
 | cons x r ih=>
  intro E μ b u w ys b' hm vs hl hr h
  match vs with
  | []=>simp at hl
  | v :: vr=>
   simp only [argM] at h
   split at h
   ·simp only [Option.map_eq_some_iff] at h
    obtain ⟨⟨ys',b₁⟩,h1,h2⟩:=h
    simp only [Prod.mk.injEq] at h2
    obtain ⟨rfl,rfl⟩:=h2
    obtain ⟨E₁,g1,g2,g3,g4⟩:=ih hm vr (by simpa using hl) (fun i v p a c=>hr (i + 1) v p a c) h1
    refine ⟨E₁,g1,g2,by simp [g3],fun i v p a c=>?_⟩
    cases i with
    | zero=>simp at a c;subst a;subst c;exact (hr 0 _ _ rfl rfl).chg g1
    | succ i=>exact g4 i v p a c
   ·split at h
    ·rename_i y b₁ hy
     simp only [Option.map_eq_some_iff] at h
     obtain ⟨⟨ys',b₂⟩,h1,h2⟩:=h
     simp only [Prod.mk.injEq] at h2
     obtain ⟨rfl,rfl⟩:=h2
     obtain ⟨E₁,k1,k2,k3⟩:=toP_sound x hm (hr 0 v x rfl rfl) hy
     obtain ⟨E₂,g1,g2,g3,g4⟩:=ih k2 vr (by simpa using hl) (fun i v p a c=>(hr (i + 1) v p a c).chg k1) h1
     refine ⟨E₂,k1.trans g1,g2,by simp [g3],fun i v p a c=>?_⟩
     cases i with
     | zero=>simp at a c;subst a;subst c;exact .p _ _ (k3.mono g1.env)
     | succ i=>exact g4 i v p a c
    ·cases h
section
variable {cfg:Cfg} {Q:Program}
def bodyM (cfg:Cfg) (fn:Func) (rs:List V) (B1:Blks):Ex→St→Prop
 | .normal,S | .ret,S=>∃ xs ys b',resultVs cfg S fn.results.toList=some xs∧argM (dom B1) S.b xs=some (ys,b')∧St.le [] ⟨ys,b',S.u⟩ ⟨rs,B1,dom B1⟩
 | _,_=>False
def startM (fn:Func) (vs:List V) (B0:Blks):St:=⟨vs ++ List.replicate (fn.ntmps - vs.length) .any,B0,dom B0⟩
theorem CallM.of_body (hc:CfgOk cfg Q) {f:FuncId} {fn:Func} {c:Code} {B0 B1:Blks} {vs rs:List V} (hf:Q.funcs[f]? = some fn) (hb:fn.body=some c) (hn:(fn.name == "runtime.NumGoroutine")=false)
  (h:∀ base,wpA cfg base Q c (bodyM cfg fn rs B1) (startM fn vs B0)):CallM cfg Q f B0 vs rs B1:=by
 refine ⟨⟨fn,hf,by simp [hb],hn⟩,fun E μ w cvs hm hl hr=>?_⟩
 refine calls_of_wp hf hb ?_
 have hcon:Con cfg (baseM w E B0 μ) (startM fn vs B0) { tmps:=cvs.toArray ++ Array.replicate (fn.ntmps - cvs.toArray.size) undef,defers:=[] } w:=by
  refine ⟨E, μ,hm,rfl,by simp [startM,hl],fun i v x hv hx=>?_⟩
  simp only [startM] at hx ⊢
  by_cases hi:i < cvs.length
  ·rw [Array.getElem?_append_left (by simpa using hi)] at hv
   rw [List.getElem?_append_left (by omega)] at hx
   exact hr i v x (by simpa using hv) hx
  ·rw [List.getElem?_append_right (by omega)] at hx
   have:=List.mem_of_getElem? hx
   rw [List.mem_replicate] at this
   rw [this.2]
   exact .any _
 refine wp_mono (h (baseM w E B0 μ) _ w hcon) ?_
 intro e a w' ⟨x,S,h1,h2,E', μ',hm',ht⟩
 have fin:(∃ xs ys b',resultVs cfg S fn.results.toList=some xs∧argM (dom B1) S.b xs=some (ys,b')∧St.le [] ⟨ys,b',S.u⟩ ⟨rs,B1,dom B1⟩) →
   a.defers=[]∧∃ v,(results fn a.tmps).run Q w' = .ok v w'∧∃ v' E' μ',Ending.returned v=Ending.returned v'∧Mem cfg (baseM w E B0 μ) E' μ' B1 (dom B1) w'∧RepRV E' μ' B1 (dom B1) v' rs:=by
  rintro ⟨xs,ys,b',hxs,htp,hle⟩
  obtain ⟨cvs,k1,k2,k3⟩:=resultVs_sound hc hm' ht _ hxs
  obtain ⟨E₂,g1,g2,g3,g4⟩:=argM_sound xs hm' cvs k2 k3 htp
  have hcon₂:Con cfg (baseM w E B0 μ) ⟨ys,b',S.u⟩ { tmps:=cvs.toArray,defers:=[] } w':=⟨E₂, μ',g2,rfl,by simp [k2,g3],fun i v x hv hx=>g4 i v x (by simpa using hv) hx⟩
  obtain ⟨E₃, μ₃,q1,_,q2,q3⟩:=hcon₂.le hle
  refine ⟨ht.1,if h:cvs.toArray.size=1 then cvs.toArray[0] else .tuple cvs.toArray,?_,_,E₃, μ₃,rfl,q1,?_⟩
  ·have hmap:(fn.results.mapM (resOf a.tmps)).run Q w' = .ok cvs.toArray w':=by
    rw [Array.mapM_eq_mapM_toList]
    simp only [Sem.run_map,k1,Result.andThen_ok]
   have hre:results fn a.tmps=(do let vs ← fn.results.mapM (resOf a.tmps);pure (if h:vs.size=1 then vs[0] else .tuple vs)):=by
    unfold results
    congr 1
   rw [hre,Sem.run_bind,hmap]
   rfl
  ·have hlen:cvs.length=rs.length:=by simpa using q2
   have tup:cvs.length ≠ 1→(if h:cvs.toArray.size=1 then cvs.toArray[0] else Value.tuple cvs.toArray) = .tuple cvs.toArray:=by
    intro h
    rw [dif_neg (by simpa using h)]
   have g5:∀ (i:Nat) (v:Value) (x:V),cvs[i]? = some v→rs[i]? = some x→Rep E₃ μ₃ B1 (dom B1) v x:=fun i v x hv hx=>q3 i v x (by simpa using hv) hx
   clear q3 hle hcon₂
   rcases rs with _ | ⟨r,_ | ⟨r₂,rest⟩⟩
   ·simp only [List.length_nil] at hlen
    rw [tup (by omega)]
    exact ⟨cvs,rfl,hlen,g5⟩
   ·simp only [List.length_cons,List.length_nil] at hlen
    have hs:cvs.toArray.size=1:=by simpa using hlen
    rw [dif_pos hs]
    exact g5 0 _ r (by simp [hlen]) rfl
   ·simp only [List.length_cons] at hlen
    rw [tup (by omega)]
    exact ⟨cvs,rfl,by simpa using hlen,g5⟩
 cases e <;> simp only [Ex.of,Option.some.injEq,reduceCtorEq] at h1 <;> subst h1
 ·exact fin h2
 ·exact h2.elim
 ·exact fin h2
end
end Go.Abs
namespace Go.Abs
open Go.RowKit
theorem getB_append (xs ys:Blks) (n:Nat):getB (xs ++ ys) n=(match getB xs n with | some k=>some k | none=>getB ys n):=by
 induction xs with
 | nil=>rfl
 | cons p r ih=>
  obtain ⟨m,k⟩:=p
  simp only [List.cons_append,getB]
  by_cases e:n=m
  ·simp [e]
  ·simp [e,ih]
theorem getB_mem {b:Blks} {n:Nat} {k:Blk} (h:getB b n=some k):(n,k) ∈ b:=by
 induction b with
 | nil=>simp [getB] at h
 | cons p r ih=>
  obtain ⟨m,k₀⟩:=p
  simp only [getB] at h
  split at h
  ·rename_i e;subst e;cases h;simp
  ·exact List.mem_cons_of_mem _ (ih h)
theorem getB_dom {b:Blks} {n:Nat} (h:n ∈ dom b):∃ k,getB b n=some k:=by
 induction b with
 | nil=>simp [dom] at h
 | cons p r ih=>
  obtain ⟨m,k₀⟩:=p
  simp only [getB]
  by_cases e:n=m
  ·exact ⟨k₀,by simp [e]⟩
  ·simp only [dom,List.map_cons,List.mem_cons] at h
   rcases h with h | h
   ·exact (e h).elim
   ·obtain ⟨k,hk⟩:=ih h
    exact ⟨k,by simp [e,hk]⟩
theorem dom_getB {b:Blks} {n:Nat} {k:Blk} (h:getB b n=some k):n ∈ dom b:=List.mem_map.2 ⟨_,getB_mem h,rfl⟩
theorem getB_filter (b:Blks) (ns:List Nat) (m:Nat):getB (b.filter fun p=>!ns.contains p.1) m=if m ∈ ns then none else getB b m:=by
 induction b with
 | nil=>simp [getB]
 | cons p r ih=>
  obtain ⟨n,k⟩:=p
  simp only [List.filter_cons]
  by_cases hn:n ∈ ns
  ·simp only [List.contains_eq_mem,hn,decide_true,Bool.not_true,Bool.false_eq_true,if_false]
   have ih':=ih
   simp only [List.contains_eq_mem] at ih'
   rw [ih']
   by_cases hm:m ∈ ns
   ·simp [hm]
   ·have:m ≠ n:=fun e=>hm (e ▸ hn)
    simp [hm,getB,this]
  ·simp only [List.contains_eq_mem,hn,decide_false,Bool.not_false,if_true,getB]
   have ih':=ih
   simp only [List.contains_eq_mem] at ih'
   rw [ih']
   by_cases e:m=n
   ·subst e;simp [hn]
   ·simp [e]
def renBs (σ:Nat→Nat) (B:Blks):Blks:=B.map fun p=>(σ p.1,renB σ p.2)
theorem getB_ren {σ:Nat→Nat}:∀ {B:Blks},(∀ n ∈ dom B,∀ m ∈ dom B, σ n = σ m→n=m)→∀ n ∈ dom B,getB (renBs σ B) (σ n)=(getB B n).map (renB σ)
 | [],_,n,hn=>by simp [dom] at hn
 | (m,k) :: r,h,n,hn=>by
  simp only [renBs,List.map_cons,getB]
  by_cases e:n=m
  ·simp [e]
  ·have hne:σ n ≠ σ m:=fun he=>e (h n hn m (by simp [dom]) he)
   rw [if_neg hne,if_neg e]
   have hn':n ∈ dom r:=by
    simp only [dom,List.map_cons,List.mem_cons] at hn
    rcases hn with hn | hn
    ·exact (e hn).elim
    ·exact hn
   exact getB_ren (B:=r) (fun a ha b hb=>h a (by simp only [dom,List.map_cons,List.mem_cons];exact .inr ha) b (by simp only [dom,List.map_cons,List.mem_cons];exact .inr hb)) n hn'
theorem getB_ren_none {σ:Nat→Nat} {B:Blks} {m:Nat} (h:∀ n ∈ dom B, σ n ≠ m):getB (renBs σ B) m=none:=by
 induction B with
 | nil=>rfl
 | cons p r ih=>
  obtain ⟨n,k⟩:=p
  simp only [renBs,List.map_cons,getB]
  rw [if_neg (fun e=>h n (by simp [dom]) e.symm)]
  exact ih fun n hn=>h n (by simp only [dom,List.map_cons,List.mem_cons];exact .inr hn)
structure WeakTo (S T:St):Prop where
 mem:∀ (cfg:Cfg) (base:Base) (E:Env) (μ:Places) (w:World) (a:Act),Mem cfg base E μ S.b S.u w→Tm E μ S a→Mem cfg base E μ T.b T.u w∧Tm E μ T a
 blk:∀ n k,getB T.b n=some k→∃ k',getB S.b n=some k'∧k'.mut=k.mut
 sub:∀ n,n ∈ T.u→n ∈ S.u
theorem WeakTo.refl (S:St):WeakTo S S:=⟨fun _ _ _ _ _ _ h k=>⟨h,k⟩,fun n k h=>⟨k,h,rfl⟩,fun _ h=>h⟩
theorem WeakTo.of_le {S T:St} (h:St.le [] S T):WeakTo S T:=by
 refine ⟨fun cfg base E μ w a hm ht=>?_,fun n k hk=>?_,fun n hn=>?_⟩
 ·have:=Con.le' h hm ht
  simpa using this
 ·rcases leBs_get h.b n k hk with h1 | ⟨k',h1,h2⟩
  ·unfold virtB at h1
   split at h1
   ·simp at h1
   ·cases h1
  ·refine ⟨k',h1,?_⟩
   cases k' <;> cases k <;> simp_all [leK,Blk.mut]
 ·have:=h.used
  simp only [List.all_eq_true,Bool.or_eq_true,List.contains_iff_mem,List.not_mem_nil,or_false] at this
  exact this n hn
theorem rep_unren {σ:Nat→Nat} {E:Env} {μ:Places} {b:Blks} {u:List Nat} {B0:Blks} (hB:∀ n k,getB B0 n=some k→getB b (σ n)=some (renB σ k)) {v:Value} {y:V} (r:Rep E μ b u v y) :
  ∀ (x:V),renV σ x=y→(∀ n ∈ x.names,n ∈ dom B0)→Rep E (fun n=>μ (σ n)) B0 (dom B0) v x:=by
 have hlist:∀ {ps:List V} {a:List V},renVs σ a=ps→∀ (i:Nat) (x:V),a[i]? = some x→ps[i]? = some (renV σ x):=by
  intro ps a h i x hx
  rw [← h,renVs_map,List.getElem?_map,hx]
  rfl
 have harr:∀ n k,n ∈ dom B0→getB b (σ n)=some k→∃ k',getB B0 n=some k'∧k=renB σ k':=by
  intro n k hn hk
  obtain ⟨k',hk'⟩:=getB_dom hn
  have:=hB n k' hk'
  rw [hk] at this
  exact ⟨k',hk',by simpa using this⟩
 induction r with
 | p v x h=>intro x' hx hn;cases x' <;> simp only [renV,reduceCtorEq,V.p.injEq] at hx;subst hx;exact .p _ _ h
 | nils=>intro x' hx hn;cases x' <;> simp only [renV,reduceCtorEq] at hx;exact .nils
 | any v=>intro x' hx hn;cases x' <;> simp only [renV,reduceCtorEq] at hx;exact .any _
 | ref nm off B cap hu hm hb=>
  intro x' hx hn
  cases x' <;> simp only [renV,reduceCtorEq,V.ref.injEq] at hx
  obtain ⟨rfl,rfl⟩:=hx
  rename_i n off
  have hd:=hn n (by simp [V.names])
  refine .ref n off B cap hd hm fun sz es sh he=>?_
  exact hb sz es sh (hB n _ he)
 | mp nm B cap hu hm hb=>
  intro x' hx hn
  cases x' <;> simp only [renV,reduceCtorEq,V.mp.injEq] at hx
  subst hx
  rename_i n
  have hd:=hn n (by simp [V.names])
  refine .mp n B cap hd hm fun sz es sh he=>?_
  exact hb sz es sh (hB n _ he)
 | own v nm len sz es sh hu hb hs hl hv=>
  intro x' hx hn
  cases x' <;> simp only [renV,reduceCtorEq,V.own.injEq] at hx
  obtain ⟨rfl,rfl⟩:=hx
  rename_i n len
  have hd:=hn n (by simp [V.names])
  obtain ⟨k',hk',he⟩:=harr n _ hd hb
  have hk'':k' = .arr sz es sh:=by cases k' <;> simp only [renB,reduceCtorEq] at he;exact he.symm
  subst hk''
  exact .own v n len sz es sh hd hk' hs hl fun e=>by rw [hv e];rfl
 | elem v nm len i j sz es sh hu hb hs hl hv=>
  intro x' hx hn
  cases x' <;> simp only [renV,reduceCtorEq,V.elem.injEq] at hx
  obtain ⟨rfl,rfl,rfl,rfl⟩:=hx
  rename_i n len i j
  have hd:=hn n (by simp [V.names])
  obtain ⟨k',hk',he⟩:=harr n _ hd hb
  have hk'':k' = .arr sz es sh:=by cases k' <;> simp only [renB,reduceCtorEq] at he;exact he.symm
  subst hk''
  exact .elem v n len i j sz es sh hd hk' hs hl fun e=>hv e
 | fn f vs ws ps qs hl hm hh hk ih ik=>
  intro x' hx hn
  cases x' <;> simp only [renV,reduceCtorEq,V.fn.injEq] at hx
  obtain ⟨rfl,h1,h2⟩:=hx
  rename_i f a c
  have e1:ps.length=a.length:=by rw [← h1,renVs_map,List.length_map]
  have e2:qs.length=c.length:=by rw [← h2,renVs_map,List.length_map]
  refine .fn f vs ws a c (hl.trans e1) (hm.trans e2) (fun i v x hv hx=>?_) (fun i v x hv hx=>?_)
  ·exact ih i v _ hv (hlist h1 i x hx) x rfl fun n hnx=>hn n (by simp only [V.names,List.mem_append];exact .inl (mem_namesL (List.mem_of_getElem? hx) hnx))
  ·exact ik i v _ hv (hlist h2 i x hx) x rfl fun n hnx=>hn n (by simp only [V.names,List.mem_append];exact .inr (mem_namesL (List.mem_of_getElem? hx) hnx))
 | agg vs ps hl hh ih=>
  intro x' hx hn
  cases x' <;> simp only [renV,reduceCtorEq,V.agg.injEq] at hx
  rename_i a
  have e1:ps.length=a.length:=by rw [← hx,renVs_map,List.length_map]
  exact .agg vs a (hl.trans e1) fun i v x hv hx'=>ih i v _ hv (hlist hx i x hx') x rfl fun n hnx=>hn n (by simp only [V.names];exact mem_namesL (List.mem_of_getElem? hx') hnx)
 | tup vs ps hl hh ih=>
  intro x' hx hn
  cases x' <;> simp only [renV,reduceCtorEq,V.tup.injEq] at hx
  rename_i a
  have e1:ps.length=a.length:=by rw [← hx,renVs_map,List.length_map]
  exact .tup vs a (hl.trans e1) fun i v x hv hx'=>ih i v _ hv (hlist hx i x hx') x rfl fun n hnx=>hn n (by simp only [V.names];exact mem_namesL (List.mem_of_getElem? hx') hnx)
def callArgs (S:St) (f:Operand) (args:Array Operand):Option (FuncId × List V):=
 match opnd S.t f with
 | .p (.fn (.func g) a c)=>some (g,a.map .p ++ args.toList.map (opnd S.t) ++ c.map .p)
 | .fn (.func g) a c=>some (g,a ++ args.toList.map (opnd S.t) ++ c)
 | _=>none
theorem callArgs_sound {S:St} {f:Operand} {args:Array Operand} {g:FuncId} {xs:List V} (h:callArgs S f args=some (g,xs)) {E:Env} {μ:Places} {a:Act} (ht:Tm E μ S a) :
  ∃ vs ws:List Value,a.eval f = .func (.func g) vs.toArray ws.toArray∧(vs ++ args.toList.map a.eval ++ ws).length=xs.length ∧
   ∀ (i:Nat) (v:Value) (x:V),(vs ++ args.toList.map a.eval ++ ws)[i]? = some v→xs[i]? = some x→Rep E μ S.b S.u v x:=by
 have hf:=rep_opnd ht f
 have main:∀ (vs ws:List Value) (ps qs:List V),vs.length=ps.length→ws.length=qs.length→(∀ (i:Nat) (v:Value) (p:V),vs[i]? = some v→ps[i]? = some p→Rep E μ S.b S.u v p) →
   (∀ (i:Nat) (v:Value) (p:V),ws[i]? = some v→qs[i]? = some p→Rep E μ S.b S.u v p) →
   (vs ++ args.toList.map a.eval ++ ws).length=(ps ++ args.toList.map (opnd S.t) ++ qs).length ∧
   ∀ (i:Nat) (v:Value) (x:V),(vs ++ args.toList.map a.eval ++ ws)[i]? = some v→(ps ++ args.toList.map (opnd S.t) ++ qs)[i]? = some x→Rep E μ S.b S.u v x:=by
  intro vs ws ps qs hl hm hh hk
  refine ⟨by simp [hl,hm],fun i v p hv hp=>?_⟩
  by_cases h1:i < vs.length
  ·rw [List.append_assoc,List.getElem?_append_left h1] at hv
   rw [List.append_assoc,List.getElem?_append_left (by omega)] at hp
   exact hh i v p hv hp
  ·rw [List.append_assoc,List.getElem?_append_right (by omega)] at hv
   rw [List.append_assoc,List.getElem?_append_right (by omega),← hl] at hp
   by_cases h2:i - vs.length < args.toList.length
   ·rw [List.getElem?_append_left (by simpa using h2)] at hv
    rw [List.getElem?_append_left (by simpa using h2)] at hp
    simp only [List.getElem?_map,Option.map_eq_some_iff] at hv hp
    obtain ⟨z,hz,rfl⟩:=hv
    obtain ⟨z',hz',rfl⟩:=hp
    rw [hz] at hz'
    cases hz'
    exact rep_opnd ht _
   ·rw [List.getElem?_append_right (by simpa using Nat.le_of_not_lt h2)] at hv
    rw [List.getElem?_append_right (by simpa using Nat.le_of_not_lt h2)] at hp
    simp only [List.length_map] at hv hp
    exact hk _ v p hv hp
 unfold callArgs at h
 split at h
 ·rename_i g' ps qs he
  simp only [Option.some.injEq,Prod.mk.injEq] at h
  obtain ⟨rfl,rfl⟩:=h
  rw [he] at hf
  have hf:=hf.inv_p
  generalize a.eval f=cv at hf ⊢
  cases hf with
  | fn _ vs ws _ _ hl hl' hh hh'=>
   refine ⟨vs,ws,rfl,main vs ws (ps.map .p) (qs.map .p) (by simpa using hl) (by simpa using hl') (fun i v p hv hp=>?_) (fun i v p hv hp=>?_)⟩
   ·simp only [List.getElem?_map,Option.map_eq_some_iff] at hp
    obtain ⟨q,hq,rfl⟩:=hp
    exact .p _ _ (hh i v q hv hq)
   ·simp only [List.getElem?_map,Option.map_eq_some_iff] at hp
    obtain ⟨q,hq,rfl⟩:=hp
    exact .p _ _ (hh' i v q hv hq)
 ·rename_i g' ps qs he
  simp only [Option.some.injEq,Prod.mk.injEq] at h
  obtain ⟨rfl,rfl⟩:=h
  rw [he] at hf
  obtain ⟨vs,ws,hcv,hl,hl',hh,hh'⟩:=hf.inv_fn
  exact ⟨vs,ws,hcv,main vs ws ps qs hl hl' hh hh'⟩
 ·cases h
end Go.Abs
namespace Go.Abs
open Go.RowKit
structure Lend (σ:Nat→Nat) (S:St) (b':Blks) (T:St) (B0 B1:Blks) (vs:List V):Prop where
 weak:WeakTo ⟨S.t,b',S.u⟩ T
 blk:∀ n k,getB B0 n=some k→getB b' (σ n)=some (renB σ k)
 keep:∀ n k,getB B0 n=some k→isArr k=false→getB T.b (σ n)=some (renB σ k)∧1000 ≤ n
 gone:∀ n k,getB B0 n=some k→isArr k=true→getB T.b (σ n)=none∧n ∉ dom B1
 inj:∀ n ∈ dom B0 ++ dom B1,∀ m ∈ dom B0 ++ dom B1, σ n = σ m→n=m
 new:∀ n ∈ dom B1,n ∈ dom B0 ∨ (σ n ∉ S.u∧σ n ∉ T.u)
 vals:∀ n ∈ V.namesL vs,n ∈ dom B0
 conts:∀ n k,getB B0 n=some k→∀ m ∈ V.namesL k.vals,m ∈ dom B0
def lentB (σ:Nat→Nat) (T:St) (B1:Blks):Blks:=renBs σ B1 ++ T.b.filter fun p=>!((dom B1).map σ).contains p.1
def lentU (σ:Nat→Nat) (T:St) (B1:Blks):List Nat:=(dom B1).map σ ++ T.u.filter fun n=>!((dom B1).map σ).contains n
section
variable {cfg:Cfg} {base:Base} {Q:Program} {σ:Nat→Nat} {S T:St} {b':Blks} {B0 B1:Blks} {vs rs:List V}
theorem Lend.enter (hL:Lend σ S b' T B0 B1 vs) {E:Env} {μ:Places} {w:World} (hm:Mem cfg base E μ b' S.u w):Mem cfg (baseM w E B0 fun n=>μ (σ n)) E (fun n=>μ (σ n)) B0 (dom B0) w:=by
 have hblk:∀ n k,getB B0 n=some k→BlkOk E (fun n=>μ (σ n)) B0 (dom B0) w n k:=by
  intro n k hk
  have h:=hm.blk _ _ (hL.blk n k hk)
  cases k with
  | cells cs=>
   obtain ⟨B,cap,c,h1,h2,h3,h4,h5⟩:=h
   refine ⟨B,cap,c,h1,h2,by simpa [renVs_map] using h3,fun i v x hv hx=>?_,h5⟩
   have:=h4 i v (renV σ x) hv (by rw [renVs_map,List.getElem?_map,hx];rfl)
   exact rep_unren hL.blk this x rfl fun m hmx=>hL.conts n _ hk m (mem_namesL (by simpa [Blk.vals] using List.mem_of_getElem? hx) hmx)
  | frz cs=>exact h
  | arr sz es sh=>exact h
  | map ks vs=>exact h
  | vmap ks vs=>
   obtain ⟨B,cap,h1,⟨es,clock,g1,g2,g3,g4,g5⟩,h5⟩:=h
   refine ⟨B,cap,h1,⟨es,clock,g1,g2,by simpa [renVs_map] using g3,fun i e hi=>⟨(g4 i e hi).1,fun x hx=>?_⟩,g5⟩,h5⟩
   have:=(g4 i e hi).2 (renV σ x) (by rw [renVs_map,List.getElem?_map,hx];rfl)
   exact rep_unren hL.blk this x rfl fun m hmx=>hL.conts n _ hk m (mem_namesL (by simpa [Blk.vals] using List.mem_of_getElem? hx) hmx)
 have hmut:∀ k,(renB σ k).mut=k.mut:=fun k=>by cases k <;> rfl
 refine ⟨fun n k hk=>dom_getB hk,hblk,fun n m k l B C c d hk hl hkm hlm hB hC hnm=>?_,fun n k B c hk hkm hB=>.inr ⟨n,k,c,hk,hkm,hB⟩,hm.cell,hm.obj,Env.le_refl E,fun B o v h=>.inl h,fun B x h=>.inl h,rfl,rfl,rfl,Nat.le_refl _,fun _ _ _=>rfl,hm.mp,fun B x h=>.inl h,?_⟩
 ·refine hm.inj (σ n) (σ m) _ _ B C c d (hL.blk n k hk) (hL.blk m l hl) ((hmut k).trans hkm) ((hmut l).trans hlm) hB hC fun e=>hnm ?_
  exact hL.inj n (List.mem_append_left _ (dom_getB hk)) m (List.mem_append_left _ (dom_getB hl)) e
 ·intro n p hp
  simp only [baseM,ownP] at hp
  split at hp
  ·rename_i hn
   split at hp
   ·rename_i k hk
    split at hp
    ·cases hp
    ·rename_i ha
     refine ⟨dom_getB hk,fun sz es sh he=>?_,hn,hp⟩
     rw [hk] at he
     cases he
     exact ha rfl
   ·cases hp
  ·cases hp
theorem Lend.leave (hL:Lend σ S b' T B0 B1 vs) {E E':Env} {μ μ₂:Places} {w w':World} (hm:Mem cfg base E μ b' S.u w) (hmT:Mem cfg base E μ T.b T.u w) (hc:Mem cfg (baseM w E B0 fun n=>μ (σ n)) E' μ₂ B1 (dom B1) w') :
  ∃ μ'',Chg E E' μ μ'' T.b (lentB σ T B1) T.u (lentU σ T B1)∧Mem cfg base E' μ'' (lentB σ T B1) (lentU σ T B1) w'∧Emb σ E' E' μ₂ μ'' B1 (lentB σ T B1) (dom B1) (lentU σ T B1):=by
 have hinj1:∀ n ∈ dom B1,∀ m ∈ dom B1, σ n = σ m→n=m:=fun n hn m hm'=>hL.inj n (List.mem_append_right _ hn) m (List.mem_append_right _ hm')
 let μ'':Places:=fun m=>match (dom B1).find? (fun n=>σ n == m) with | some n=>μ₂ n | none=>μ m
 have hμi:∀ n ∈ dom B1, μ'' (σ n) = μ₂ n:=by
  intro n hn
  simp only [μ'']
  cases hf:(dom B1).find? (fun m=>σ m == σ n) with
  | none=>
   have:=List.find?_eq_none.1 hf n hn
   simp at this
  | some m=>
   have h1:=List.mem_of_find?_eq_some hf
   have h2:=List.find?_some hf
   simp only [beq_iff_eq] at h2
   rw [hinj1 m h1 n hn h2]
 have hμo:∀ m,(∀ n ∈ dom B1, σ n ≠ m)→μ'' m = μ m:=by
  intro m h
  simp only [μ'']
  cases hf:(dom B1).find? (fun n=>σ n == m) with
  | none=>rfl
  | some n=>
   have h1:=List.mem_of_find?_eq_some hf
   have h2:=List.find?_some hf
   simp only [beq_iff_eq] at h2
   exact (h n h1 h2).elim
 have hbi:∀ n ∈ dom B1,getB (lentB σ T B1) (σ n)=(getB B1 n).map (renB σ):=by
  intro n hn
  obtain ⟨k,hk⟩:=getB_dom hn
  rw [lentB,getB_append,getB_ren hinj1 n hn,hk]
  rfl
 have hbo:∀ m,(∀ n ∈ dom B1, σ n ≠ m)→getB (lentB σ T B1) m=getB T.b m:=by
  intro m h
  rw [lentB,getB_append,getB_ren_none h,getB_filter]
  simp only
  rw [if_neg]
  intro hm'
  obtain ⟨n,hn,he⟩:=List.mem_map.1 hm'
  exact h n hn he
 have hui:∀ n ∈ dom B1, σ n ∈ lentU σ T B1:=fun n hn=>List.mem_append_left _ (List.mem_map_of_mem hn)
 have huo:∀ m ∈ T.u,m ∈ lentU σ T B1:=by
  intro m hm'
  by_cases h:m ∈ (dom B1).map σ
  ·exact List.mem_append_left _ h
  ·refine List.mem_append_right _ (List.mem_filter.2 ⟨hm',?_⟩)
   simp only [List.contains_eq_mem,Bool.not_eq_true',decide_eq_false_iff_not]
   exact h
 have hcase:∀ m,(∃ n ∈ dom B1, σ n=m) ∨ ∀ n ∈ dom B1, σ n ≠ m:=by
  intro m
  by_cases h:∃ n ∈ dom B1, σ n=m
  ·exact .inl h
  ·exact .inr fun n hn he=>h ⟨n,hn,he⟩
 have hdec:∀ m k,getB (lentB σ T B1) m=some k→(∃ n k₁,getB B1 n=some k₁∧σ n=m∧k=renB σ k₁) ∨ ((∀ n ∈ dom B1, σ n ≠ m)∧getB T.b m=some k):=by
  intro m k hk
  rcases hcase m with ⟨n,hn,rfl⟩ | h
  ·rw [hbi n hn] at hk
   obtain ⟨k₁,hk₁,rfl⟩:=Option.map_eq_some_iff.1 hk
   exact .inl ⟨n,k₁,hk₁,rfl,rfl⟩
  ·rw [hbo m h] at hk
   exact .inr ⟨h,hk⟩
 have hpin:∀ n ∈ dom B1,n ∈ dom B0→μ₂ n = μ (σ n)∧∃ k₀ k₁,getB B0 n=some k₀∧getB B1 n=some k₁∧isArr k₀ = false∧isArr k₁ = false:=by
  intro n hn hn0
  obtain ⟨k₀,hk₀⟩:=getB_dom hn0
  obtain ⟨k₁,hk₁⟩:=getB_dom hn
  cases ha:isArr k₀ with
  | true=>exact ((hL.gone n k₀ hk₀ ha).2 hn).elim
  | false=>
   obtain ⟨_,h1000⟩:=hL.keep n k₀ hk₀ ha
   have hp:(baseM w E B0 fun n=>μ (σ n)).pin n = μ (σ n):=by
    simp only [baseM,ownP,h1000,if_true,hk₀,ha,Bool.false_eq_true,if_false]
   have hplace:∃ p, μ (σ n)=some p:=by
    have h:=hm.blk _ _ (hL.blk n k₀ hk₀)
    cases k₀ with
    | cells cs=>obtain ⟨B,cap,c,h1,_⟩:=h;exact ⟨_,h1⟩
    | frz cs=>obtain ⟨B,cap,h1,_⟩:=h;exact ⟨_,h1⟩
    | arr sz es sh=>simp [isArr] at ha
    | map ks vs=>obtain ⟨B,cap,h1,_⟩:=h;exact ⟨_,h1⟩
    | vmap ks vs=>obtain ⟨B,cap,h1,_⟩:=h;exact ⟨_,h1⟩
   obtain ⟨p,hpl⟩:=hplace
   obtain ⟨_,h2,_,h4⟩:=hc.pin n p (hp.trans hpl)
   refine ⟨h4.trans hpl.symm,k₀,k₁,hk₀,hk₁,ha,?_⟩
   rw [isArr_iff]
   intro sz es sh e
   exact h2 sz es sh (by rw [hk₁,e])
 have hnewT:∀ n ∈ dom B1, σ n ∈ T.u→n ∈ dom B0:=by
  intro n hn hu
  rcases hL.new n hn with h | h
  ·exact h
  ·exact (h.2 hu).elim
 have hren:∀ k,isArr (renB σ k)=isArr k:=fun k=>by cases k <;> rfl
 have hmut:∀ k,(renB σ k).mut=k.mut:=fun k=>by cases k <;> rfl
 have hchg:Chg E E' μ μ'' T.b (lentB σ T B1) T.u (lentU σ T B1):=by
  refine ⟨hc.le,huo,fun m hmu sz es sh he=>?_,fun m hmu he=>?_⟩
  ·rcases hcase m with ⟨n,hn,rfl⟩ | h
   ·obtain ⟨_,k₀,k₁,hk₀,_,ha,_⟩:=hpin n hn (hnewT n hn hmu)
    have:=(hL.keep n k₀ hk₀ ha).1
    rw [he] at this
    have h2:=hren k₀
    rw [← Option.some.inj this,ha] at h2
    simp [isArr] at h2
   ·exact ⟨es,sh,by rw [hbo m h];exact he,Nat.le_refl _,fun _=>hμo m h⟩
  ·rcases hcase m with ⟨n,hn,rfl⟩ | h
   ·obtain ⟨h1,k₀,k₁,hk₀,hk₁,_,ha⟩:=hpin n hn (hnewT n hn hmu)
    refine ⟨(hμi n hn).trans h1,fun sz es sh he=>?_⟩
    rw [hbi n hn,hk₁] at he
    have h2:=hren k₁
    simp only [Option.map_some,Option.some.injEq] at he
    rw [he,ha] at h2
    simp [isArr] at h2
   ·exact ⟨hμo m h,fun sz es sh=>by rw [hbo m h];exact he sz es sh⟩
 have hemb:Emb σ E' E' μ₂ μ'' B1 (lentB σ T B1) (dom B1) (lentU σ T B1):=by
  refine ⟨Env.le_refl _,hui,fun n hn sz es sh he=>⟨by rw [hbi n hn,he];rfl,hμi n hn⟩,fun n hn he=>⟨hμi n hn,fun sz es sh h=>?_⟩⟩
  obtain ⟨k,hk⟩:=getB_dom hn
  rw [hbi n hn,hk] at h
  simp only [Option.map_some,Option.some.injEq] at h
  cases k <;> simp only [renB,reduceCtorEq] at h
  exact he _ _ _ hk
 have hown:∀ A,ownL B0 (fun n=>μ (σ n)) A→base.w.heap.size ≤ A ∨ base.L A:=by
  rintro A ⟨n,k,c,h1,h2,h3⟩
  exact hm.live (σ n) _ A c (hL.blk n k h1) ((hmut k).trans h2) h3
 have hother:∀ m k A c,(∀ n ∈ dom B1, σ n ≠ m)→getB T.b m=some k→k.mut=true→μ m=some (A,c)→A < w.heap.size∧¬ ownL B0 (fun n=>μ (σ n)) A:=by
  intro m k A c hmo hk hkm hA
  refine ⟨?_,?_⟩
  ·have hb:=hmT.blk m k hk
   cases k with
   | cells cs=>obtain ⟨B',cap,c,h1,h2,_⟩:=hb;rw [hA] at h1;cases h1;exact blockAt_lt h2
   | frz cs=>simp [Blk.mut] at hkm
   | arr sz es sh=>
    obtain ⟨_,h⟩:=hb
    rcases h with ⟨h1,_⟩ | ⟨B',cap,c,h1,h2,_⟩
    ·rw [hA] at h1;cases h1
    ·rw [hA] at h1;cases h1;exact blockAt_lt h2
   | map ks vs=>obtain ⟨B',cap,h1,h2,_⟩:=hb;rw [hA] at h1;cases h1;exact h2.lt
   | vmap ks vs=>obtain ⟨B',cap,h1,h2,_⟩:=hb;rw [hA] at h1;cases h1;exact h2.lt
  ·rintro ⟨n,k₀,c₀,h1,h2,h3⟩
   obtain ⟨k',hk',hkm'⟩:=hL.weak.blk m k hk
   have hne:m ≠ σ n:=by
    intro e
    subst e
    cases ha:isArr k₀ with
    | true=>rw [(hL.gone n k₀ h1 ha).1] at hk;cases hk
    | false=>
     have hp:(baseM w E B0 fun n=>μ (σ n)).pin n=some (A,c₀):=by
      obtain ⟨_,h1000⟩:=hL.keep n k₀ h1 ha
      simp only [baseM,ownP,h1000,if_true,h1,ha,Bool.false_eq_true,if_false]
      exact h3
     exact hmo n (hc.pin n _ hp).1 rfl
   exact hm.inj m (σ n) k' _ A A c c₀ hk' (hL.blk n k₀ h1) (hkm'.trans hkm) ((hmut k₀).trans h2) hA h3 hne rfl
 have hEsame:∀ A,A < w.heap.size→¬ ownL B0 (fun n=>μ (σ n)) A→∀ o,E'.cell A o=E.cell A o:=by
  intro A h1 h2 o
  cases he:E'.cell A o with
  | none=>
   cases he':E.cell A o with
   | none=>rfl
   | some v=>rw [hc.le.cell _ _ _ he'] at he;cases he
  | some v=>
   rcases hc.cnew A o v he with h | h | h
   ·exact h.symm
   ·simp only [baseM] at h;omega
   ·exact (h2 h).elim
 have hMsame:∀ A,A < w.heap.size→¬ ownL B0 (fun n=>μ (σ n)) A→E'.mp A=E.mp A:=by
  intro A h1 h2
  cases he:E'.mp A with
  | none=>
   cases he':E.mp A with
   | none=>rfl
   | some v=>rw [hc.le.mp _ _ he'] at he;cases he
  | some v=>
   rcases hc.mnew A v he with h | h | h
   ·exact h.symm
   ·simp only [baseM] at h;omega
   ·exact (h2 h).elim
 have hlive1:∀ n k A c,getB B1 n=some k→k.mut=true→μ₂ n=some (A,c)→w.heap.size ≤ A ∨ ownL B0 (fun n=>μ (σ n)) A:=fun n k A c h1 h2 h3=>hc.live n k A c h1 h2 h3
 refine ⟨μ'',hchg,⟨?_,?_,?_,?_,hc.cell,hc.obj,hmT.le.trans hc.le,?_,?_,hc.os.trans hm.os,hc.tape.trans hm.tape,hc.output.trans hm.output,Nat.le_trans hm.size hc.size,?_,hc.mp,?_,pin_chg hmT hchg⟩,hemb⟩
 ·intro m k hk
  rcases hdec m k hk with ⟨n,k₁,h1,rfl,rfl⟩ | ⟨h1,h2⟩
  ·exact hui n (dom_getB h1)
  ·exact huo m (hmT.dom m k h2)
 ·intro m k hk
  rcases hdec m k hk with ⟨n,k₁,h1,rfl,rfl⟩ | ⟨h1,h2⟩
  ·exact (hc.blk n k₁ h1).emb hemb (fun _ _=>rfl) (fun _=>rfl) (dom_getB h1) h1
  ·refine BlkOk.other hmT hchg h2 (hμo m h1) (fun A c hkm hA=>?_) (fun A c hkm hA=>(hother m k A c h1 h2 hkm hA).elim (hMsame A))
   obtain ⟨g1,g2⟩:=hother m k A c h1 h2 hkm hA
   exact ⟨hc.keep A g1 g2,hEsame A g1 g2⟩
 ·intro n m k l A C c d hk hl hkm hlm hA hC hnm
  rcases hdec n k hk with ⟨n₁,k₁,h1,rfl,rfl⟩ | ⟨h1,h2⟩ <;> rcases hdec m l hl with ⟨m₁,l₁,g1,rfl,rfl⟩ | ⟨g1,g2⟩
  ·rw [hμi n₁ (dom_getB h1)] at hA
   rw [hμi m₁ (dom_getB g1)] at hC
   exact hc.inj n₁ m₁ k₁ l₁ A C c d h1 g1 ((hmut k₁).symm.trans hkm) ((hmut l₁).symm.trans hlm) hA hC fun e=>hnm (by rw [e])
  ·rw [hμi n₁ (dom_getB h1)] at hA
   rw [hμo m g1] at hC
   obtain ⟨q1,q2⟩:=hother m l C d g1 g2 hlm hC
   rintro rfl
   rcases hlive1 n₁ k₁ A c h1 ((hmut k₁).symm.trans hkm) hA with h | h
   ·omega
   ·exact q2 h
  ·rw [hμo n h1] at hA
   rw [hμi m₁ (dom_getB g1)] at hC
   obtain ⟨q1,q2⟩:=hother n k A c h1 h2 hkm hA
   rintro rfl
   rcases hlive1 m₁ l₁ A d g1 ((hmut l₁).symm.trans hlm) hC with h | h
   ·omega
   ·exact q2 h
  ·rw [hμo n h1] at hA
   rw [hμo m g1] at hC
   exact hmT.inj n m k l A C c d h2 g2 hkm hlm hA hC hnm
 ·intro m k A c hk hkm hA
  rcases hdec m k hk with ⟨n,k₁,h1,rfl,rfl⟩ | ⟨h1,h2⟩
  ·rw [hμi n (dom_getB h1)] at hA
   rcases hlive1 n k₁ A c h1 ((hmut k₁).symm.trans hkm) hA with h | h
   ·exact .inl (Nat.le_trans hm.size h)
   ·exact hown A h
  ·rw [hμo m h1] at hA
   exact hmT.live m k A c h2 hkm hA
 ·intro A o v hv
  rcases hc.cnew A o v hv with h | h | h
  ·exact hm.cnew A o v h
  ·exact .inr (.inl (Nat.le_trans hm.size h))
  ·exact .inr (hown A h)
 ·intro A x hx
  rcases hc.onew A x hx with h | h | h
  ·exact hm.onew A x h
  ·exact .inr (.inl (Nat.le_trans hm.size h))
  ·exact .inr (hown A h)
 ·intro j hj hjL
  have h1:=hm.keep j hj hjL
  have h2:¬ ownL B0 (fun n=>μ (σ n)) j:=by
   intro h
   rcases hown j h with h | h
   ·omega
   ·exact hjL h
  exact (hc.keep j (Nat.lt_of_lt_of_le hj hm.size) h2).trans h1
 ·intro A x hx
  rcases hc.mnew A x hx with h | h | h
  ·exact hm.mnew A x h
  ·exact .inr (.inl (Nat.le_trans hm.size h))
  ·exact .inr (hown A h)
theorem Emb.repRV {E E':Env} {μ μ':Places} {b b':Blks} {u u':List Nat} (c:Emb σ E E' μ μ' b b' u u') {v:Value} {rs:List V} (h:RepRV E μ b u v rs):Rep E' μ' b' u' v (renV σ (resVV rs)):=by
 unfold RepRV at h
 split at h
 ·exact h.emb c
 ·rename_i hne
  obtain ⟨vs,rfl,hl,hh⟩:=h
  have e:resVV rs = .tup rs:=by
   unfold resVV
   split
   ·rename_i r;exact (hne r rfl).elim
   ·rfl
  rw [e]
  simp only [renV,renVs_map]
  refine .tup vs _ (by simpa using hl) fun i x y hx hy=>?_
  simp only [List.getElem?_map,Option.map_eq_some_iff] at hy
  obtain ⟨q,hq,rfl⟩:=hy
  exact (hh i x q hx hq).emb c
theorem x_callM {o:Oper} {f:Operand} {args:Array Operand} {ts:Array TypeId} {g:FuncId} {xs ys:List V} (h:CallM cfg Q g B0 vs rs B1) (ho:o.op = .call { callee:=.value f,args,argTypes:=ts })
  (h1:callArgs S f args=some (g,xs)) (h2:argM ((dom B0).map σ) S.b xs=some (ys,b')) (h3:ys=renVs σ vs) (hL:Lend σ S b' T B0 B1 vs) :
  XStep cfg Q o S fun S'=>S'=St.put ⟨T.t,lentB σ T B1,lentU σ T B1⟩ o.dst (renV σ (resVV rs)) (lentB σ T B1) (lentU σ T B1):=by
 intro base a w next R ⟨E, μ,hm,ht⟩ hn
 obtain ⟨fvs,fws,hf,hlen,hrep⟩:=callArgs_sound h1 ht
 obtain ⟨E₁,c1,hm1,hl1,hr1⟩:=argM_sound xs hm _ hlen hrep h2
 have ht1:Tm E₁ μ ⟨S.t,b',S.u⟩ a:=⟨ht.1,ht.2.1,fun i v x hv hx=>(ht.2.2 i v x hv hx).chg c1⟩
 obtain ⟨hmT,htT⟩:=hL.weak.mem cfg base E₁ μ w a hm1 ht1
 have hmC:=hL.enter hm1
 obtain ⟨⟨fn,hfn,hbody,hname⟩,hcall⟩:=h
 have hyl:ys.length=vs.length:=by rw [h3,renVs_map,List.length_map]
 have hargs:=hcall E₁ _ w _ hmC (by rw [hlen,← hl1,hyl]) (fun i v x hv hx=>by
  have:=hr1 i v (renV σ x) hv (by rw [h3,renVs_map,List.getElem?_map,hx];rfl)
  exact rep_unren hL.blk this x rfl fun n hnx=>hL.vals n (mem_namesL (List.mem_of_getElem? hx) hnx))
 have hrun:(execOp a.eval o).run Q w = .ok (.enter g (fvs ++ args.toList.map a.eval ++ fws).toArray) w:=by
  have harr:(fvs.toArray ++ args.map a.eval ++ fws.toArray)=(fvs ++ args.toList.map a.eval ++ fws).toArray:=by
   apply Array.ext';simp
  simp only [execOp,ho,resolve,hf,Deferred.ofValue,Sem.run_bind,Sem.run_pure,Result.andThen_ok,invoke,callFunc,run_program,hfn]
  rw [if_neg (by simp [hname]),if_neg (by simp [hbody]),harr]
  rfl
 simp only [Oper.wp,hrun,Oper.upon]
 refine hargs.mono fun e w' ⟨v,E₂, μ₂,hev,hmc,hres⟩=>?_
 subst hev
 obtain ⟨μ'',k1,k2,k3⟩:=hL.leave hm1 hmT hmc
 refine hn _ _ _ rfl ⟨E₂, μ'',?_,?_⟩
 ·cases o.dst <;> exact k2
 ·exact Tm.put (S:=T) htT k1 (k3.repRV hres) o.dst
theorem lend_refl (h1:∀ n k,getB B0 n=some k→getB b' (σ n)=some (renB σ k)) (h2:∀ p ∈ B0,isArr p.2=false∧1000 ≤ p.1)
  (h3:∀ n ∈ dom B0 ++ dom B1,∀ m ∈ dom B0 ++ dom B1, σ n = σ m→n=m) (h4:∀ n ∈ dom B1,n ∈ dom B0 ∨ σ n ∉ S.u) (h5:∀ n ∈ V.namesL vs,n ∈ dom B0) (h6:∀ p ∈ B0,∀ m ∈ V.namesL p.2.vals,m ∈ dom B0) :
  Lend σ S b' ⟨S.t,b',S.u⟩ B0 B1 vs:=
 {weak:=WeakTo.refl _
  blk:=h1
  keep:=fun n k hk _=>⟨h1 n k hk,(h2 _ (getB_mem hk)).2⟩
  gone:=fun n k hk ha=>absurd ((h2 _ (getB_mem hk)).1.symm.trans ha) (by simp)
  inj:=h3
  new:=fun n hn=>(h4 n hn).imp id fun h=>⟨h,h⟩
  vals:=h5
  conts:=fun n k hk=>h6 _ (getB_mem hk) }
end
end Go.Abs
namespace Go.Proofs.YtgiedlcjlalpcaaGreat
open Go.Abs
theorem bytes_beq (a b:ByteArray):(a == b)=decide (a=b):=by
 cases a with
 | mk x=>cases b with
  | mk y=>
   show (x == y)=_
   rw [Bool.eq_iff_iff]
   simp
instance:LawfulBEq ByteArray where
 eq_of_beq:=by
  intro a b h
  rw [bytes_beq] at h
  exact of_decide_eq_true h
 rfl:=by
  intro a
  rw [bytes_beq]
  simp
structure Val where
 kind:Int
 int:Int
 text:ByteArray
 deriving DecidableEq,Inhabited
def Val.p (v:Val):P:=.agg [.int .i64 v.kind,.int .i64 v.int,.str v.text]
structure Col where
 kind:Int
 null:Bool
 deriving DecidableEq,Inhabited
def Col.p (c:Col):P:=.agg [.int .i64 c.kind,.bool c.null]
structure Rel where
 op:Int
 rest:List P
def Rel.p (r:Rel):P:=.agg (.int .i64 r.op :: r.rest)
def Rel.ps (l:List Rel):List P:=l.map Rel.p
inductive Expr where
 | mk (op n m kind:Int) (lit:Val) (args:List Expr) (rels:List Rel)
def Expr.op:Expr→Int | .mk x _ _ _ _ _ _=>x
def Expr.n:Expr→Int | .mk _ x _ _ _ _ _=>x
def Expr.m:Expr→Int | .mk _ _ x _ _ _ _=>x
def Expr.kind:Expr→Int | .mk _ _ _ x _ _ _=>x
def Expr.lit:Expr→Val | .mk _ _ _ _ x _ _=>x
def Expr.args:Expr→List Expr | .mk _ _ _ _ _ x _=>x
def Expr.rels:Expr→List Rel | .mk _ _ _ _ _ _ x=>x
mutual
def Expr.p:Expr→P
 | .mk op n m kind lit args rels=>.agg [.int .i64 op,.int .i64 n,.int .i64 m,.int .i64 kind,.int .i64 lit.kind,.int .i64 lit.int,.str lit.text,.lst (Expr.ps args),.lst (Rel.ps rels)]
def Expr.ps:List Expr→List P
 | []=>[]
 | e :: r=>e.p :: Expr.ps r
end
def Val.ps (l:List Val):List P:=l.map Val.p
def Col.ps (l:List Col):List P:=l.map Col.p
theorem Expr.ps_map (l:List Expr):Expr.ps l=l.map Expr.p:=by
 induction l with
 | nil=>rfl
 | cons e r ih=>simp [Expr.ps,ih]
mutual
def Expr.size:Expr→Nat
 | .mk _ _ _ _ _ args _=>1 + Expr.sizes args
def Expr.sizes:List Expr→Nat
 | []=>0
 | e :: r=>e.size + Expr.sizes r
end
theorem Expr.size_mem {a:Expr} {l:List Expr} (h:a ∈ l):a.size ≤ Expr.sizes l:=by
 induction l with
 | nil=>cases h
 | cons e r ih=>
  simp only [Expr.sizes]
  cases h with
  | head=>omega
  | tail _ h=>have:=ih h;omega
theorem Expr.size_arg {a e:Expr} (h:a ∈ e.args):a.size < e.size:=by
 cases e with
 | mk op n m kind lit args rels=>
  have:=Expr.size_mem (a:=a) (l:=args) h
  simp only [Expr.size]
  omega
theorem Expr.size_get {e:Expr} {i:Nat} (h:i < e.args.length):e.args[i].size < e.size:=Expr.size_arg (List.getElem_mem h)
theorem val_cells (v:Val):P.cells v.p=[.int .i64 v.kind,.int .i64 v.int,.str v.text]:=rfl
theorem val_fold (a b:Int) (c:ByteArray):P.agg [.int .i64 a,.int .i64 b,.str c]=(Val.mk a b c).p:=rfl
theorem val_eta (v:Val):Val.mk v.kind v.int v.text=v:=rfl
theorem col_cells (c:Col):P.cells c.p=[.int .i64 c.kind,.bool c.null]:=rfl
theorem col_fold (a:Int) (b:Bool):P.agg [.int .i64 a,.bool b]=(Col.mk a b).p:=rfl
theorem col_eta (c:Col):Col.mk c.kind c.null=c:=rfl
theorem rel_cells (r:Rel):P.cells r.p = .int .i64 r.op :: r.rest:=rfl
theorem expr_cells (e:Expr):P.cells e.p=[.int .i64 e.op,.int .i64 e.n,.int .i64 e.m,.int .i64 e.kind,.int .i64 e.lit.kind,.int .i64 e.lit.int,.str e.lit.text,.lst (Expr.ps e.args),.lst (Rel.ps e.rels)]:=by
 cases e;rfl
theorem expr_fold (a b c d f g:Int) (s:ByteArray) (l:List Expr) (r:List Rel) :
  P.agg [.int .i64 a,.int .i64 b,.int .i64 c,.int .i64 d,.int .i64 f,.int .i64 g,.str s,.lst (Expr.ps l),.lst (Rel.ps r)]=(Expr.mk a b c d ⟨f,g,s⟩ l r).p:=rfl
theorem expr_fold0 (a b c d f g:Int) (s:ByteArray):P.agg [.int .i64 a,.int .i64 b,.int .i64 c,.int .i64 d,.int .i64 f,.int .i64 g,.str s,.lst [],.lst []]=(Expr.mk a b c d ⟨f,g,s⟩ [] []).p:=rfl
theorem expr_fold1 (a b c d f g:Int) (s:ByteArray) (l:List Expr):P.agg [.int .i64 a,.int .i64 b,.int .i64 c,.int .i64 d,.int .i64 f,.int .i64 g,.str s,.lst (Expr.ps l),.lst []]=(Expr.mk a b c d ⟨f,g,s⟩ l []).p:=rfl
theorem expr_fold2 (a b c d f g:Int) (s:ByteArray) (r:List Rel):P.agg [.int .i64 a,.int .i64 b,.int .i64 c,.int .i64 d,.int .i64 f,.int .i64 g,.str s,.lst [],.lst (Rel.ps r)]=(Expr.mk a b c d ⟨f,g,s⟩ [] r).p:=rfl
theorem expr_eta (e:Expr):Expr.mk e.op e.n e.m e.kind e.lit e.args e.rels=e:=by cases e;rfl
theorem expr_op (a b c d:Int) (v:Val) (l:List Expr) (r:List Rel):(Expr.mk a b c d v l r).op=a:=rfl
theorem expr_n (a b c d:Int) (v:Val) (l:List Expr) (r:List Rel):(Expr.mk a b c d v l r).n=b:=rfl
theorem expr_m (a b c d:Int) (v:Val) (l:List Expr) (r:List Rel):(Expr.mk a b c d v l r).m=c:=rfl
theorem expr_kind (a b c d:Int) (v:Val) (l:List Expr) (r:List Rel):(Expr.mk a b c d v l r).kind=d:=rfl
theorem expr_lit (a b c d:Int) (v:Val) (l:List Expr) (r:List Rel):(Expr.mk a b c d v l r).lit=v:=rfl
theorem expr_args (a b c d:Int) (v:Val) (l:List Expr) (r:List Rel):(Expr.mk a b c d v l r).args=l:=rfl
theorem expr_rels (a b c d:Int) (v:Val) (l:List Expr) (r:List Rel):(Expr.mk a b c d v l r).rels=r:=rfl
theorem eps_nil:Expr.ps []=[]:=rfl
theorem eps_cons (a:Expr) (l:List Expr):Expr.p a :: Expr.ps l=Expr.ps (a :: l):=rfl
theorem eps_len (l:List Expr):(Expr.ps l).length=l.length:=by simp [Expr.ps_map]
theorem eps_get (l:List Expr) (i:Nat):(Expr.ps l)[i]? = l[i]?.map Expr.p:=by simp [Expr.ps_map]
theorem eps_app (l m:List Expr):Expr.ps l ++ Expr.ps m=Expr.ps (l ++ m):=by simp [Expr.ps_map]
theorem eps_take (l:List Expr) (n:Nat):(Expr.ps l).take n=Expr.ps (l.take n):=by simp [Expr.ps_map]
theorem eps_drop (l:List Expr) (n:Nat):(Expr.ps l).drop n=Expr.ps (l.drop n):=by simp [Expr.ps_map]
theorem eps_ok (l:List Expr):sizesOk 9 (Expr.ps l)=true:=by
 simp only [sizesOk,List.all_eq_true,Expr.ps_map,List.mem_map]
 rintro _ ⟨e,_,rfl⟩
 rw [elemOk,expr_cells]
 rfl
theorem vps_nil:Val.ps []=[]:=rfl
theorem vps_len (l:List Val):(Val.ps l).length=l.length:=by simp [Val.ps]
theorem vps_get (l:List Val) (i:Nat):(Val.ps l)[i]? = l[i]?.map Val.p:=by simp [Val.ps]
theorem vps_app (l m:List Val):Val.ps l ++ Val.ps m=Val.ps (l ++ m):=by simp [Val.ps]
theorem vps_take (l:List Val) (n:Nat):(Val.ps l).take n=Val.ps (l.take n):=by simp [Val.ps]
theorem vps_drop (l:List Val) (n:Nat):(Val.ps l).drop n=Val.ps (l.drop n):=by simp [Val.ps]
theorem vps_ok (l:List Val):sizesOk 3 (Val.ps l)=true:=by
 simp only [sizesOk,List.all_eq_true,Val.ps,List.mem_map]
 rintro _ ⟨e,_,rfl⟩
 rfl
theorem cps_nil:Col.ps []=[]:=rfl
theorem cps_len (l:List Col):(Col.ps l).length=l.length:=by simp [Col.ps]
theorem cps_get (l:List Col) (i:Nat):(Col.ps l)[i]? = l[i]?.map Col.p:=by simp [Col.ps]
theorem cps_app (l m:List Col):Col.ps l ++ Col.ps m=Col.ps (l ++ m):=by simp [Col.ps]
theorem cps_take (l:List Col) (n:Nat):(Col.ps l).take n=Col.ps (l.take n):=by simp [Col.ps]
theorem cps_drop (l:List Col) (n:Nat):(Col.ps l).drop n=Col.ps (l.drop n):=by simp [Col.ps]
theorem cps_ok (l:List Col):sizesOk 2 (Col.ps l)=true:=by
 simp only [sizesOk,List.all_eq_true,Col.ps,List.mem_map]
 rintro _ ⟨e,_,rfl⟩
 rfl
theorem rps_nil:Rel.ps []=[]:=rfl
theorem rps_len (l:List Rel):(Rel.ps l).length=l.length:=by simp [Rel.ps]
theorem rps_get (l:List Rel) (i:Nat):(Rel.ps l)[i]? = l[i]?.map Rel.p:=by simp [Rel.ps]
theorem eps_idx (l:List Expr) (i:Nat) (h:i < (Expr.ps l).length):(Expr.ps l)[i]=(l[i]'(by rw [eps_len] at h;exact h)).p:=by simp [Expr.ps_map]
theorem vps_idx (l:List Val) (i:Nat) (h:i < (Val.ps l).length):(Val.ps l)[i]=(l[i]'(by rw [vps_len] at h;exact h)).p:=by simp [Val.ps]
theorem cps_idx (l:List Col) (i:Nat) (h:i < (Col.ps l).length):(Col.ps l)[i]=(l[i]'(by rw [cps_len] at h;exact h)).p:=by simp [Col.ps]
theorem rps_idx (l:List Rel) (i:Nat) (h:i < (Rel.ps l).length):(Rel.ps l)[i]=(l[i]'(by rw [rps_len] at h;exact h)).p:=by simp [Rel.ps]
def ips (l:List Int):List P:=l.map (.int .i64)
theorem ips_nil:ips []=[]:=rfl
theorem ips_len (l:List Int):(ips l).length=l.length:=by simp [ips]
theorem ips_get (l:List Int) (i:Nat):(ips l)[i]? = l[i]?.map (.int .i64):=by simp [ips]
theorem ips_idx (l:List Int) (i:Nat) (h:i < (ips l).length):(ips l)[i] = .int .i64 (l[i]'(by rw [ips_len] at h;exact h)):=by simp [ips]
theorem ips_ok (l:List Int):sizesOk 1 (ips l)=true:=by
 simp only [sizesOk,List.all_eq_true,ips,List.mem_map]
 rintro _ ⟨e,_,rfl⟩
 rfl
theorem el1 (a:Expr):P.lst [Expr.p a]=P.lst (Expr.ps [a]):=rfl
theorem ea1 (a:Expr) (z:Nat) (h:Bool):Blk.arr z [Expr.p a] h=Blk.arr z (Expr.ps [a]) h:=rfl
theorem es1 (a:Expr) (l:List Expr):Expr.ps l ++ [Expr.p a]=Expr.ps (l ++ [a]):=by simp [Expr.ps_map]
theorem el2 (a b:Expr):P.lst [Expr.p a,Expr.p b]=P.lst (Expr.ps [a,b]):=rfl
theorem ea2 (a b:Expr) (z:Nat) (h:Bool):Blk.arr z [Expr.p a,Expr.p b] h=Blk.arr z (Expr.ps [a,b]) h:=rfl
theorem es2 (a b:Expr) (l:List Expr):Expr.ps l ++ [Expr.p a,Expr.p b]=Expr.ps (l ++ [a,b]):=by simp [Expr.ps_map]
theorem el3 (a b c:Expr):P.lst [Expr.p a,Expr.p b,Expr.p c]=P.lst (Expr.ps [a,b,c]):=rfl
theorem ea3 (a b c:Expr) (z:Nat) (h:Bool):Blk.arr z [Expr.p a,Expr.p b,Expr.p c] h=Blk.arr z (Expr.ps [a,b,c]) h:=rfl
theorem es3 (a b c:Expr) (l:List Expr):Expr.ps l ++ [Expr.p a,Expr.p b,Expr.p c]=Expr.ps (l ++ [a,b,c]):=by simp [Expr.ps_map]
theorem elc (a:Expr) (l:List Expr):P.lst (Expr.p a :: Expr.ps l)=P.lst (Expr.ps (a :: l)):=rfl
theorem eac (a:Expr) (l:List Expr) (z:Nat) (h:Bool):Blk.arr z (Expr.p a :: Expr.ps l) h=Blk.arr z (Expr.ps (a :: l)) h:=rfl
theorem vl1 (a:Val):P.lst [Val.p a]=P.lst (Val.ps [a]):=rfl
theorem va1 (a:Val) (z:Nat) (h:Bool):Blk.arr z [Val.p a] h=Blk.arr z (Val.ps [a]) h:=rfl
theorem vs1 (a:Val) (l:List Val):Val.ps l ++ [Val.p a]=Val.ps (l ++ [a]):=by simp [Val.ps]
theorem vl2 (a b:Val):P.lst [Val.p a,Val.p b]=P.lst (Val.ps [a,b]):=rfl
theorem va2 (a b:Val) (z:Nat) (h:Bool):Blk.arr z [Val.p a,Val.p b] h=Blk.arr z (Val.ps [a,b]) h:=rfl
theorem vs2 (a b:Val) (l:List Val):Val.ps l ++ [Val.p a,Val.p b]=Val.ps (l ++ [a,b]):=by simp [Val.ps]
theorem vl3 (a b c:Val):P.lst [Val.p a,Val.p b,Val.p c]=P.lst (Val.ps [a,b,c]):=rfl
theorem va3 (a b c:Val) (z:Nat) (h:Bool):Blk.arr z [Val.p a,Val.p b,Val.p c] h=Blk.arr z (Val.ps [a,b,c]) h:=rfl
theorem vs3 (a b c:Val) (l:List Val):Val.ps l ++ [Val.p a,Val.p b,Val.p c]=Val.ps (l ++ [a,b,c]):=by simp [Val.ps]
theorem vlc (a:Val) (l:List Val):P.lst (Val.p a :: Val.ps l)=P.lst (Val.ps (a :: l)):=rfl
theorem vac (a:Val) (l:List Val) (z:Nat) (h:Bool):Blk.arr z (Val.p a :: Val.ps l) h=Blk.arr z (Val.ps (a :: l)) h:=rfl
theorem cl1 (a:Col):P.lst [Col.p a]=P.lst (Col.ps [a]):=rfl
theorem ca1 (a:Col) (z:Nat) (h:Bool):Blk.arr z [Col.p a] h=Blk.arr z (Col.ps [a]) h:=rfl
theorem cs1 (a:Col) (l:List Col):Col.ps l ++ [Col.p a]=Col.ps (l ++ [a]):=by simp [Col.ps]
theorem cl2 (a b:Col):P.lst [Col.p a,Col.p b]=P.lst (Col.ps [a,b]):=rfl
theorem ca2 (a b:Col) (z:Nat) (h:Bool):Blk.arr z [Col.p a,Col.p b] h=Blk.arr z (Col.ps [a,b]) h:=rfl
theorem cs2 (a b:Col) (l:List Col):Col.ps l ++ [Col.p a,Col.p b]=Col.ps (l ++ [a,b]):=by simp [Col.ps]
theorem cl3 (a b c:Col):P.lst [Col.p a,Col.p b,Col.p c]=P.lst (Col.ps [a,b,c]):=rfl
theorem ca3 (a b c:Col) (z:Nat) (h:Bool):Blk.arr z [Col.p a,Col.p b,Col.p c] h=Blk.arr z (Col.ps [a,b,c]) h:=rfl
theorem cs3 (a b c:Col) (l:List Col):Col.ps l ++ [Col.p a,Col.p b,Col.p c]=Col.ps (l ++ [a,b,c]):=by simp [Col.ps]
theorem clc (a:Col) (l:List Col):P.lst (Col.p a :: Col.ps l)=P.lst (Col.ps (a :: l)):=rfl
theorem cac (a:Col) (l:List Col) (z:Nat) (h:Bool):Blk.arr z (Col.p a :: Col.ps l) h=Blk.arr z (Col.ps (a :: l)) h:=rfl
theorem il1 (a:Int):P.lst [P.int .i64 a]=P.lst (ips [a]):=rfl
theorem ia1 (a:Int) (z:Nat) (h:Bool):Blk.arr z [P.int .i64 a] h=Blk.arr z (ips [a]) h:=rfl
theorem is1 (a:Int) (l:List Int):ips l ++ [P.int .i64 a]=ips (l ++ [a]):=by simp [ips]
theorem il2 (a b:Int):P.lst [P.int .i64 a,P.int .i64 b]=P.lst (ips [a,b]):=rfl
theorem ia2 (a b:Int) (z:Nat) (h:Bool):Blk.arr z [P.int .i64 a,P.int .i64 b] h=Blk.arr z (ips [a,b]) h:=rfl
theorem is2 (a b:Int) (l:List Int):ips l ++ [P.int .i64 a,P.int .i64 b]=ips (l ++ [a,b]):=by simp [ips]
theorem il3 (a b c:Int):P.lst [P.int .i64 a,P.int .i64 b,P.int .i64 c]=P.lst (ips [a,b,c]):=rfl
theorem ia3 (a b c:Int) (z:Nat) (h:Bool):Blk.arr z [P.int .i64 a,P.int .i64 b,P.int .i64 c] h=Blk.arr z (ips [a,b,c]) h:=rfl
theorem is3 (a b c:Int) (l:List Int):ips l ++ [P.int .i64 a,P.int .i64 b,P.int .i64 c]=ips (l ++ [a,b,c]):=by simp [ips]
theorem ilc (a:Int) (l:List Int):P.lst (P.int .i64 a :: ips l)=P.lst (ips (a :: l)):=rfl
theorem iac (a:Int) (l:List Int) (z:Nat) (h:Bool):Blk.arr z (P.int .i64 a :: ips l) h=Blk.arr z (ips (a :: l)) h:=rfl
theorem ips_app (l m:List Int):ips l ++ ips m=ips (l ++ m):=by simp [ips]
theorem ips_take (l:List Int) (n:Nat):(ips l).take n=ips (l.take n):=by simp [ips]
theorem ips_drop (l:List Int) (n:Nat):(ips l).drop n=ips (l.drop n):=by simp [ips]
theorem elemOk_e (e:Expr):elemOk 9 e.p=true:=by rw [elemOk,expr_cells];rfl
theorem elemOk_v (v:Val):elemOk 3 v.p=true:=rfl
theorem elemOk_c (c:Col):elemOk 2 c.p=true:=rfl
theorem okP_ips {l:List Int} (h:okP (.lst (ips l))):l.length ≤ 4294967296:=by
 simp only [okP,ips_len] at h;exact h.1
theorem val_beq (v w:Val):(v == w)=(v.kind == w.kind && (v.int == w.int && (v.text == w.text && true))):=by
 rw [Bool.eq_iff_iff]
 cases v;cases w
 simp
theorem binV_val_eql (k:TK) (n b:Nat) (z:List V) (v w:Val):binV (some ⟨k,n,b,z,[.int .i64,.int .i64,.str]⟩) .eql (.p v.p) (.p w.p)=some (.p (.bool (v == w))):=by
 rw [val_beq]
 simp [binV,eqV,Val.p,eqCells]
theorem binV_val_neq (k:TK) (n b:Nat) (z:List V) (v w:Val):binV (some ⟨k,n,b,z,[.int .i64,.int .i64,.str]⟩) .neq (.p v.p) (.p w.p)=some (.p (.bool (v != w))):=by
 rw [bne,val_beq]
 simp [binV,eqV,Val.p,eqCells]
theorem col_beq (v w:Col):(v == w)=(v.kind == w.kind && (v.null == w.null && true)):=by
 rw [Bool.eq_iff_iff]
 cases v;cases w
 simp
theorem binV_col_eql (k:TK) (n b:Nat) (z:List V) (v w:Col):binV (some ⟨k,n,b,z,[.int .i64,.bool]⟩) .eql (.p v.p) (.p w.p)=some (.p (.bool (v == w))):=by
 rw [col_beq]
 simp [binV,eqV,Col.p,eqCells]
theorem okP_args {e:Expr} (h:okP e.p):e.args.length ≤ 4294967296:=by
 cases e
 simp only [Expr.p,okP,okPs,eps_len] at h
 exact h.2.2.2.2.2.2.2.1.1
theorem okP_rels {e:Expr} (h:okP e.p):e.rels.length ≤ 4294967296:=by
 cases e
 simp only [Expr.p,okP,okPs,rps_len] at h
 exact h.2.2.2.2.2.2.2.2.1.1
theorem okP_eps {l:List Expr} (h:okP (.lst (Expr.ps l))):l.length ≤ 4294967296:=by
 simp only [okP,eps_len] at h;exact h.1
theorem okP_vps {l:List Val} (h:okP (.lst (Val.ps l))):l.length ≤ 4294967296:=by
 simp only [okP,vps_len] at h;exact h.1
theorem okP_cps {l:List Col} (h:okP (.lst (Col.ps l))):l.length ≤ 4294967296:=by
 simp only [okP,cps_len] at h;exact h.1
end Go.Proofs.YtgiedlcjlalpcaaGreat
