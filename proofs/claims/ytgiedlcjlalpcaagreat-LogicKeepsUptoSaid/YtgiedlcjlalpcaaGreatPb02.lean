/- Part of a proof: Ops2 Ops3 Ops4 Ops5 Ops6 Ops7. -/
import Derived.Laws.Strings
import Derived.Test.YtgiedlcjlalpcaaGreatPb01
set_option linter.all false
namespace Go.Abs
open Go.RowKit
section
variable {cfg:Cfg} {base:Base} {P:Program} {o:Oper} {a:Act} {w:World} {E:Env} {μ:Places} {S:St} {d:Nat} {r:V × Blks × List Nat}
theorem run_underlying_slice (hc:CfgOk cfg P) {t e:TypeId} {i:Ty} (h:cfg.ty t=some i) (hk:i.k = .slice e) (w:World):(underlying t).run P w = .ok (.slice e) w:=by
 obtain ⟨d,h1,h2⟩:=hc.run_underlying (w:=w) h
 rw [hk] at h2
 cases d <;> simp [kindB] at h2
 subst h2;exact h1
theorem run_underlying_str (hc:CfgOk cfg P) {t:TypeId} {i:Ty} (h:cfg.ty t=some i) (hk:i.k = .str) (w:World):(underlying t).run P w = .ok .string w:=by
 obtain ⟨d,h1,h2⟩:=hc.run_underlying (w:=w) h
 rw [hk] at h2
 cases d <;> simp [kindB] at h2
 exact h1
theorem run_underlying_bool (hc:CfgOk cfg P) {t:TypeId} {i:Ty} (h:cfg.ty t=some i) (hk:i.k = .bool) (w:World):(underlying t).run P w = .ok .bool w:=by
 obtain ⟨d,h1,h2⟩:=hc.run_underlying (w:=w) h
 rw [hk] at h2
 cases d <;> simp [kindB] at h2
 exact h1
theorem run_underlying_int (hc:CfgOk cfg P) {t:TypeId} {k:IntKind} {i:Ty} (h:cfg.ty t=some i) (hk:i.k = .int k) (w:World):(underlying t).run P w = .ok (.int k) w:=by
 obtain ⟨d,h1,h2⟩:=hc.run_underlying (w:=w) h
 rw [hk] at h2
 cases d <;> simp [kindB] at h2
 subst h2;exact h1
theorem run_underlying_ptr (hc:CfgOk cfg P) {t e:TypeId} {i:Ty} (h:cfg.ty t=some i) (hk:i.k = .ptr e) (w:World):(underlying t).run P w = .ok (.pointer e) w:=by
 obtain ⟨d,h1,h2⟩:=hc.run_underlying (w:=w) h
 rw [hk] at h2
 cases d <;> simp [kindB] at h2
 subst h2;exact h1
theorem run_underlying_arr (hc:CfgOk cfg P) {t n e:TypeId} {i:Ty} (h:cfg.ty t=some i) (hk:i.k = .arr n e) (w:World):(underlying t).run P w = .ok (.array n e) w:=by
 obtain ⟨d,h1,h2⟩:=hc.run_underlying (w:=w) h
 rw [hk] at h2
 cases d <;> simp [kindB] at h2
 obtain ⟨rfl,rfl⟩:=h2;exact h1
theorem run_underlying_func (hc:CfgOk cfg P) {t:TypeId} {i:Ty} (h:cfg.ty t=some i) (hk:i.k = .func) (w:World):∃ x y z,(underlying t).run P w = .ok (.func x y z) w:=by
 obtain ⟨d,h1,h2⟩:=hc.run_underlying (w:=w) h
 rw [hk] at h2
 cases d <;> simp [kindB] at h2
 exact ⟨_,_,_,h1⟩
theorem run_underlying_struct (hc:CfgOk cfg P) {t:TypeId} {fs:List (Nat × TypeId)} {i:Ty} (h:cfg.ty t=some i) (hk:i.k = .struct fs) (w:World) :
  ∃ fields:Array Field,(underlying t).run P w = .ok (.struct fields) w∧fields.toList.map (fun f=>(f.offset,f.type))=fs:=by
 obtain ⟨d,h1,h2⟩:=hc.run_underlying (w:=w) h
 rw [hk] at h2
 cases d <;> simp [kindB] at h2
 exact ⟨_,h1,by simpa using h2⟩
theorem does_move (hm:Mem cfg base E μ S.b S.u w) (ht:Tm E μ S a) {x:Operand} (ho:o.op = .move x) (he:evalOp cfg d (.move x) S=some r):Does cfg base P o a w E μ S.b S.u r:=by
 simp only [evalOp,Option.some.injEq] at he
 subst he
 exact Does.still hm _ (rep_opnd ht x) (by simp [execOp,ho])
theorem does_assign (hm:Mem cfg base E μ S.b S.u w) (ht:Tm E μ S a) {x:Operand} (ho:o.op = .assign x) (he:evalOp cfg d (.assign x) S=some r):Does cfg base P o a w E μ S.b S.u r:=by
 simp only [evalOp,Option.some.injEq] at he
 subst he
 exact Does.still hm _ (rep_opnd ht x) (by simp [execOp,ho])
theorem does_pick (hm:Mem cfg base E μ S.b S.u w) (ht:Tm E μ S a) {c x y:Operand} (ho:o.op = .pick c x y) (he:evalOp cfg d (.pick c x y) S=some r):Does cfg base P o a w E μ S.b S.u r:=by
 simp only [evalOp] at he
 split at he
 ·rename_i q hq
  simp only [Option.some.injEq] at he
  subst he
  have h1:=rep_opnd ht c
  rw [hq] at h1
  have h2:=h1.inv_p
  cases hcv:a.eval c <;> rw [hcv] at h2 <;> cases h2
  rename_i b
  refine Does.still hm (if q then a.eval x else a.eval y) ?_ (by simp [execOp,ho,hcv,asBool])
  split
  ·exact rep_opnd ht x
  ·exact rep_opnd ht y
 ·cases he
theorem does_nilCheck (hm:Mem cfg base E μ S.b S.u w) (ht:Tm E μ S a) {x:Operand} (ho:o.op = .nilCheck x) (he:evalOp cfg d (.nilCheck x) S=some r):Does cfg base P o a w E μ S.b S.u r:=by
 have h1:=rep_opnd ht x
 simp only [evalOp] at he
 split at he
 ·rename_i nm off hq
  simp only [Option.some.injEq] at he
  subst he
  rw [hq] at h1
  have h2:=h1
  cases hcv:a.eval x <;> rw [hcv] at h2 <;> cases h2
  rw [hcv] at h1
  exact Does.still hm _ h1 (by simp [execOp,ho,hcv])
 ·rename_i cs off hq
  simp only [Option.some.injEq] at he
  subst he
  rw [hq] at h1
  have h2:=h1.inv_p
  cases hcv:a.eval x <;> rw [hcv] at h2 <;> cases h2
  rw [hcv] at h1
  exact Does.still hm _ h1 (by simp [execOp,ho,hcv])
 ·rename_i g ps off hq
  simp only [Option.some.injEq] at he
  subst he
  rw [hq] at h1
  have h2:=h1.inv_p
  cases hcv:a.eval x <;> rw [hcv] at h2 <;> cases h2
  rw [hcv] at h1
  exact Does.still hm _ h1 (by simp [execOp,ho,hcv])
 ·cases he
theorem does_unOp (hm:Mem cfg base E μ S.b S.u w) (ht:Tm E μ S a) {q:UnOp} {t:TypeId} {x:Operand} (ho:o.op = .unOp q t x) (he:evalOp cfg d (.unOp q t x) S=some r):Does cfg base P o a w E μ S.b S.u r:=by
 have h1:=rep_opnd ht x
 simp only [evalOp] at he
 split at he
 ·rename_i v hq
  simp only [Option.some.injEq] at he
  subst he
  rw [hq] at h1
  have h2:=h1.inv_p
  cases hcv:a.eval x <;> rw [hcv] at h2 <;> cases h2
  exact Does.still hm (.bool !v) (.p _ _ (.bool _)) (by simp [execOp,ho,hcv,Op.unary])
 ·rename_i k n hq
  simp only [Option.some.injEq] at he
  subst he
  rw [hq] at h1
  have h2:=h1.inv_p
  cases hcv:a.eval x <;> rw [hcv] at h2 <;> cases h2
  exact Does.still hm (.int k (k.wrap (0 - n))) (.p _ _ (.int _ _)) (by simp [execOp,ho,hcv,Op.unary,Op.intArith])
 ·cases he
theorem does_convert (hc:CfgOk cfg P) (hm:Mem cfg base E μ S.b S.u w) (ht:Tm E μ S a) {s t:TypeId} {x:Operand} (ho:o.op = .convert s t x) (he:evalOp cfg d (.convert s t x) S=some r):Does cfg base P o a w E μ S.b S.u r:=by
 have h1:=rep_opnd ht x
 simp only [evalOp] at he
 split at he
 ·rename_i j k _ _ _ _ k' n hj hi hq
  simp only [Option.some.injEq] at he
  subst he
  rw [hq] at h1
  have h2:=h1.inv_p
  cases hcv:a.eval x <;> rw [hcv] at h2 <;> cases h2
  obtain ⟨ds,g1,g2⟩:=hc.run_underlying (w:=w) hj
  refine Does.still hm (.int k (k.wrap n)) (.p _ _ (.int _ _)) ?_
  have:=run_underlying_int hc hi rfl w
  simp [execOp,ho,hcv,convert,g1,this,Conv.intToInt]
 ·rename_i j _ _ _ _ q hj hi hq
  simp only [Option.some.injEq] at he
  subst he
  rw [hq] at h1
  have h2:=h1.inv_p
  cases hcv:a.eval x <;> rw [hcv] at h2 <;> cases h2
  obtain ⟨ds,g1,g2⟩:=hc.run_underlying (w:=w) hj
  refine Does.still hm (.string q) (.p _ _ (.str _)) ?_
  have:=run_underlying_str hc hi rfl w
  simp [execOp,ho,hcv,convert,g1,this]
 ·cases he
theorem does_makeFunc (hm:Mem cfg base E μ S.b S.u w) (ht:Tm E μ S a) {f:Fn} {x y:Array Operand} (ho:o.op = .makeFunc f x y) (he:evalOp cfg d (.makeFunc f x y) S=some r):Does cfg base P o a w E μ S.b S.u r:=by
 simp only [evalOp,Option.some.injEq] at he
 subst he
 obtain ⟨vs,h1,h2,h3⟩:=rep_opnds ht x
 obtain ⟨ws,g1,g2,g3⟩:=rep_opnds ht y
 exact Does.still hm (.func f vs.toArray ws.toArray) (rep_mkFn h2 g2 h3 g3) (by simp [execOp,ho,Instr.makeFunc,h1,g1])
theorem does_extract (hm:Mem cfg base E μ S.b S.u w) (ht:Tm E μ S a) {x:Operand} {i:Nat} (ho:o.op = .extract x i) (he:evalOp cfg d (.extract x i) S=some r):Does cfg base P o a w E μ S.b S.u r:=by
 have h1:=rep_opnd ht x
 simp only [evalOp] at he
 split at he
 ·rename_i vs hq
  simp only [Option.bind_eq_some_iff,Option.some.injEq] at he
  obtain ⟨v,hv,rfl⟩:=he
  rw [hq] at h1
  cases hcv:a.eval x <;> rw [hcv] at h1 <;> cases h1
  rename_i ws hl hh
  have hi:i < ws.length:=by
   rw [hl]
   rcases Nat.lt_or_ge i vs.length with h | h
   ·exact h
   ·simp [List.getElem?_eq_none h] at hv
  refine Does.still hm ws[i] (hh i ws[i] v (by simp [hi]) hv) ?_
  simp [execOp,ho,hcv,Instr.extract,hi]
 ·cases he
theorem natOf_some {v:V} {n:Nat} (h:natOf v=some n):∃ k m,v = .p (.int k m)∧0 ≤ m∧m.toNat=n:=by
 unfold natOf at h
 split at h
 ·rename_i k m
  split at h
  ·rename_i hm
   simp only [Option.some.injEq] at h
   exact ⟨k,m,rfl,hm,h⟩
  ·cases h
 ·cases h
theorem does_index (hc:CfgOk cfg P) (hm:Mem cfg base E μ S.b S.u w) (ht:Tm E μ S a) {t:TypeId} {x y:Operand} (ho:o.op = .index t x y) (he:evalOp cfg d (.index t x y) S=some r):Does cfg base P o a w E μ S.b S.u r:=by
 have h1:=rep_opnd ht x
 have h3:=rep_opnd ht y
 simp only [evalOp] at he
 split at he
 ·rename_i _ _ _ _ s k hi hq hn
  split at he
  ·rename_i c hcs
   simp only [Option.some.injEq] at he
   subst he
   obtain ⟨kk,m,e1,e2,e3⟩:=natOf_some hn
   rw [hq] at h1
   rw [e1] at h3
   have h2:=h1.inv_p
   have h4:=h3.inv_p
   cases hcv:a.eval x <;> rw [hcv] at h2 <;> cases h2
   cases hcw:a.eval y <;> rw [hcw] at h4 <;> cases h4
   refine Does.still hm (.int .u8 c.toNat) (.p _ _ (.int _ _)) ?_
   have:=run_underlying_str hc hi rfl w
   subst e3
   simp [execOp,ho,hcv,hcw,Instr.index,asIntOf,this,e2,hcs]
  ·cases he
 ·cases he
theorem does_len (hc:CfgOk cfg P) (hm:Mem cfg base E μ S.b S.u w) (ht:Tm E μ S a) {x:Operand} {t:TypeId} (ho:o.op = .call { callee:=.builtin .len,args:=#[x],argTypes:=#[t] })
  (he:evalOp cfg d (.call { callee:=.builtin .len,args:=#[x],argTypes:=#[t] }) S=some r):Does cfg base P o a w E μ S.b S.u r:=by
 have h1:=rep_opnd ht x
 simp only [evalOp,List.map_cons,List.map_nil] at he
 split at he
 ·rename_i _ _ _ _ _ es hi hq
  simp only [Option.some.injEq] at he
  subst he
  rw [hq] at h1
  have h2:=h1.inv_p
  cases hcv:a.eval x <;> rw [hcv] at h2 <;> cases h2
  refine Does.still hm (.int .i64 es.length) (.p _ _ (.int _ _)) ?_
  have:=run_underlying_slice hc hi rfl w
  simp [execOp,ho,hcv,resolve,invoke,builtin,Builtin.len_,this,goInt]
 ·rename_i _ _ _ _ _ hi hq
  simp only [Option.some.injEq] at he
  subst he
  rw [hq] at h1
  cases hcv:a.eval x <;> rw [hcv] at h1 <;> cases h1
  refine Does.still hm (.int .i64 0) (.p _ _ (.int _ _)) ?_
  have:=run_underlying_slice hc hi rfl w
  simp [execOp,ho,hcv,resolve,invoke,builtin,Builtin.len_,this,goInt]
 ·rename_i _ _ _ _ _ nm len hi hq
  split at he
  ·rename_i sz es sh hb
   split at he
   ·rename_i hl
    simp only [Option.some.injEq] at he
    subst he
    rw [hq] at h1
    obtain ⟨cv,hcv⟩:∃ cv,a.eval x=cv:=⟨_,rfl⟩
    rw [hcv] at h1
    cases h1 with
    | own _ _ _ sz' es' sh' hu hb' hs hl' hv=>
     rw [hb] at hb'
     cases hb'
     have e:=hv hl.symm
     subst e
     have e:=hcv
     refine Does.still hm (.int .i64 len) (.p _ _ (.int _ _)) ?_
     have:=run_underlying_slice hc hi rfl w
     unfold cur at e
     split at e
     ·simp [execOp,ho,e,resolve,invoke,builtin,Builtin.len_,this,goInt]
     ·rename_i hμ
      have this':=this
      have:=(hm.blk nm _ hb).2
      rcases this with ⟨_,h⟩ | ⟨B,cap,c,h,_⟩
      ·subst h
       simp at hl
       subst hl
       simp [execOp,ho,e,resolve,invoke,builtin,Builtin.len_,this',goInt]
      ·rw [h] at hμ;cases hμ
   ·cases he
  ·cases he
 ·rename_i _ _ _ _ s hi hq
  simp only [Option.some.injEq] at he
  subst he
  rw [hq] at h1
  have h2:=h1.inv_p
  cases hcv:a.eval x <;> rw [hcv] at h2 <;> cases h2
  refine Does.still hm (.int .i64 s.size) (.p _ _ (.int _ _)) ?_
  have:=run_underlying_str hc hi rfl w
  simp [execOp,ho,hcv,resolve,invoke,builtin,Builtin.len_,this,goInt]
 ·cases he
theorem does_minmax (hm:Mem cfg base E μ S.b S.u w) (ht:Tm E μ S a) {q:Builtin} {x y:Operand} {ts:Array TypeId} (hq:q = .min ∨ q = .max) (ho:o.op = .call { callee:=.builtin q,args:=#[x,y],argTypes:=ts })
  (he:evalOp cfg d (.call { callee:=.builtin q,args:=#[x,y],argTypes:=ts }) S=some r):Does cfg base P o a w E μ S.b S.u r:=by
 have h1:=rep_opnd ht x
 have h3:=rep_opnd ht y
 rcases hq with rfl | rfl
 all_goals
  simp only [evalOp,List.map_cons,List.map_nil] at he
  split at he <;> try (simp at *;done)
  all_goals rename_i e1
  all_goals simp only [Option.some.injEq] at he
  all_goals subst he
  all_goals simp only [List.cons.injEq,and_true] at e1
  all_goals rw [e1.1] at h1
  all_goals rw [e1.2] at h3
  all_goals have h2:=h1.inv_p
  all_goals have h4:=h3.inv_p
  all_goals cases hcv:a.eval x <;> rw [hcv] at h2 <;> cases h2
  all_goals cases hcw:a.eval y <;> rw [hcw] at h4 <;> cases h4
  all_goals exact Does.still hm _ (.p _ _ (.int _ _)) (by simp [execOp,ho,hcv,hcw,resolve,invoke,builtin,Builtin.min_,Builtin.max_,Builtin.min2,Builtin.max2])
end
end Go.Abs
namespace Go.Abs
open Go.RowKit
section
variable {cfg:Cfg} {base:Base} {P:Program} {o:Oper} {a:Act} {w:World} {E:Env} {μ:Places} {S:St} {d:Nat} {r:V × Blks × List Nat}
theorem equal_eq (t:TypeId) (x y:Value):Op.equal t x y=Op.equalIn (9999 + 1) t x y:=rfl
theorem run_equal_bool (hc:CfgOk cfg P) {t:TypeId} {i:Ty} (h:cfg.ty t=some i) (hk:i.k = .bool) (x y:Bool):(Op.equal t (.bool x) (.bool y)).run P w = .ok (x == y) w:=by
 have:=run_underlying_bool hc h hk w
 rw [equal_eq,Op.equalIn]
 simp [this]
theorem run_equal_ptr (hc:CfgOk cfg P) {t e:TypeId} {i:Ty} (h:cfg.ty t=some i) (hk:i.k = .ptr e) (p:Option Addr):(Op.equal t (.pointer p) (.pointer none)).run P w = .ok p.isNone w:=by
 have:=run_underlying_ptr hc h hk w
 rw [equal_eq,Op.equalIn]
 cases p <;> simp [this]
theorem run_equal_func (hc:CfgOk cfg P) {t:TypeId} {i:Ty} (h:cfg.ty t=some i) (hk:i.k = .func):(Op.equal t .nilFunc .nilFunc).run P w = .ok true w∧∀ f x y,(Op.equal t (.func f x y) .nilFunc).run P w = .ok false w:=by
 obtain ⟨_,_,_,this⟩:=run_underlying_func hc h hk w
 refine ⟨?_,fun f x y=>?_⟩
 ·rw [equal_eq,Op.equalIn]
  simp [this]
 ·rw [equal_eq,Op.equalIn]
  simp [this]
theorem beq_bytes (x y:ByteArray):(x == y)=(x.toList == y.toList):=by
 rw [Go.ByteArray.toList_eq,Go.ByteArray.toList_eq]
 cases x with
 | mk a=>cases y with
  | mk b=>
   show (a == b)=(a.toList == b.toList)
   rw [Bool.eq_iff_iff]
   simp
theorem does_binOp (hc:CfgOk cfg P) (hm:Mem cfg base E μ S.b S.u w) (ht:Tm E μ S a) {q:BinOp} {t t':TypeId} {x y:Operand} (ho:o.op = .binOp q t x y t') (he:evalOp cfg d (.binOp q t x y t') S=some r):Does cfg base P o a w E μ S.b S.u r:=by
 have h1:=rep_opnd ht x
 have h3:=rep_opnd ht y
 simp only [evalOp,Option.bind_eq_some_iff,Option.some.injEq] at he
 obtain ⟨v,hv,rfl⟩:=he
 generalize opnd S.t x=vx at *
 generalize opnd S.t y=vy at *
 unfold binV at hv
 split at hv
 ·
  rename_i k m k' n
  split at hv
  ·rename_i e
   subst e
   have h2:=h1.inv_p
   have h4:=h3.inv_p
   cases hcv:a.eval x <;> rw [hcv] at h2 <;> cases h2
   cases hcw:a.eval y <;> rw [hcw] at h4 <;> cases h4
   cases q <;> simp only [intBin] at hv <;> (try (cases hv;done)) <;> (try split at hv) <;> (try (cases hv;done)) <;> simp only [Option.some.injEq] at hv <;> subst hv
   all_goals refine Does.still hm _ (.p _ _ (by first | exact RepP.int _ _ | exact RepP.bool _)) ?_
   all_goals simp [execOp,ho,hcv,hcw,eqGuard,binOp,Op.intArith,Op.intDiv,Op.intCmp, *]
  ·cases hv
 ·
  rename_i s s'
  have h2:=h1.inv_p
  have h4:=h3.inv_p
  cases hcv:a.eval x <;> rw [hcv] at h2 <;> cases h2
  cases hcw:a.eval y <;> rw [hcw] at h4 <;> cases h4
  cases q <;> simp only [strBin] at hv <;> (try (cases hv;done)) <;> (try split at hv) <;> (try (cases hv;done)) <;> simp only [Option.some.injEq] at hv <;> subst hv
  all_goals refine Does.still hm _ (.p _ _ (by first | exact RepP.str _ | exact RepP.bool _)) ?_
  case add.isTrue=>
   rename_i hsz
   have:((s.size:Int) + (s'.size:Int)) ≤ 9223372036854775807:=by omega
   simp [execOp,ho,hcv,hcw,eqGuard,binOp,Op.stringOp,this]
  all_goals simp [execOp,ho,hcv,hcw,eqGuard,binOp,Op.stringOp,beq_bytes]
 ·
  rename_i hni hns
  have key:∀ (q:BinOp),(q = .eql ∨ q = .neq)→∀ (z:Bool),eqV (cfg.ty t) vx vy=some z→(do eqGuard q t x y (a.eval x) (a.eval y);Op.equal t (a.eval x) (a.eval y)).run P w = .ok z w ∧
    (do eqGuard q t x y (a.eval x) (a.eval y);binOp q t (a.eval x) (a.eval y)).run P w=(do eqGuard q t x y (a.eval x) (a.eval y);let r ← Op.equal t (a.eval x) (a.eval y);pure (Value.bool (if q=BinOp.neq then !r else r))).run P w:=by
   intro q hq z hz
   unfold eqV at hz
   split at hz
   ·
    rename_i m n
    have h2:=h1.inv_p
    have h4:=h3.inv_p
    cases hcv:a.eval x <;> rw [hcv] at h2 <;> cases h2
    cases hcw:a.eval y <;> rw [hcw] at h4 <;> cases h4
    split at hz
    ·rename_i hi
     simp only [Option.some.injEq] at hz
     subst hz
     have:=run_equal_bool (w:=w) hc hi rfl m n
     rcases hq with rfl | rfl <;> simp [eqGuard,this,binOp]
    ·cases hz
   ·
    rename_i ps qs
    split at hz
    ·rename_i i hi
     split at hz
     ·cases hz
     ·rename_i hqs
      have h2:=h1.inv_p
      have h4:=h3.inv_p
      obtain ⟨xs,e1,_,_⟩:=repP_inv_agg h2
      obtain ⟨ys,e2,_,_⟩:=repP_inv_agg h4
      rw [e1] at h2 ⊢
      rw [e2] at h4 ⊢
      have:=hc.eq t i hi (by simpa using hqs) w E xs ys ps qs z x y h2 h4 hz
      rcases hq with rfl | rfl
      ·exact ⟨this.1,by simp [binOp]⟩
      ·exact ⟨this.2,by simp [binOp]⟩
    ·cases hz
   ·
    split at hz
    ·rename_i e _ _ _ _ hi
     have h4:=h3.inv_p
     cases hcw:a.eval y <;> rw [hcw] at h4 <;> cases h4
     have hu:=run_equal_ptr (w:=w) hc hi rfl
     have fin:∀ (p:Option Addr),a.eval x = .pointer p→z=p.isNone→(do eqGuard q t x y (a.eval x) (.pointer none);Op.equal t (a.eval x) (.pointer none)).run P w = .ok z w ∧
       (do eqGuard q t x y (a.eval x) (.pointer none);binOp q t (a.eval x) (.pointer none)).run P w=(do eqGuard q t x y (a.eval x) (.pointer none);let r ← Op.equal t (a.eval x) (.pointer none);pure (Value.bool (if q=BinOp.neq then !r else r))).run P w:=by
      intro p hp hzp
      subst hzp
      rw [hp]
      cases p <;> rcases hq with rfl | rfl <;> simp [eqGuard,binOp,hu]
     split at hz
     ·simp only [Option.some.injEq] at hz
      subst hz
      have h2:=h1.inv_p
      cases hcv:a.eval x <;> rw [hcv] at h2 <;> cases h2
      have k:=fin _ hcv rfl
      rw [hcv] at k
      exact k
     ·simp only [Option.some.injEq] at hz
      subst hz
      have h2:=h1.inv_p
      cases hcv:a.eval x <;> rw [hcv] at h2 <;> cases h2
      have k:=fin _ hcv rfl
      rw [hcv] at k
      exact k
     ·simp only [Option.some.injEq] at hz
      subst hz
      have h2:=h1.inv_p
      cases hcv:a.eval x <;> rw [hcv] at h2 <;> cases h2
      have k:=fin _ hcv rfl
      rw [hcv] at k
      exact k
     ·simp only [Option.some.injEq] at hz
      subst hz
      cases hcv:a.eval x <;> rw [hcv] at h1 <;> cases h1
      have k:=fin _ hcv rfl
      rw [hcv] at k
      exact k
     ·cases hz
    ·cases hz
   ·
    split at hz
    ·rename_i _ _ _ _ hi
     have h4:=h3.inv_p
     cases hcw:a.eval y <;> rw [hcw] at h4 <;> cases h4
     have hu:=run_equal_func (w:=w) hc hi rfl
     split at hz
     ·simp only [Option.some.injEq] at hz
      subst hz
      have h2:=h1.inv_p
      cases hcv:a.eval x <;> rw [hcv] at h2 <;> cases h2
      rcases hq with rfl | rfl <;> simp [eqGuard,binOp,hu]
     ·simp only [Option.some.injEq] at hz
      subst hz
      have h2:=h1.inv_p
      cases hcv:a.eval x <;> rw [hcv] at h2 <;> cases h2
      rcases hq with rfl | rfl <;> simp [eqGuard,binOp,hu]
     ·simp only [Option.some.injEq] at hz
      subst hz
      cases hcv:a.eval x <;> rw [hcv] at h1 <;> cases h1
      rcases hq with rfl | rfl <;> simp [eqGuard,binOp,hu]
     ·cases hz
    ·cases hz
   ·cases hz
  split at hv
  ·simp only [Option.map_eq_some_iff] at hv
   obtain ⟨z,hz,rfl⟩:=hv
   obtain ⟨k1,k2⟩:=key .eql (.inl rfl) z hz
   refine Does.still hm (.bool z) (.p _ _ (.bool _)) ?_
   simp only [Sem.run_bind] at k1
   simp only [execOp,ho,Sem.run_bind] at k2 ⊢
   rw [k2]
   cases hg:(eqGuard .eql t x y (a.eval x) (a.eval y)).run P w with
   | ok _ w1=>
    rw [hg] at k1
    simp only [Result.andThen_ok] at k1 ⊢
    rw [k1]
    rfl
   | halt h w1=>rw [hg] at k1;cases k1
  ·simp only [Option.map_eq_some_iff] at hv
   obtain ⟨z,hz,rfl⟩:=hv
   obtain ⟨k1,k2⟩:=key .neq (.inr rfl) z hz
   refine Does.still hm (.bool !z) (.p _ _ (.bool _)) ?_
   simp only [Sem.run_bind] at k1
   simp only [execOp,ho,Sem.run_bind] at k2 ⊢
   rw [k2]
   cases hg:(eqGuard .neq t x y (a.eval x) (a.eval y)).run P w with
   | ok _ w1=>
    rw [hg] at k1
    simp only [Result.andThen_ok] at k1 ⊢
    rw [k1]
    rfl
   | halt h w1=>rw [hg] at k1;cases k1
  ·cases hv
end
end Go.Abs
namespace Go.Abs
open Go.RowKit
theorem add_plain (b o n:Nat):(⟨b,o,none⟩:Addr).add n=⟨b,o + n,none⟩:=by
 unfold Addr.add
 split
 ·rename_i h;subst h;rfl
 ·rfl
theorem getElem?_splice {α:Type} (cs vs:List α) (off i:Nat) (h:off + vs.length ≤ cs.length) :
  (cs.take off ++ vs ++ cs.drop (off + vs.length))[i]? = if i < off then cs[i]? else if i < off + vs.length then vs[i - off]? else cs[i]?:=by
 have hl:(cs.take off).length=off:=by simp;omega
 rw [List.append_assoc]
 by_cases h1:i < off
 ·rw [if_pos h1,List.getElem?_append_left (by omega),List.getElem?_take_of_lt h1]
 ·rw [if_neg h1,List.getElem?_append_right (by omega),hl]
  by_cases h2:i < off + vs.length
  ·rw [if_pos h2,List.getElem?_append_left (by omega)]
  ·rw [if_neg h2,List.getElem?_append_right (by omega),List.getElem?_drop]
   congr 1
   omega
theorem length_splice {α:Type} (cs vs:List α) (off:Nat) (h:off + vs.length ≤ cs.length):(cs.take off ++ vs ++ cs.drop (off + vs.length)).length=cs.length:=by
 simp;omega
theorem allP_map (ps:List P):allP (ps.map .p)=some ps:=by
 induction ps with
 | nil=>rfl
 | cons x r ih=>simp [allP,ih]
theorem partP_partV {g:Bool} {n off:Nat} {cs:List P} {v:V} (h:partP g n off cs=some v):partV g n off (cs.map .p)=some v:=by
 unfold partP at h
 unfold partV
 simp only [List.length_map]
 split at h
 ·rename_i h1
  rw [if_pos h1]
  split at h
  ·rename_i h2
   rw [if_pos h2]
   have e:allP ((List.drop off (cs.map V.p)).take n)=some ((cs.drop off).take n):=by rw [← List.map_drop,← List.map_take,allP_map]
   rw [← h]
   simp only [mkAgg,e]
  ·rename_i h2
   rw [if_neg h2]
   split at h
   ·rename_i h3
    rw [if_pos h3,List.getElem?_map,h]
   ·cases h
 ·cases h
section
variable {cfg:Cfg} {base:Base} {P:Program} {o:Oper} {a:Act} {w:World} {E:Env} {μ:Places} {S:St} {d:Nat} {r:V × Blks × List Nat}
theorem load_sound (hc:CfgOk cfg P) {t:TypeId} {i:Ty} (ht:cfg.ty t=some i) {B base0 off:Nat} {cs:List V} {b:Blks} {u:List Nat} {val:Nat→Value} (hcell:∀ (j:Nat) (x:V),cs[j]? = some x→w.cell? ⟨B,base0 + j,none⟩=some (val j))
  (hrep:∀ (j:Nat) (x:V),cs[j]? = some x→Rep E μ b u (val j) x) {v:V} (hp:partV i.agg i.size off cs=some v):∃ cv,(loadVar t ⟨B,base0 + off,none⟩).run P w = .ok cv w∧Rep E μ b u cv v:=by
 unfold partV at hp
 split at hp
 ·rename_i hlen
  have hag:=hc.run_isAgg (w:=w) ht
  have hsz:=hc.run_sizeOf (w:=w) ht
  split at hp
  ·rename_i hg
   simp only [Option.some.injEq] at hp
   subst hp
   have hlv:((List.range i.size).map fun j=>val (off + j)).length=i.size:=by simp
   have hl:=run_loadCells_list (P:=P) w ⟨B,base0 + off,none⟩ ((List.range i.size).map fun j=>val (off + j)) (fun j x hj=>by
    simp only [List.getElem?_map,Option.map_eq_some_iff] at hj
    obtain ⟨j',hj',rfl⟩:=hj
    have hlt:j < i.size:=by
     rcases Nat.lt_or_ge j i.size with h | h
     ·exact h
     ·simp [List.getElem?_eq_none,h] at hj'
    have:j'=j:=by
     have:=List.getElem?_range hlt
     rw [this] at hj'
     cases hj'
     rfl
    subst this
    rw [add_plain,Nat.add_assoc]
    exact hcell (off + j') cs[off + j'] (by rw [List.getElem?_eq_getElem (by omega)]))
   rw [hlv] at hl
   refine ⟨.agg ((List.range i.size).map fun j=>val (off + j)).toArray,?_,?_⟩
   ·simp [loadVar,hag,hg,hsz,hl]
   ·refine rep_mkAgg (by simp;omega) fun j x y hx hy=>?_
    simp only [List.getElem?_map,Option.map_eq_some_iff] at hx
    obtain ⟨j',hj',rfl⟩:=hx
    have hlt:j < i.size:=by
     rcases Nat.lt_or_ge j i.size with h | h
     ·exact h
     ·simp [List.getElem?_eq_none,h] at hj'
    have:j'=j:=by
     have:=List.getElem?_range hlt
     rw [this] at hj'
     cases hj'
     rfl
    subst this
    rw [List.getElem?_take_of_lt hlt,List.getElem?_drop] at hy
    exact hrep _ _ hy
  ·rename_i hg
   split at hp
   ·have h1:=hcell off v hp
    refine ⟨val off,?_,hrep off v hp⟩
    simp [loadVar,hag,hg,h1]
   ·cases hp
 ·cases hp
def Loads (P:Program) (E:Env) (μ:Places) (S:St) (a:Act) (w:World) (t:TypeId) (x:Operand) (r:V × Blks × List Nat):Prop:=
 r.2=(S.b,S.u)∧∃ cv A,a.eval x = .pointer (some A)∧(loadVar t A).run P w = .ok cv w∧Rep E μ S.b S.u cv r.1
theorem load_loads (hc:CfgOk cfg P) (hm:Mem cfg base E μ S.b S.u w) (ht:Tm E μ S a) {t:TypeId} {x:Operand} (he:evalOp cfg d (.load t x) S=some r):Loads P E μ S a w t x r:=by
 have h1:=rep_opnd ht x
 simp only [evalOp] at he
 split at he
 ·rename_i i hi
  generalize hvx:opnd S.t x=vx at *
  have fin:∀ {B off base0:Nat} {cs:List V} {val:Nat→Value} {v:V},a.eval x = .pointer (some ⟨B,base0 + off,none⟩)→(∀ (j:Nat) (x:V),cs[j]? = some x→w.cell? ⟨B,base0 + j,none⟩=some (val j)) →
    (∀ (j:Nat) (x:V),cs[j]? = some x→Rep E μ S.b S.u (val j) x)→partV i.agg i.size off cs=some v→Loads P E μ S a w t x (v,S.b,S.u):=by
   intro B off base0 cs val v ha hcell hrep hp
   obtain ⟨cv,g1,g2⟩:=load_sound hc hi hcell hrep hp
   exact ⟨rfl,cv,_,ha,g1,g2⟩
  split at he
  ·rename_i nm off
   obtain ⟨cv,hcv⟩:∃ cv,a.eval x=cv:=⟨_,rfl⟩
   rw [hcv] at h1
   cases h1 with
   | ref _ _ B cap hu hB hnb=>
    split at he
    ·rename_i cs hb
     simp only [Option.bind_eq_some_iff,Option.some.injEq] at he
     obtain ⟨v,hv,rfl⟩:=he
     obtain ⟨B',cap',c,e1,e2,e3,e4,e5⟩:=hm.blk nm _ hb
     rw [hB] at e1
     cases e1
     have hc':∀ (j:Nat) (y:V),cs[j]? = some y→∃ q,c[j]? = some q∧Rep E μ S.b S.u q y:=by
      intro j y hj
      have hlt:j < c.size:=by
       rw [e3]
       rcases Nat.lt_or_ge j cs.length with h | h
       ·exact h
       ·simp [List.getElem?_eq_none h] at hj
      exact ⟨c[j],by simp [hlt],e4 j c[j] y (by simp [hlt]) hj⟩
     refine fin (B:=B) (base0:=0) (val:=fun j=>(c[j]?).getD undef) (by rw [hcv,Nat.zero_add]) (fun j y hj=>?_) (fun j y hj=>?_) hv
     ·obtain ⟨q,hq,_⟩:=hc' j y hj
      rw [cell_of_blockAt e2,Nat.zero_add,hq];rfl
     ·obtain ⟨q,hq,hr⟩:=hc' j y hj
      rw [hq];exact hr
    ·rename_i cs hb
     simp only [Option.bind_eq_some_iff,Option.some.injEq] at he
     obtain ⟨v,hv,rfl⟩:=he
     obtain ⟨B',cap',e1,e2⟩:=hm.blk nm _ hb
     rw [hB] at e1
     cases e1
     refine fin (B:=B) (base0:=0) (cs:=cs.map .p) (val:=fun j=>(E.cell B j).getD undef) (by rw [hcv,Nat.zero_add]) (fun j y hj=>?_) (fun j y hj=>?_) (partP_partV hv)
     ·simp only [List.getElem?_map,Option.map_eq_some_iff] at hj
      obtain ⟨q,hq,rfl⟩:=hj
      obtain ⟨cvv,g1,g2⟩:=e2 j q hq
      rw [Nat.zero_add,hm.cell _ _ _ g1,g1];rfl
     ·simp only [List.getElem?_map,Option.map_eq_some_iff] at hj
      obtain ⟨q,hq,rfl⟩:=hj
      obtain ⟨cvv,g1,g2⟩:=e2 j q hq
      rw [g1];exact .p _ _ g2
    ·cases he
  ·rename_i nm len k j
   split at he
   ·rename_i sz es sh hb
    split at he
    ·rename_i hl
     split at he
     ·rename_i y hy
      simp only [Option.bind_eq_some_iff,Option.some.injEq] at he
      obtain ⟨v,hv,rfl⟩:=he
      obtain ⟨cv,hcv⟩:∃ cv,a.eval x=cv:=⟨_,rfl⟩
      rw [hcv] at h1
      cases h1 with
      | elem _ _ _ _ _ sz' es' sh' hu hb' hs hl' hx=>
       rw [hb] at hb'
       cases hb'
       obtain ⟨B,cap,hμ,rfl⟩:=hx hl.symm
       obtain ⟨hsz,hk⟩:=hm.blk nm _ hb
       rcases hk with ⟨e1,e2⟩ | ⟨B',cap',c,e1,e2,e3,e4,e5,e6⟩
       ·rw [hμ] at e1;cases e1
       ·rw [hμ] at e1
        cases e1
        refine fin (B:=B) (base0:=k * sz) (cs:=y.cells.map .p) (val:=fun j=>(c[k * sz + j]?).getD undef) (by rw [hcv]) (fun j y' hj=>?_) (fun j y' hj=>?_) (partP_partV hv)
        ·simp only [List.getElem?_map,Option.map_eq_some_iff] at hj
         obtain ⟨q,hq,rfl⟩:=hj
         obtain ⟨cvv,g1,g2,g3⟩:=e5 k y hy j q hq
         rw [cell_of_blockAt e2,g1];rfl
        ·simp only [List.getElem?_map,Option.map_eq_some_iff] at hj
         obtain ⟨q,hq,rfl⟩:=hj
         obtain ⟨cvv,g1,g2,g3⟩:=e5 k y hy j q hq
         rw [g1];exact .p _ _ g2
     ·cases he
    ·cases he
   ·cases he
  ·rename_i cs off
   simp only [Option.bind_eq_some_iff,Option.some.injEq] at he
   obtain ⟨v,hv,rfl⟩:=he
   obtain ⟨cv,hcv⟩:∃ cv,a.eval x=cv:=⟨_,rfl⟩
   rw [hcv] at h1
   have h2:=h1.inv_p
   cases h2 with
   | imm B off0 _ _ f hcc hrr=>
    refine fin (B:=B) (base0:=off0) (cs:=cs.map .p) (val:=f) (by rw [hcv]) (fun j y' hj=>?_) (fun j y' hj=>?_) (partP_partV hv)
    ·simp only [List.getElem?_map,Option.map_eq_some_iff] at hj
     obtain ⟨q,hq,rfl⟩:=hj
     exact hm.cell _ _ _ (hcc j q hq)
    ·simp only [List.getElem?_map,Option.map_eq_some_iff] at hj
     obtain ⟨q,hq,rfl⟩:=hj
     exact .p _ _ (hrr j q hq)
  ·rename_i g ps off
   simp only [Option.bind_eq_some_iff,Option.some.injEq] at he
   obtain ⟨v,hv,rfl⟩:=he
   obtain ⟨cv,hcv⟩:∃ cv,a.eval x=cv:=⟨_,rfl⟩
   rw [hcv] at h1
   have h2:=h1.inv_p
   cases h2 with
   | obj B _ _ _ hB=>
    have e2:=hm.obj B g ps hB
    refine fin (B:=B) (base0:=0) (cs:=(cfg.obj g ps).map .p) (val:=fun j=>(E.cell B j).getD undef) (by rw [hcv,Nat.zero_add]) (fun j y hj=>?_) (fun j y hj=>?_) (partP_partV hv)
    ·simp only [List.getElem?_map,Option.map_eq_some_iff] at hj
     obtain ⟨q,hq,rfl⟩:=hj
     obtain ⟨cvv,g1,g2⟩:=e2 j q hq
     rw [Nat.zero_add,hm.cell _ _ _ g1,g1];rfl
    ·simp only [List.getElem?_map,Option.map_eq_some_iff] at hj
     obtain ⟨q,hq,rfl⟩:=hj
     obtain ⟨cvv,g1,g2⟩:=e2 j q hq
     rw [g1];exact .p _ _ g2
  ·cases he
 ·cases he
theorem does_load (hc:CfgOk cfg P) (hm:Mem cfg base E μ S.b S.u w) (ht:Tm E μ S a) {t:TypeId} {x:Operand} (ho:o.op = .load t x) (he:evalOp cfg d (.load t x) S=some r):Does cfg base P o a w E μ S.b S.u r:=by
 obtain ⟨e1,cv,A,h1,h2,h3⟩:=load_loads hc hm ht he
 obtain ⟨v,b,u⟩:=r
 cases e1
 exact Does.still hm cv h3 (by simp [execOp,ho,h1,Instr.loadAt,Instr.sureAddr,h2])
theorem field_of (fields:Array Field) {fs:List (Nat × TypeId)} (h:fields.toList.map (fun f=>(f.offset,f.type))=fs) {k o:Nat} {ft:TypeId} (hk:fs[k]? = some (o,ft)):∃ f,fields[k]? = some f∧f.offset=o∧f.type=ft:=by
 subst h
 simp only [List.getElem?_map,Option.map_eq_some_iff,Prod.mk.injEq] at hk
 obtain ⟨f,hf,h1,h2⟩:=hk
 exact ⟨f,by simpa using hf,h1,h2⟩
theorem does_fieldAddr (hc:CfgOk cfg P) (hm:Mem cfg base E μ S.b S.u w) (ht:Tm E μ S a) {t:TypeId} {x:Operand} {f:Nat} (ho:o.op = .fieldAddr t x f) (he:evalOp cfg d (.fieldAddr t x f) S=some r):Does cfg base P o a w E μ S.b S.u r:=by
 have h1:=rep_opnd ht x
 simp only [evalOp] at he
 split at he
 ·rename_i fs _ _ _ _ hi
  split at he
  ·rename_i off n hpl
   split at he
   ·cases he
   ·rename_i hn
    unfold placesOf at hpl
    split at hpl
    ·rename_i off' ft hf
     simp only [Option.map_eq_some_iff,Prod.mk.injEq] at hpl
     obtain ⟨fi,hfi,rfl,rfl⟩:=hpl
     obtain ⟨fields,g1,g2⟩:=run_underlying_struct hc hi rfl w
     obtain ⟨fd,k1,k2,k3⟩:=field_of fields g2 hf
     have k4:=hc.run_sizeOf (w:=w) hfi
     have run:∀ B q,a.eval x = .pointer (some ⟨B,q,none⟩)→(execOp a.eval o).run P w = .ok (.value (.pointer (some ⟨B,q + off',none⟩))) w:=by
      intro B q hq
      simp [execOp,ho,hq,Instr.fieldAt,g1,k1,Instr.sureAddr,fieldPlace,k3,k4,hn,add_plain,k2]
     obtain ⟨cv,hcv⟩:∃ cv,a.eval x=cv:=⟨_,rfl⟩
     split at he
     ·rename_i nm q hvx
      simp only [Option.some.injEq] at he
      subst he
      rw [hcv,hvx] at h1
      cases h1 with
      | ref _ _ B cap hu hB hnb=>exact Does.still hm _ (.ref nm (q + off') B cap hu hB hnb) (run B q hcv)
     ·rename_i nm len k j hvx
      split at he
      ·rename_i sz es sh hb
       split at he
       ·rename_i hlen
        simp only [Option.some.injEq] at he
        subst he
        rw [hcv,hvx] at h1
        cases h1 with
        | elem _ _ _ _ _ sz' es' sh' hu hb' hs hl' hx=>
         rw [hb] at hb'
         cases hb'
         obtain ⟨B,cap,hμ,rfl⟩:=hx hlen.symm
         refine Does.still hm _ (.elem _ nm len k (j + off') sz es sh hu hb rfl hl' fun _=>⟨B,cap,hμ,rfl⟩) ?_
         rw [run B _ hcv,Nat.add_assoc]
       ·cases he
      ·cases he
     ·rename_i cs q hvx
      simp only [Option.some.injEq] at he
      subst he
      rw [hcv,hvx] at h1
      have h2:=h1.inv_p
      cases h2 with
      | imm B off0 _ _ f hcc hrr=>
       refine Does.still hm _ (.p _ _ (.imm B off0 (q + off') cs f hcc hrr)) ?_
       rw [run B _ hcv,Nat.add_assoc]
     ·rename_i g ps q hvx
      simp only [Option.some.injEq] at he
      subst he
      rw [hcv,hvx] at h1
      have h2:=h1.inv_p
      cases h2 with
      | obj B _ _ _ hB=>exact Does.still hm _ (.p _ _ (.obj B g (q + off') ps hB)) (run B q hcv)
     ·cases he
    ·cases hpl
  ·cases he
 ·cases he
end
end Go.Abs
namespace Go.Abs
open Go.RowKit
section
variable {cfg:Cfg} {base:Base} {P:Program} {o:Oper} {a:Act} {w:World} {E:Env} {μ:Places} {S:St} {d:Nat} {r:V × Blks × List Nat}
theorem part_sound (hc:CfgOk cfg P) {t:TypeId} {i:Ty} (ht:cfg.ty t=some i) {b:Blks} {u:List Nat} {vs:List Value} {cs:List V} {off:Nat} (hl:vs.length=cs.length)
  (h:∀ (i:Nat) (v:Value) (x:V),vs[i]? = some v→cs[i]? = some x→Rep E μ b u v x) {v:V} (hp:partV i.agg i.size off cs=some v):∃ cv,(part t vs.toArray off).run P w = .ok cv w∧Rep E μ b u cv v:=by
 unfold partV at hp
 split at hp
 ·rename_i hlen
  have hag:=hc.run_isAgg (w:=w) ht
  have hsz:=hc.run_sizeOf (w:=w) ht
  split at hp
  ·rename_i hg
   simp only [Option.some.injEq] at hp
   subst hp
   refine ⟨.agg ((vs.drop off).take i.size).toArray,?_,rep_mkAgg (by simp [hl]) fun j x y hx hy=>?_⟩
   ·simp only [part,Sem.run_bind,hag,Result.andThen_ok,hg,if_true,hsz,Sem.run_pure]
    congr 2
    apply Array.ext'
    simp [List.drop_take]
   ·have hlt:j < i.size:=by
     rcases Nat.lt_or_ge j i.size with h' | h'
     ·exact h'
     ·rw [List.getElem?_take_eq_none h'] at hx;cases hx
    rw [List.getElem?_take_of_lt hlt,List.getElem?_drop] at hx hy
    exact h _ _ _ hx hy
  ·rename_i hg
   split at hp
   ·have hlt:off < vs.length:=by omega
    refine ⟨vs[off],?_,h off vs[off] v (by simp [hlt]) hp⟩
    simp [part,hag,hg,hlt]
   ·cases hp
 ·cases hp
theorem does_field (hc:CfgOk cfg P) (hm:Mem cfg base E μ S.b S.u w) (ht:Tm E μ S a) {t:TypeId} {x:Operand} {f:Nat} (ho:o.op = .field t x f) (he:evalOp cfg d (.field t x f) S=some r):Does cfg base P o a w E μ S.b S.u r:=by
 have h1:=rep_opnd ht x
 simp only [evalOp] at he
 split at he
 ·rename_i fs _ _ _ _ hi
  split at he
  ·rename_i off ft hf
   obtain ⟨fields,g1,g2⟩:=run_underlying_struct hc hi rfl w
   obtain ⟨fd,k1,k2,k3⟩:=field_of fields g2 hf
   obtain ⟨cv,hcv⟩:∃ cv,a.eval x=cv:=⟨_,rfl⟩
   split at he
   ·rename_i i cs hfi hvx
    simp only [Option.bind_eq_some_iff,Option.some.injEq] at he
    obtain ⟨v,hv,rfl⟩:=he
    rw [hcv,hvx] at h1
    obtain ⟨vs,rfl,e1,e2⟩:=repP_inv_agg h1.inv_p
    obtain ⟨cv',q1,q2⟩:=part_sound (w:=w) hc hfi (b:=S.b) (u:=S.u) (μ:=μ) (vs:=vs) (cs:=cs.map .p) (by simpa using e1) (fun j v y hj hy=>by
     simp only [List.getElem?_map,Option.map_eq_some_iff] at hy
     obtain ⟨q,hq,rfl⟩:=hy
     exact .p _ _ (e2 j v q hj hq)) (partP_partV hv)
    exact Does.still hm cv' q2 (by simp [execOp,ho,hcv,Instr.field,g1,k1,asAgg,k3,k2,q1])
   ·rename_i i cs hfi hvx
    simp only [Option.bind_eq_some_iff,Option.some.injEq] at he
    obtain ⟨v,hv,rfl⟩:=he
    rw [hcv,hvx] at h1
    obtain ⟨vs,rfl,e1,e2⟩:=h1.inv_agg
    obtain ⟨cv',q1,q2⟩:=part_sound (w:=w) hc hfi (vs:=vs) (cs:=cs) e1 e2 hv
    exact Does.still hm cv' q2 (by simp [execOp,ho,hcv,Instr.field,g1,k1,asAgg,k3,k2,q1])
   ·cases he
  ·cases he
 ·cases he
theorem foldl_set (off:Nat):∀ (vs:List Value) (k:Nat) (cs:Array Value),off + k + vs.length ≤ cs.size →
  ((vs.zipIdx k).foldl (fun cs (p:Value × Nat)=>cs.setIfInBounds (off + p.2) p.1) cs).toList=cs.toList.take (off + k) ++ vs ++ cs.toList.drop (off + k + vs.length)
 | [],k,cs,h=>by simp
 | v :: r,k,cs,h=>by
  simp only [List.zipIdx_cons,List.foldl_cons]
  simp only [List.length_cons] at h
  have ih:=foldl_set off r (k + 1) (cs.setIfInBounds (off + k) v) (by simp;omega)
  rw [ih]
  apply List.ext_getElem?
  intro i
  have hsz:(cs.setIfInBounds (off + k) v).toList.length=cs.toList.length:=by simp
  rw [getElem?_splice _ _ _ _ (by simp;omega),getElem?_splice _ _ _ _ (by simp;omega)]
  simp only [Array.toList_setIfInBounds,List.getElem?_set,List.length_cons]
  by_cases h1:i < off + k
  ·rw [if_pos (by omega),if_neg (by omega),if_pos h1]
  ·by_cases h2:i=off + k
   ·subst h2
    rw [if_pos (by omega),if_pos rfl,if_pos (by simp;omega),if_neg (by omega),if_pos (by omega)]
    simp
   ·rw [if_neg (by omega),if_neg h1]
    by_cases h3:i < off + k + (r.length + 1)
    ·rw [if_pos (by omega),if_pos h3]
     obtain ⟨m,rfl⟩:∃ m,i=off + (k + 1) + m:=⟨i - (off + (k + 1)),by omega⟩
     rw [show off + (k + 1) + m - (off + (k + 1))=m by omega,show off + (k + 1) + m - (off + k)=m + 1 by omega,List.getElem?_cons_succ]
    ·rw [if_neg (by omega),if_neg h3,if_neg (by omega)]
theorem fill_sound {b:Blks} {u:List Nat} {place:Nat→Option (Nat × Nat)}:∀ (vs:List (Nat × Value)) (xs:List (Nat × V)) (cur:Array Value) (cs out:List V),vs.length=xs.length →
  (∀ (i:Nat) p q,vs[i]? = some p→xs[i]? = some q→p.1=q.1∧Rep E μ b u p.2 q.2)→cur.size=cs.length→(∀ (i:Nat) (v:Value) (x:V),cur[i]? = some v→cs[i]? = some x→Rep E μ b u v x) →
  fillV place cs xs=some out→∃ cells,Instr.fill place cur vs=some cells∧cells.size=out.length∧∀ (i:Nat) (v:Value) (x:V),cells[i]? = some v→out[i]? = some x→Rep E μ b u v x
 | [],[],cur,cs,out,_,_,hs,h,he=>by
  simp only [fillV,Option.some.injEq] at he
  subst he
  exact ⟨cur,rfl,hs,h⟩
 | [],_ :: _,_,_,_,hl,_,_,_,_=>by simp at hl
 | _ :: _,[],_,_,_,hl,_,_,_,_=>by simp at hl
 | (i,v) :: vr,(i',x) :: xr,cur,cs,out,hl,hr,hs,h,he=>by
  have h0:i=i'∧Rep E μ b u v x:=hr 0 (i,v) (i',x) rfl rfl
  obtain ⟨rfl,hvx⟩:=h0
  simp only [fillV] at he
  split at he
  ·rename_i off n ys hpl hys
   split at he
   ·rename_i hcond
    obtain ⟨c1,c2⟩:=hvx.cells hys
    have hfit:off + v.cells.toList.length ≤ cur.size:=by simp;omega
    have key:=foldl_set off v.cells.toList 0 cur (by simpa using hfit)
    have e1:(v.cells.zipIdx.foldl (fun cs (p:Value × Nat)=>cs.setIfInBounds (off + p.2) p.1) cur)=(cur.toList.take off ++ v.cells.toList ++ cur.toList.drop (off + v.cells.toList.length)).toArray:=by
     apply Array.ext'
     rw [← Array.foldl_toList,Array.toList_zipIdx]
     simpa using key
    have:=fill_sound vr xr (cur.toList.take off ++ v.cells.toList ++ cur.toList.drop (off + v.cells.toList.length)).toArray (spliceV cs off ys) out (by simpa using hl) (fun j p q hp hq=>hr (j + 1) p q hp hq) ?_ ?_ he
    ·obtain ⟨cells,g1,g2,g3⟩:=this
     refine ⟨cells,?_,g2,g3⟩
     simp only [Instr.fill,hpl]
     rw [if_neg (by simp;omega)]
     rw [← g1,← e1]
    ·simp only [spliceV,List.size_toArray]
     rw [length_splice _ _ _ (by simpa using hfit),length_splice _ _ _ (by omega)]
     simpa using hs
    ·intro j q y hq hy
     simp only [spliceV] at hy
     rw [List.getElem?_toArray,getElem?_splice _ _ _ _ (by simpa using hfit)] at hq
     rw [getElem?_splice _ _ _ _ (by omega)] at hy
     have hlen:v.cells.toList.length=ys.length:=by simpa using c1
     rw [hlen] at hq
     by_cases a1:j < off
     ·rw [if_pos a1] at hq hy
      exact h j q y (by simpa using hq) hy
     ·rw [if_neg a1] at hq hy
      by_cases a2:j < off + ys.length
      ·rw [if_pos a2] at hq hy
       exact c2 (j - off) q y (by simpa using hq) hy
      ·rw [if_neg a2] at hq hy
       exact h j q y (by simpa using hq) hy
   ·cases he
  ·cases he
def placeOf (f:Field):Sem (Nat × Nat):=do pure (f.offset,← sizeOf f.type)
theorem run_mapM_places (hc:CfgOk cfg P):∀ (fields:List Field),(∀ f ∈ fields,(cfg.ty f.type).isSome=true)→∃ ps:List (Nat × Nat),(fields.mapM placeOf).run P w = .ok ps w ∧
  ∀ i:Nat,ps[i]? = (fields[i]?).bind fun f=>(cfg.ty f.type).map fun x=>(f.offset,x.size)
 | [],_=>⟨[],by simp,fun i=>by simp⟩
 | f :: r,h=>by
  obtain ⟨ps,h1,h2⟩:=run_mapM_places hc r (fun g hg=>h g (List.mem_cons_of_mem _ hg))
  obtain ⟨i,hi⟩:=Option.isSome_iff_exists.1 (h f (by simp))
  refine ⟨(f.offset,i.size) :: ps,?_,fun j=>?_⟩
  ·simp only [List.mapM_cons,placeOf,Sem.run_bind,hc.run_sizeOf (w:=w) hi,Result.andThen_ok,Sem.run_pure]
   simp only [h1,Result.andThen_ok]
  ·cases j with
   | zero=>simp [hi]
   | succ j=>simp [h2 j]
theorem does_build (hc:CfgOk cfg P) (hm:Mem cfg base E μ S.b S.u w) (ht:Tm E μ S a) {t:TypeId} {parts:Array (Nat × Operand)} (ho:o.op = .build t parts) (he:evalOp cfg d (.build t parts) S=some r):Does cfg base P o a w E μ S.b S.u r:=by
 simp only [evalOp] at he
 split at he
 ·rename_i fs _ _ z _ hi
  split at he
  ·rename_i hall
   simp only [Option.bind_eq_some_iff,Option.some.injEq] at he
   obtain ⟨cs,hcs,rfl⟩:=he
   obtain ⟨fields,g1,g2⟩:=run_underlying_struct hc hi rfl w
   obtain ⟨zv,z1,z2,z3⟩:=hc.run_zeroValue (w:=w) hi
   have hall':∀ f ∈ fields.toList,(cfg.ty f.type).isSome=true:=by
    intro f hf
    simp only [List.all_eq_true] at hall
    exact hall (f.offset,f.type) (by rw [← g2];exact List.mem_map.2 ⟨f,hf,rfl⟩)
   obtain ⟨ps,p1,p2⟩:=run_mapM_places (w:=w) hc fields.toList hall'
   have hplace:(fun i=>ps[i]?)=placesOf fs cfg.ty:=by
    funext k
    simp only [placesOf]
    rw [p2 k,← g2,List.getElem?_map]
    cases fields.toList[k]? <;> simp
   have hf:=fill_sound (E:=E) (μ:=μ) (b:=S.b) (u:=S.u) (place:=placesOf fs cfg.ty) (parts.toList.map fun (i,x)=>(i,a.eval x)) (parts.toList.map fun (i,x)=>(i,opnd S.t x)) zv.cells z cs (by simp)
    (fun i p q hp hq=>by
     simp only [List.getElem?_map,Option.map_eq_some_iff] at hp hq
     obtain ⟨y,hy,rfl⟩:=hp
     obtain ⟨y',hy',rfl⟩:=hq
     rw [hy] at hy'
     cases hy'
     exact ⟨rfl,rep_opnd ht _⟩) (by simpa using zerosB_len z2) (fun i v x hv hx=>zerosB_sound z2 _ _ _ _ i v x (by simpa using hv) hx) hcs
   obtain ⟨cells,c1,c2,c3⟩:=hf
   refine Does.still hm (.agg cells) ?_ ?_
   ·have:=rep_mkAgg (E:=E) (μ:=μ) (b:=S.b) (u:=S.u) (vs:=cells.toList) (cs:=cs) (by simpa using c2) (fun i v x hv hx=>c3 i v x (by simpa using hv) hx)
    simpa using this
   ·have hmap:(fields.mapM placeOf).run P w = .ok ps.toArray w:=by
     rw [Array.mapM_eq_mapM_toList]
     simp [p1]
    have hfill:Instr.fill (fun i=>ps.toArray[i]?) zv.cells (parts.map fun (i,x)=>(i,a.eval x)).toList=some cells:=by
     rw [← c1,Array.toList_map,← hplace]
     simp
    simp only [execOp,ho,Instr.build,Sem.run_bind,z1,Result.andThen_ok,g1]
    have hmap':=hmap
    unfold placeOf at hmap'
    simp only [Sem.run_bind,hmap',Result.andThen_ok,hfill,Sem.run_pure]
  ·cases he
 ·rename_i n e _ _ z _ hi
  split at he
  ·rename_i ie hie
   simp only [Option.bind_eq_some_iff,Option.some.injEq] at he
   obtain ⟨cs,hcs,rfl⟩:=he
   have g1:=run_underlying_arr hc hi rfl w
   obtain ⟨zv,z1,z2,z3⟩:=hc.run_zeroValue (w:=w) hi
   have hsz:=hc.run_sizeOf (w:=w) hie
   have hf:=fill_sound (E:=E) (μ:=μ) (b:=S.b) (u:=S.u) (place:=fun k=>some (k * ie.size,ie.size)) (parts.toList.map fun (i,x)=>(i,a.eval x)) (parts.toList.map fun (i,x)=>(i,opnd S.t x)) zv.cells z cs (by simp)
    (fun i p q hp hq=>by
     simp only [List.getElem?_map,Option.map_eq_some_iff] at hp hq
     obtain ⟨y,hy,rfl⟩:=hp
     obtain ⟨y',hy',rfl⟩:=hq
     rw [hy] at hy'
     cases hy'
     exact ⟨rfl,rep_opnd ht _⟩) (by simpa using zerosB_len z2) (fun i v x hv hx=>zerosB_sound z2 _ _ _ _ i v x (by simpa using hv) hx) hcs
   obtain ⟨cells,c1,c2,c3⟩:=hf
   refine Does.still hm (.agg cells) ?_ ?_
   ·have:=rep_mkAgg (E:=E) (μ:=μ) (b:=S.b) (u:=S.u) (vs:=cells.toList) (cs:=cs) (by simpa using c2) (fun i v x hv hx=>c3 i v x (by simpa using hv) hx)
    simpa using this
   ·have hfill:Instr.fill (fun k=>some (k * ie.size,ie.size)) zv.cells (parts.map fun (i,x)=>(i,a.eval x)).toList=some cells:=by
     rw [← c1,Array.toList_map]
    simp only [execOp,ho,Instr.build,Sem.run_bind,z1,Result.andThen_ok,g1,hsz,hfill,Sem.run_pure]
  ·cases he
 ·cases he
theorem does_indexAddr (hc:CfgOk cfg P) (hm:Mem cfg base E μ S.b S.u w) (ht:Tm E μ S a) {t:TypeId} {x y:Operand} (ho:o.op = .indexAddr t x y) (he:evalOp cfg d (.indexAddr t x y) S=some r):Does cfg base P o a w E μ S.b S.u r:=by
 have h1:=rep_opnd ht x
 have h3:=rep_opnd ht y
 simp only [evalOp] at he
 split at he
 ·rename_i e _ _ _ _ k hi hk
  obtain ⟨kk,m,e1,e2,e3⟩:=natOf_some hk
  rw [e1] at h3
  have h4:=h3.inv_p
  cases hcw:a.eval y <;> rw [hcw] at h4 <;> cases h4
  have hu:=run_underlying_slice hc hi rfl w
  split at he
  ·rename_i i hie
   have hsz:=hc.run_sizeOf (w:=w) hie
   obtain ⟨cv,hcv⟩:∃ cv,a.eval x=cv:=⟨_,rfl⟩
   have run:∀ B off len cap,cv = .slice (some ⟨B,off,none⟩) len cap→k < len→(execOp a.eval o).run P w = .ok (.value (.pointer (some ⟨B,off + k * i.size,none⟩))) w:=by
    intro B off len cap hs hlt
    subst e3
    subst hs
    have:m < (len:Int):=by omega
    simp [execOp,ho,hcv,hcw,Instr.indexAt,asIntOf,hu,e2,this,hsz,add_plain]
   split at he
   ·rename_i es hvx
    split at he
    ·rename_i z hz
     split at he
     ·rename_i hlen
      simp only [Option.some.injEq] at he
      subst he
      rw [hcv,hvx] at h1
      have h2:=h1.inv_p
      cases h2 with
      | lst bs cap _ f B off sz hcap hlim hb hsz' hcc hrr=>
       have hlt:k < es.length:=by
        rcases Nat.lt_or_ge k es.length with h | h
        ·exact h
        ·simp [List.getElem?_eq_none h] at hz
       have hbs:=hb (by intro h;subst h;simp at hlt)
       subst hbs
       have:=hsz' k z hz
       refine Does.still hm _ (.p _ _ (.imm B (off + k * sz) 0 z.cells (fun j=>f k j) (fun j q hq=>hcc k z hz j q hq) (fun j q hq=>hrr k z hz j q hq))) ?_
       rw [run B off _ cap rfl hlt,show i.size=sz by omega]
       rfl
     ·cases he
    ·cases he
   ·rename_i nm len hvx
    split at he
    ·rename_i sz es sh hb
     split at he
     ·rename_i hcond
      simp only [Option.some.injEq] at he
      subst he
      rw [hcv,hvx] at h1
      cases h1 with
      | own _ _ _ sz' es' sh' hu' hb' hs hl' hv=>
       rw [hb] at hb'
       cases hb'
       have hcur:=hv hcond.1.symm
       obtain ⟨hsz2,hkk⟩:=hm.blk nm _ hb
       rcases hkk with ⟨f1,f2⟩ | ⟨B,cap,c,f1,f2,_⟩
       ·subst f2;simp at hcond;omega
       ·simp only [cur,f1] at hcur
        refine Does.still hm _ (.elem _ nm len k 0 sz es sh hu' hb rfl hl' fun _=>⟨B,cap,f1,rfl⟩) ?_
        rw [run B 0 len cap hcur hcond.2.1,hcond.2.2]
        simp
     ·cases he
    ·cases he
   ·cases he
  ·cases he
 ·rename_i n e _ _ _ _ k hi hk
  obtain ⟨kk,m,e1,e2,e3⟩:=natOf_some hk
  rw [e1] at h3
  have h4:=h3.inv_p
  cases hcw:a.eval y <;> rw [hcw] at h4 <;> cases h4
  have hu:=run_underlying_arr hc hi rfl w
  split at he
  ·rename_i i hie
   have hsz:=hc.run_sizeOf (w:=w) hie
   split at he
   ·rename_i nm off hvx
    split at he
    ·rename_i hlt
     simp only [Option.some.injEq] at he
     subst he
     obtain ⟨cv,hcv⟩:∃ cv,a.eval x=cv:=⟨_,rfl⟩
     rw [hcv,hvx] at h1
     cases h1 with
     | ref _ _ B cap hu' hB hnb=>
      refine Does.still hm _ (.ref nm (off + k * i.size) B cap hu' hB hnb) ?_
      subst e3
      have:m < (n:Int):=by omega
      simp [execOp,ho,hcv,hcw,Instr.indexAt,asIntOf,hu,e2,this,hsz,add_plain,Instr.sureAddr]
    ·cases he
   ·cases he
  ·cases he
 ·cases he
end
end Go.Abs
namespace Go.Abs
open Go.RowKit
section
variable {cfg:Cfg} {base:Base} {P:Program} {o:Oper} {a:Act} {w:World} {E:Env} {μ:Places} {S:St} {d:Nat} {r:V × Blks × List Nat}
theorem run_sliceBound {v:Value} {k:IntKind} {m:Int} (hv:v = .int k m) {y:Nat} (h0:0 ≤ m) (h1:m.toNat ≤ y) (code:BoundsCode):(Instr.sliceBound v y code).run P w = .ok m.toNat w:=by
 subst hv
 have:m ≤ (y:Int):=by omega
 simp [Instr.sliceBound,asIntOf,h0,this]
theorem run_sliceBounds (ht:Tm E μ S a) {isSlice:Bool} {len cap l h:Nat} {lo hi:Option Operand} (hlo:(match lo with | some l=>natOf (opnd S.t l) | none=>some 0)=some l)
  (hhi:(match hi with | some h=>natOf (opnd S.t h) | none=>some len)=some h) (hlh:l ≤ h) (hcap:h ≤ cap) :
  (Instr.sliceBounds isSlice len cap (lo.map a.eval) (hi.map a.eval) none).run P w = .ok (l,h,cap) w:=by
 have inv:∀ {x:Operand} {n:Nat},natOf (opnd S.t x)=some n→∃ k m,a.eval x = .int k m∧0 ≤ m∧m.toNat=n:=by
  intro x n hx
  obtain ⟨k,m,e1,e2,e3⟩:=natOf_some hx
  have:=rep_opnd ht x
  rw [e1] at this
  have h4:=this.inv_p
  cases hcw:a.eval x <;> rw [hcw] at h4 <;> cases h4
  exact ⟨k,m,rfl,e2,e3⟩
 cases lo with
 | none=>
  simp only [Option.some.injEq] at hlo
  subst hlo
  cases hi with
  | none=>
   simp only [Option.some.injEq] at hhi
   subst hhi
   simp [Instr.sliceBounds]
  | some y=>
   obtain ⟨k,m,e1,e2,e3⟩:=inv hhi
   have:=run_sliceBound (P:=P) (w:=w) e1 (y:=cap) e2 (by omega) (if isSlice then .sliceAcap else .sliceAlen)
   simp [Instr.sliceBounds,this,e3]
 | some x=>
  obtain ⟨k,m,e1,e2,e3⟩:=inv hlo
  cases hi with
  | none=>
   simp only [Option.some.injEq] at hhi
   subst hhi
   have:=run_sliceBound (P:=P) (w:=w) e1 (y:=len) e2 (by omega) .sliceB
   simp [Instr.sliceBounds,this,e3]
  | some y=>
   obtain ⟨k',m',f1,f2,f3⟩:=inv hhi
   have g1:=run_sliceBound (P:=P) (w:=w) f1 (y:=cap) f2 (by omega) (if isSlice then .sliceAcap else .sliceAlen)
   have g2:=run_sliceBound (P:=P) (w:=w) e1 (y:=h) e2 (by omega) .sliceB
   simp [Instr.sliceBounds,g1,f3,g2,e3]
theorem sizesOk_get {sz:Nat} {es:List Abs.P} (h:sizesOk sz es=true) {i:Nat} {x:Abs.P} (hi:es[i]? = some x):x.cells.length=sz∧∀ y ∈ x.cells,oneP y=true:=by
 simp only [sizesOk,List.all_eq_true] at h
 have:=h x (List.mem_of_getElem? hi)
 simp only [elemOk,Bool.and_eq_true,beq_iff_eq,List.all_eq_true] at this
 exact this
theorem does_slice (hc:CfgOk cfg P) (hm:Mem cfg base E μ S.b S.u w) (ht:Tm E μ S a) {t:TypeId} {x:Operand} {lo hi:Option Operand} (ho:o.op = .slice t x lo hi none) (he:evalOp cfg d (.slice t x lo hi none) S=some r):Does cfg base P o a w E μ S.b S.u r:=by
 have h1:=rep_opnd ht x
 simp only [evalOp] at he
 split at he
 ·rename_i e _ _ _ _ v hi'
  have hu:=run_underlying_slice hc hi' rfl w
  split at he
  ·rename_i i es b hie htp
   have hsz:=hc.run_sizeOf (w:=w) hie
   split at he
   ·rename_i hok
    split at he
    ·rename_i l h hlo hhi
     split at he
     ·rename_i hlh
      simp only [Option.some.injEq] at he
      subst he
      obtain ⟨E',k1,k2,k3⟩:=toP_sound _ hm h1 htp
      obtain ⟨cv,hcv⟩:∃ cv,a.eval x=cv:=⟨_,rfl⟩
      rw [hcv] at k3
      cases k3 with
      | lst bs cap _ f B off sz hcap hlim hb hsz' hcc hrr=>
       have hbd:=run_sliceBounds (P:=P) (w:=w) (isSlice:=true) (cap:=cap) ht hlo hhi hlh.1 (by omega)
       have hrun:(execOp a.eval o).run P w = .ok (.value (.slice (if cap=l then bs else bs.map (·.add (l * i.size))) (h - l) (cap - l))) w:=by
        simp only [execOp,ho,hcv,Instr.sliceAt,Sem.run_bind,hu,Result.andThen_ok,Instr.slice,Option.map_none,hbd,hsz,Sem.run_pure]
       refine Does.after k1 k2 _ (.p _ _ ?_) hrun
       have hlen:((es.take h).drop l).length=h - l:=by simp;omega
       rw [← hlen]
       refine .lst _ _ _ (fun p q=>f (l + p) q) B (off + l * sz) sz (by rw [hlen];omega) (by rw [hlen];omega) ?_ ?_ ?_ ?_
       ·intro hne
        have hlt:l < h:=by
         rcases Nat.lt_or_ge l h with h' | h'
         ·exact h'
         ·exact (hne (List.eq_nil_of_length_eq_zero (by rw [hlen];omega))).elim
        rw [if_neg (by omega),hb (by intro h';subst h';simp at hlh;omega)]
        have:i.size=sz:=by
         have hx0:es[l]? = some es[l]:=by rw [List.getElem?_eq_getElem]
         rw [← (sizesOk_get hok hx0).1,hsz' l _ hx0]
        rw [this]
        simp [add_plain]
       ·intro p y hp
        rw [List.getElem?_drop] at hp
        have hlt:l + p < h:=by
         rcases Nat.lt_or_ge (l + p) h with h' | h'
         ·exact h'
         ·rw [List.getElem?_take_eq_none h'] at hp;cases hp
        rw [List.getElem?_take_of_lt hlt] at hp
        exact hsz' _ y hp
       ·intro p y hp j z hz
        rw [List.getElem?_drop] at hp
        have hlt:l + p < h:=by
         rcases Nat.lt_or_ge (l + p) h with h' | h'
         ·exact h'
         ·rw [List.getElem?_take_eq_none h'] at hp;cases hp
        rw [List.getElem?_take_of_lt hlt] at hp
        have:=hcc _ y hp j z hz
        rw [Nat.add_mul] at this
        rw [← this]
        congr 1
        omega
       ·intro p y hp j z hz
        rw [List.getElem?_drop] at hp
        have hlt:l + p < h:=by
         rcases Nat.lt_or_ge (l + p) h with h' | h'
         ·exact h'
         ·rw [List.getElem?_take_eq_none h'] at hp;cases hp
        rw [List.getElem?_take_of_lt hlt] at hp
        exact hrr _ y hp j z hz
     ·cases he
    ·cases he
   ·cases he
  ·cases he
 ·rename_i _ _ _ _ s hi' hvx
  have hu:=run_underlying_str hc hi' rfl w
  split at he
  ·rename_i l h hlo hhi
   split at he
   ·rename_i hlh
    simp only [Option.some.injEq] at he
    subst he
    rw [hvx] at h1
    have h2:=h1.inv_p
    cases hcv:a.eval x <;> rw [hcv] at h2 <;> cases h2
    have hbd:=run_sliceBounds (P:=P) (w:=w) (isSlice:=false) (cap:=s.size) ht hlo hhi hlh.1 hlh.2
    refine Does.still hm (.string (s.extract l h)) (.p _ _ (.str _)) ?_
    simp [execOp,ho,hcv,Instr.sliceAt,hu,Instr.slice,hbd]
   ·cases he
  ·cases he
 ·cases he
theorem new_cells (hm:Mem cfg base E μ S.b S.u w) (ht:Tm E μ S a) (hd:d ∉ S.u) {v:Value} {cs:List V} (hs:v.cells.size=cs.length) (hr:∀ (i:Nat) (v':Value) (x:V),v.cells[i]? = some v'→cs[i]? = some x→Rep E μ S.b S.u v' x) (t:TypeId) :
  ∃ μ',Chg E E μ μ' S.b (setB S.b d (.cells cs)) S.u (d :: S.u)∧Mem cfg base E μ' (setB S.b d (.cells cs)) (d :: S.u) (w.alloc (.cells v.cells t)) ∧
   Rep E μ' (setB S.b d (.cells cs)) (d :: S.u) (.pointer (some ⟨w.heap.size,0,none⟩)) (.ref d 0):=by
 have hnew:(w.alloc (.cells v.cells t)).heap[w.heap.size]? = some (.cells v.cells t):=by
  show (w.heap.push _)[w.heap.size]? = _
  simp
 have hE:∀ o,E.cell w.heap.size o=none:=by
  intro o
  cases h:E.cell w.heap.size o with
  | none=>rfl
  | some v'=>exact (Nat.lt_irrefl _ (lt_of_cell (hm.cell _ _ _ h))).elim
 have hchg:Chg E E μ (fun n=>if n=d then some (w.heap.size,0) else μ n) S.b (setB S.b d (.cells cs)) S.u (d :: S.u):=
  Chg.fresh (Env.le_refl E) hd (fun m hmn=>by simp [hmn])
 refine ⟨fun n=>if n=d then some (w.heap.size,0) else μ n,hchg,?_,?_⟩
 ·refine hm.step hchg (by simp) (fun m hmn=>by simp [hmn]) w.heap.size (fun C e h=>by simp at h;exact h.1.symm) (.inr (Nat.le_refl _)) ?_ (by simp) rfl rfl rfl (fun _ _ _=>rfl) (fun _=>rfl) ?_ ?_
  ·intro j hj hlt
   exact Below.heap_alloc w _ j hlt
  ·intro o' v' hv'
   rw [hE o'] at hv';cases hv'
  ·exact ⟨w.heap.size,0,v.cells,by simp,⟨t,hnew⟩,hs,fun i v' x hv' hx=>(hr i v' x hv' hx).chg hchg,hE⟩
 ·exact .ref d 0 w.heap.size 0 (by simp) (by simp) (fun sz es sh h=>by rw [getB_setB,if_pos rfl] at h;cases h)
theorem does_alloc (hc:CfgOk cfg P) (hm:Mem cfg base E μ S.b S.u w) (ht:Tm E μ S a) {t:TypeId} (ho:o.op = .alloc t) (he:evalOp cfg d (.alloc t) S=some r):Does cfg base P o a w E μ S.b S.u r:=by
 simp only [evalOp] at he
 split at he
 ·rename_i i hi
  split at he
  ·cases he
  ·rename_i hd
   simp only [Option.some.injEq] at he
   subst he
   obtain ⟨z,z1,z2,z3⟩:=hc.run_zeroValue (w:=w) hi
   obtain ⟨μ',k1,k2,k3⟩:=new_cells (d:=d) hm ht hd (v:=z) (cs:=i.zero) (by simpa using zerosB_len z2) (fun j v x hv hx=>zerosB_sound z2 _ _ _ _ j v x (by simpa using hv) hx) t
   refine ⟨E, μ',_,_,k1,k2,k3,.inl ?_⟩
   simp [execOp,ho,Instr.alloc,z1,newVar,newRow]
 ·cases he
theorem does_box (hm:Mem cfg base E μ S.b S.u w) (ht:Tm E μ S a) {t:TypeId} {x:Operand} (ho:o.op = .box t x) (he:evalOp cfg d (.box t x) S=some r):Does cfg base P o a w E μ S.b S.u r:=by
 have h1:=rep_opnd ht x
 simp only [evalOp] at he
 split at he
 ·rename_i cs hcs
  split at he
  ·cases he
  ·rename_i hd
   simp only [Option.some.injEq] at he
   subst he
   obtain ⟨e1,e2⟩:=h1.cells hcs
   obtain ⟨μ',k1,k2,k3⟩:=new_cells (d:=d) hm ht hd (v:=a.eval x) (cs:=cs) e1 e2 t
   refine ⟨E, μ',_,_,k1,k2,k3,.inl ?_⟩
   simp [execOp,ho,Instr.box,newVar,newRow]
 ·cases he
theorem does_store (hc:CfgOk cfg P) (hm:Mem cfg base E μ S.b S.u w) (ht:Tm E μ S a) {t:TypeId} {x y:Operand} (ho:o.op = .store t x y) (he:evalOp cfg d (.store t x y) S=some r):Does cfg base P o a w E μ S.b S.u r:=by
 have h1:=rep_opnd ht x
 have h3:=rep_opnd ht y
 simp only [evalOp] at he
 split at he
 ·rename_i i hi
  have hsz:=hc.run_sizeOf (w:=w) hi
  split at he
  ·rename_i nm off vs hvx hvs
   split at he
   ·rename_i cs hb
    split at he
    ·rename_i hcond
     obtain ⟨c1,c2,c3⟩:=hcond
     simp only [Option.some.injEq] at he
     subst he
     obtain ⟨e1,e2⟩:=h3.cells hvs
     obtain ⟨cv,hcv⟩:∃ cv,a.eval x=cv:=⟨_,rfl⟩
     rw [hcv,hvx] at h1
     cases h1 with
     | ref _ _ B cap hu hB hnb=>
      obtain ⟨B',cap',c,f1,⟨tt,f2⟩,f3,f4,f5⟩:=hm.blk nm _ hb
      rw [hB] at f1
      cases f1
      have hone:∀ v ∈ (a.eval y).cells.toList,v.oneCell'=true:=by
       intro v hv
       obtain ⟨j,hj,rfl⟩:=List.mem_iff_getElem.1 hv
       have hj':j < vs.length:=by simpa [e1] using hj
       have hr:=e2 j _ vs[j] (by rw [Array.getElem?_eq_getElem (by simpa using hj)]) (by rw [List.getElem?_eq_getElem hj'])
       simp only [List.all_eq_true] at c3
       exact oneCell_of_rep hr (c3 _ (List.getElem_mem hj'))
      have hlen:(a.eval y).cells.toList.length=vs.length:=by simpa using e1
      have hrun:=run_storeCells_at P B off tt (a.eval y).cells.toList 0 c w f2 (by rw [hlen];omega) hone
      have hcells:∀ (j:Nat) (v:Value) (z:V),(c.toList.take (off + 0) ++ (a.eval y).cells.toList ++ c.toList.drop (off + 0 + (a.eval y).cells.toList.length))[j]? = some v→(spliceV cs off vs)[j]? = some z→Rep E μ S.b S.u v z:=by
       intro j v z hv hz
       simp only [Nat.add_zero,spliceV] at hv hz
       rw [getElem?_splice _ _ _ _ (by rw [hlen];simp;omega)] at hv
       rw [getElem?_splice _ _ _ _ (by omega)] at hz
       rw [hlen] at hv
       by_cases a1:j < off
       ·rw [if_pos a1] at hv hz
        exact f4 j v z (by simpa using hv) hz
       ·rw [if_neg a1] at hv hz
        by_cases a2:j < off + vs.length
        ·rw [if_pos a2] at hv hz
         exact e2 (j - off) v z (by simpa using hv) hz
        ·rw [if_neg a2] at hv hz
         exact f4 j v z (by simpa using hv) hz
      have hchg:Chg E E μ μ S.b (setB S.b nm (.cells (spliceV cs off vs))) S.u S.u:=Chg.same (Env.le_refl E) (fun sz es sh h=>by rw [hb] at h;cases h) (fun _ _ _ _ h=>by cases h)
      refine ⟨E, μ,w.setRow B (c.toList.take (off + 0) ++ (a.eval y).cells.toList ++ c.toList.drop (off + 0 + (a.eval y).cells.toList.length)).toArray,undef,hchg,?_,.any _,.inr ⟨?_,rfl⟩⟩
      ·refine hm.step hchg hu (fun _ _=>rfl) B (fun C e h=>by rw [hB] at h;cases h;rfl) (.inl ⟨_,cap,hb,rfl,hB⟩) (fun j hj hlt=>setRow_other w B j _ hj) (by simp) rfl rfl rfl (fun _ _ _=>rfl) (fun _=>rfl) ?_ ?_
       ·intro o' v' hv'
        rw [f5 o'] at hv';cases hv'
       ·refine ⟨B,cap,_,hB,⟨tt,setRow_heap w B c _ tt (0,0) f2⟩,?_,fun j v z hv hz=>(hcells j v z (by simpa using hv) hz).chg hchg,f5⟩
        simp only [List.size_toArray,spliceV]
        rw [length_splice _ _ _ (by rw [hlen];simp;omega),length_splice _ _ _ (by omega)]
        simpa using f3
      ·simp only [execOp,ho,hcv,Instr.storeAt,Instr.sureAddr,storeVar,Sem.run_bind,Sem.run_pure,Result.andThen_ok,hsz]
       have:¬ ((a.eval y).cells.size ≠ i.size):=by omega
       simp only [this,if_false,Sem.run_bind,Sem.run_pure,Result.andThen_ok,hrun]
    ·cases he
   ·cases he
  ·cases he
 ·cases he
end
end Go.Abs
namespace Go.Abs
open Go.RowKit
section
variable {cfg:Cfg} {base:Base} {P:Program} {o:Oper} {a:Act} {w:World} {E:Env} {μ:Places} {S:St} {d:Nat} {r:V × Blks × List Nat}
theorem partsToP_sound:∀ (xs:List (Nat × V)) (vs:List (Nat × Value)) {E:Env} {b b':Blks} {u:List Nat} {k:Nat} {es:List Abs.P},Mem cfg base E μ b u w→vs.length=xs.length →
  (∀ (i:Nat) p q,vs[i]? = some p→xs[i]? = some q→p.1=q.1∧Rep E μ b u p.2 q.2)→partsToP b k xs=some (es,b') →
  ∃ E' ws,Chg E E' μ μ b b' u u∧Mem cfg base E' μ b' u w∧vs=((ws:List Value).zipIdx k).map (fun p=>(p.2,p.1))∧ws.length=es.length∧∀ (i:Nat) (v:Value) (p:Abs.P),ws[i]? = some v→es[i]? = some p→RepP E' v p
 | [],[],E,b,b',u,k,es,hm,_,_,h=>by
  simp only [partsToP,Option.some.injEq,Prod.mk.injEq] at h
  obtain ⟨rfl,rfl⟩:=h
  exact ⟨E,[],Chg.refl _ _ _ _,hm,rfl,rfl,fun i v p h=>by simp at h⟩
 | [],_ :: _,_,_,_,_,_,_,_,hl,_,_=>by simp at hl
 | _ :: _,[],_,_,_,_,_,_,_,hl,_,_=>by simp at hl
 | (j,x) :: xr,(i,v) :: vr,E,b,b',u,k,es,hm,hl,hr,h=>by
  simp only [partsToP] at h
  have h0:i=j∧Rep E μ b u v x:=hr 0 (i,v) (j,x) rfl rfl
  obtain ⟨rfl,hvx⟩:=h0
  split at h
  ·rename_i hk
   subst hk
   split at h
   ·rename_i y b₁ hy
    split at h
    ·rename_i ys b₂ hys
     simp only [Option.some.injEq,Prod.mk.injEq] at h
     obtain ⟨rfl,rfl⟩:=h
     obtain ⟨E₁,h1,h2,h3⟩:=toP_sound x hm hvx hy
     obtain ⟨E₂,ws,g1,g2,g3,g4,g5⟩:=partsToP_sound xr vr h2 (by simpa using hl) (fun i p q hp hq=>⟨(hr (i + 1) p q hp hq).1,((hr (i + 1) p q hp hq).2).chg h1⟩) hys
     refine ⟨E₂,v :: ws,h1.trans g1,g2,by simp [g3],by simp [g4],fun i v' p hv hp=>?_⟩
     cases i with
     | zero=>simp at hv hp;subst hv;subst hp;exact h3.mono g1.env
     | succ i=>exact g5 i v' p hv hp
    ·cases h
   ·cases h
  ·cases h
theorem repP_cells {E:Env} {v:Value} {x:Abs.P} (r:RepP E v x):v.cells.size=x.cells.length∧∀ (j:Nat) (y:Abs.P),x.cells[j]? = some y→∃ c,v.cells[j]? = some c∧RepP E c y:=by
 have:=(Rep.p (E:=E) (μ:=fun _=>none) (b:=[]) (u:=[]) v x r).cells (cs:=x.cells.map .p) (by simp [V.cells])
 refine ⟨by simpa using this.1,fun j y hj=>?_⟩
 have hlt:j < v.cells.size:=by
  rw [this.1,List.length_map]
  rcases Nat.lt_or_ge j x.cells.length with h | h
  ·exact h
  ·simp [List.getElem?_eq_none h] at hj
 exact ⟨v.cells[j],by simp [hlt],(this.2 j _ (.p y) (by simp [hlt]) (by simp [hj])).inv_p⟩
theorem fill_rows (sz:Nat):∀ (vs:List Value) (k:Nat) (cur:Array Value),(∀ v ∈ vs,v.cells.size=sz)→(k + vs.length) * sz ≤ cur.size →
  ∃ cells,Instr.fill (fun i=>some (i * sz,sz)) cur ((vs.zipIdx k).map (fun p=>(p.2,p.1)))=some cells∧cells.size=cur.size∧(∀ p,p < k * sz→cells[p]? = cur[p]?) ∧
   ∀ (i:Nat) (v:Value),vs[i]? = some v→∀ j,j < sz→cells[(k + i) * sz + j]? = v.cells[j]?
 | [],k,cur,_,_=>⟨cur,rfl,rfl,fun _ _=>rfl,fun i v h=>by simp at h⟩
 | v :: r,k,cur,hs,hl=>by
  have hv:=hs v (by simp)
  simp only [List.length_cons] at hl
  have hkk:k * sz + sz ≤ cur.size:=by
   have:(k + 1) * sz ≤ (k + (r.length + 1)) * sz:=Nat.mul_le_mul_right _ (by omega)
   rw [Nat.add_mul,Nat.one_mul] at this
   omega
  have key:=foldl_set (k * sz) v.cells.toList 0 cur (by simp [hv];omega)
  have e1:(v.cells.zipIdx.foldl (fun cs (p:Value × Nat)=>cs.setIfInBounds (k * sz + p.2) p.1) cur)=(cur.toList.take (k * sz) ++ v.cells.toList ++ cur.toList.drop (k * sz + v.cells.toList.length)).toArray:=by
   apply Array.ext'
   rw [← Array.foldl_toList,Array.toList_zipIdx]
   simpa using key
  have hsz':(cur.toList.take (k * sz) ++ v.cells.toList ++ cur.toList.drop (k * sz + v.cells.toList.length)).length=cur.size:=by
   rw [length_splice _ _ _ (by simp [hv];omega)];simp
  obtain ⟨cells,g1,g2,g3,g4⟩:=fill_rows sz r (k + 1) (cur.toList.take (k * sz) ++ v.cells.toList ++ cur.toList.drop (k * sz + v.cells.toList.length)).toArray (fun x hx=>hs x (by simp [hx]))
   (by rw [List.size_toArray,hsz'];rw [show k + 1 + r.length=k + (r.length + 1) by omega];exact hl)
  have hk1:(k + 1) * sz=k * sz + sz:=by rw [Nat.add_mul,Nat.one_mul]
  refine ⟨cells,?_,by rw [g2,List.size_toArray,hsz'],?_,?_⟩
  ·simp only [List.zipIdx_cons,List.map_cons,Instr.fill]
   rw [if_neg (by simp [hv];omega),e1]
   exact g1
  ·intro p hp
   rw [g3 p (by omega),List.getElem?_toArray,getElem?_splice _ _ _ _ (by simp [hv];omega),if_pos hp]
   simp
  ·intro i v' hv' j hj
   cases i with
   | zero=>
    simp at hv'
    subst hv'
    rw [Nat.add_zero,g3 (k * sz + j) (by omega),List.getElem?_toArray,getElem?_splice _ _ _ _ (by simp [hv];omega),if_neg (by omega),if_pos (by simp [hv];omega)]
    rw [show k * sz + j - k * sz=j by omega]
    simp
   | succ i=>
    have:=g4 i v' hv' j hj
    rw [show k + (i + 1)=k + 1 + i by omega]
    exact this
theorem new_arr (hm:Mem cfg base E μ S.b S.u w) {w₁:World} {n:Nat} {u':List Nat} {sz:Nat} {es es₀:List Abs.P} {sh sh₀:Bool} {c:Array Value} {cap:Nat} {t:TypeId}
  (hn:(n ∉ S.u∧u'=n :: S.u∧sh=false) ∨ (n ∈ S.u∧u'=S.u∧getB S.b n=some (.arr sz es₀ sh)∧es₀.length < es.length))
  (hw:∀ j,j < w.heap.size→w₁.heap[j]? = w.heap[j]?) (hsz₁:w₁.heap.size=w.heap.size) (hos:w₁.os=w.os) (htape:w₁.tape=w.tape) (hout:w₁.output=w.output)
  (hlim:es.length ≤ 4294967296) (hok:∀ (i:Nat) (x:Abs.P),es[i]? = some x→x.cells.length=sz) (hcap:cap * sz=c.size) (hle:es.length ≤ cap)
  (hel:∀ (i:Nat) (x:Abs.P),es[i]? = some x→∀ (j:Nat) (y:Abs.P),x.cells[j]? = some y→∃ v,c[i * sz + j]? = some v∧RepP E v y) :
  ∃ E' μ',Chg E E' μ μ' S.b (setB S.b n (.arr sz es sh)) S.u u'∧Mem cfg base E' μ' (setB S.b n (.arr sz es sh)) u' (w₁.alloc (.cells c t)) ∧
   Rep E' μ' (setB S.b n (.arr sz es sh)) u' (.slice (some ⟨w.heap.size,0,none⟩) es.length cap) (.own n es.length):=by
 have hnew:(w₁.alloc (.cells c t)).heap[w.heap.size]? = some (.cells c t):=by
  show (w₁.heap.push _)[w.heap.size]? = _
  rw [← hsz₁];simp
 have hE:∀ o,E.cell w.heap.size o=none:=by
  intro o
  cases h:E.cell w.heap.size o with
  | none=>rfl
  | some v'=>exact (Nat.lt_irrefl _ (lt_of_cell (hm.cell _ _ _ h))).elim
 have hin:∀ (i:Nat) (x:Abs.P),es[i]? = some x→∀ (j:Nat) (y:Abs.P),x.cells[j]? = some y→i * sz + j < es.length * sz:=by
  intro i x hi j y hj
  have e1:i < es.length:=by
   rcases Nat.lt_or_ge i es.length with h | h
   ·exact h
   ·simp [List.getElem?_eq_none h] at hi
  have e2:j < x.cells.length:=by
   rcases Nat.lt_or_ge j x.cells.length with h | h
   ·exact h
   ·simp [List.getElem?_eq_none h] at hj
  rw [hok i x hi] at e2
  calc i * sz + j < i * sz + sz:=by omega
   _=(i + 1) * sz:=by rw [Nat.add_mul,Nat.one_mul]
   _ ≤ es.length * sz:=Nat.mul_le_mul_right _ e1
 let E':Env:=if sh=true then E.prom w.heap.size c (es.length * sz) else E
 have hle':E.le E':=by
  simp only [E']
  split
  ·exact Env.le_prom fun o v hv=>by rw [hE o] at hv;cases hv
  ·exact Env.le_refl E
 let μ':Places:=fun m=>if m=n then some (w.heap.size,cap) else μ m
 have hμ:∀ m,m ≠ n→μ' m = μ m:=fun m hmn=>by simp [μ',hmn]
 have hμn:μ' n=some (w.heap.size,cap):=by simp [μ']
 have hchg:Chg E E' μ μ' S.b (setB S.b n (.arr sz es sh)) S.u u':=by
  rcases hn with ⟨h1,h2,h3⟩ | ⟨h1,h2,h3,h4⟩
  ·subst h2;exact Chg.fresh hle' h1 hμ
  ·subst h2;exact Chg.grow hle' h3 (by omega) hμ (fun e=>by omega)
 have hnu:n ∈ u':=by
  rcases hn with ⟨h1,h2,h3⟩ | ⟨h1,h2,h3,h4⟩
  ·subst h2;simp
  ·subst h2;exact h1
 have hother:∀ C o,C ≠ w.heap.size→E'.cell C o=E.cell C o:=by
  intro C o h
  simp only [E']
  split <;> simp [Env.prom,h]
 refine ⟨E', μ',hchg,?_,?_⟩
 ·refine hm.step hchg hnu hμ w.heap.size (fun C e h=>by rw [hμn] at h;cases h;rfl) (.inr (Nat.le_refl _)) ?_ (by simp [hsz₁]) hos htape hout hother (fun C=>by simp only [E'];split <;> rfl) ?_ ?_ (fun C=>by simp only [E'];split <;> rfl)
  ·intro j hj hlt
   rw [Below.heap_alloc w₁ _ j (by omega)]
   exact hw j hlt
  ·intro o v hv
   have hc':=cell_of_blockAt (w:=w₁.alloc (.cells c t)) ⟨t,hnew⟩ o
   rw [hc']
   simp only [E'] at hv
   split at hv
   ·simp only [Env.prom,if_true] at hv
    split at hv
    ·exact hv
    ·cases hv
   ·rw [hE o] at hv;cases hv
  ·refine ⟨⟨hlim,hok⟩,.inr ⟨w.heap.size,cap,c,hμn,⟨t,hnew⟩,hcap,hle,fun i x hi j y hj=>?_,fun o ho=>?_⟩⟩
   ·obtain ⟨v,h1,h2⟩:=hel i x hi j y hj
    refine ⟨v,h1,h2.mono hle',fun e=>?_⟩
    simp only [E',e,if_true,Env.prom]
    rw [if_pos (hin i x hi j y hj),h1]
   ·simp only [E']
    split
    ·rename_i e
     simp only [Env.prom,if_true]
     rw [if_neg (by have:=ho e;omega)]
    ·exact hE o
 ·refine .own _ n es.length sz es sh hnu (by rw [getB_setB,if_pos rfl]) rfl (Nat.le_refl _) fun _=>?_
  simp only [cur,hμn]
theorem does_buildSlice (hc:CfgOk cfg P) (hm:Mem cfg base E μ S.b S.u w) (ht:Tm E μ S a) {t:TypeId} {len:Nat} {parts:Array (Nat × Operand)} (ho:o.op = .buildSlice t len parts) (he:evalOp cfg d (.buildSlice t len parts) S=some r) :
  Does cfg base P o a w E μ S.b S.u r:=by
 simp only [evalOp] at he
 split at he
 ·rename_i e _ _ _ _ hi
  have hu:=run_underlying_slice hc hi rfl w
  split at he
  ·rename_i i hie
   have hsz:=hc.run_sizeOf (w:=w) hie
   split at he
   ·rename_i es b hps
    split at he
    ·cases he
    ·rename_i hd
     split at he
     ·rename_i hcond
      obtain ⟨c1,c2,c3,c4⟩:=hcond
      simp only [Option.some.injEq] at he
      subst he
      obtain ⟨E₁,ws,k1,k2,k3,k4,k5⟩:=partsToP_sound (μ:=μ) (parts.toList.map fun (i,x)=>(i,opnd S.t x)) (parts.toList.map fun (i,x)=>(i,a.eval x)) hm (by simp)
       (fun i p q hp hq=>by
        simp only [List.getElem?_map,Option.map_eq_some_iff] at hp hq
        obtain ⟨y,hy,rfl⟩:=hp
        obtain ⟨y',hy',rfl⟩:=hq
        rw [hy] at hy'
        cases hy'
        exact ⟨rfl,rep_opnd ht _⟩) hps
      have hz:∃ zero:Array Value,(len * i.size=0∧zero = #[]) ∨ (¬ len * i.size=0∧∃ z,(zeroValue e).run P w = .ok z w∧zero=z.cells):=by
       by_cases h0:len * i.size=0
       ·exact ⟨#[],.inl ⟨h0,rfl⟩⟩
       ·obtain ⟨z,z1,_⟩:=hc.run_zeroValue (w:=w) hie
        exact ⟨z.cells,.inr ⟨h0,z,z1,rfl⟩⟩
      obtain ⟨zero,hzero⟩:=hz
      have hcs:∀ v ∈ ws,v.cells.size=i.size:=by
       intro v hv
       obtain ⟨j,hj,rfl⟩:=List.mem_iff_getElem.1 hv
       have hj':j < es.length:=by omega
       have hr:=k5 j ws[j] es[j] (by simp) (by simp)
       rw [(repP_cells hr).1]
       exact (sizesOk_get c2 (i:=j) (by simp)).1
      obtain ⟨cells,g1,g2,g3,g4⟩:=fill_rows i.size ws 0 ((Array.range (len * i.size)).map (zero[· % zero.size]!)) hcs (by simp;rw [k4,c1];exact Nat.le_refl _)
      obtain ⟨E₂, μ₂,q1,q2,q3⟩:=new_arr (S:=⟨S.t,b,S.u⟩) (es₀:=[]) (sh₀:=false) k2 (w₁:=w) (n:=d) (u':=d :: S.u) (sz:=i.size) (es:=es) (sh:=false) (c:=cells) (cap:=len) (t:=e) (.inl ⟨hd,rfl,rfl⟩) (fun _ _=>rfl) rfl rfl rfl rfl (by omega) (fun j x hx=>(sizesOk_get c2 hx).1)
       (by rw [g2];simp) (by omega) (fun j x hx q y hy=>by
        have hj':j < ws.length:=by
         rw [k4]
         rcases Nat.lt_or_ge j es.length with h | h
         ·exact h
         ·simp [List.getElem?_eq_none h] at hx
        have hr:=k5 j ws[j] x (by simp [hj']) hx
        obtain ⟨cv,e1,e2⟩:=(repP_cells hr).2 q y hy
        refine ⟨cv,?_,e2⟩
        have hq:q < i.size:=by
         rw [← (sizesOk_get c2 hx).1]
         rcases Nat.lt_or_ge q x.cells.length with h | h
         ·exact h
         ·simp [List.getElem?_eq_none h] at hy
        have:=g4 j ws[j] (by simp [hj']) q hq
        rw [Nat.zero_add] at this
        rw [this,e1])
      rw [c1] at q3
      refine ⟨E₂, μ₂,_,_,k1.trans q1,q2,q3,.inl ?_⟩
      have hbound:¬ (2 ^ 24 < len * i.size):=by
       have:len * i.size ≤ 1000 * 1000:=Nat.mul_le_mul c3 c4
       omega
      have hparts:(parts.map fun (i,x)=>(i,a.eval x)).toList=(ws.zipIdx 0).map (fun p=>(p.2,p.1)):=by
       rw [← k3];simp
      simp only [execOp,ho,Instr.buildSlice,Sem.run_bind,hu,Result.andThen_ok,hsz]
      rw [if_neg hbound]
      rcases hzero with ⟨h0,rfl⟩ | ⟨h0,z,z1,rfl⟩
      ·rw [if_pos h0]
       simp only [Sem.run_bind,Sem.run_pure,Result.andThen_ok,hparts,g1,newRow,run_newObj]
       rfl
      ·rw [if_neg h0]
       simp only [Sem.run_bind,Sem.run_pure,Result.andThen_ok,z1,hparts,g1,newRow,run_newObj]
       rfl
     ·cases he
   ·cases he
  ·cases he
 ·cases he
end
end Go.Abs
