/- Part of a proof: Cfg Spec Ev Ev2 Maps SpecB SpecC SpecD Q1 Q2 Q3 Rounds. -/
import Derived.Laws.StructEq
import Derived.MapKept
import Derived.Test.YtgiedlcjlalpcaaGreatPb03
import Derived.Test.YtgiedlcjlalpcaaGreatPb04
import Derived.Test.YtgiedlcjlalpcaaGreatPb05
set_option linter.all false
namespace Go.Proofs.YtgiedlcjlalpcaaGreat
open Go.Abs
section eq
variable {P:Program} {d:Nat} {xs ys:Array Value} {f:Field} {fs:List Field} {a b:Value} {r s:Bool} {w:World}
theorem eqf_cons (hn:(f.name == "_")=false) (ha:(part f.type xs f.offset).run P w = .ok a w) (hb:(part f.type ys f.offset).run P w = .ok b w) (he:(Op.equalIn d f.type a b).run P w = .ok r w) (hr:(Op.eqFields d xs ys fs).run P w = .ok s w) :
  (Op.eqFields d xs ys (f :: fs)).run P w = .ok (r && s) w:=by
 have hn':f.name ≠ "_":=by simpa using hn
 rw [Op.eqFields]
 simp only [if_pos hn',Sem.run_bind,ha,hb,he,Result.andThen_ok]
 cases r
 ·simp
 ·simpa using hr
theorem eqf_nil:(Op.eqFields d xs ys []).run P w = .ok true w:=by simp [Op.eqFields]
theorem eqA_of {t:TypeId} {fs:Array Field} (hu:P.underlying t=some (.struct fs)) (hp:P.stoodInHeld t=false) (h:(Op.eqFields d xs ys fs.toList).run P w = .ok r w):(Op.equalIn (d + 1) t (.agg xs) (.agg ys)).run P w = .ok r w:=by
 have hf:P.fieldsOf t=fs:=by simp [Program.fieldsOf,hu]
 rw [run_equalIn_struct (P:=P) w d t xs ys (by rw [hf];exact hu) hp,hf]
 exact h
theorem eqI {t:TypeId} {k:IntKind} (hu:P.underlying t=some (.int k)) (x y:Int):(Op.equalIn (d + 1) t (.int k x) (.int k y)).run P w = .ok (x == y) w:=by
 rw [Op.equalIn];simp [run_underlying hu]
theorem eqB {t:TypeId} (hu:P.underlying t=some .bool) (x y:Bool):(Op.equalIn (d + 1) t (.bool x) (.bool y)).run P w = .ok (x == y) w:=by
 rw [Op.equalIn];simp [run_underlying hu]
theorem eqS {t:TypeId} (hu:P.underlying t=some .string) (x y:ByteArray):(Op.equalIn (d + 1) t (.string x) (.string y)).run P w = .ok (x == y) w:=by
 rw [Op.equalIn];simp [run_underlying hu]
theorem partI {t:TypeId} {k:IntKind} (hu:P.underlying t=some (.int k)) {o:Nat} {v:Value} (h:xs[o]? = some v):(part t xs o).run P w = .ok v w:=by
 simp [part,isAgg,run_underlying hu,h]
theorem partB {t:TypeId} (hu:P.underlying t=some .bool) {o:Nat} {v:Value} (h:xs[o]? = some v):(part t xs o).run P w = .ok v w:=by
 simp [part,isAgg,run_underlying hu,h]
theorem partS {t:TypeId} (hu:P.underlying t=some .string) {o:Nat} {v:Value} (h:xs[o]? = some v):(part t xs o).run P w = .ok v w:=by
 simp [part,isAgg,run_underlying hu,h]
end eq
theorem eq25 (d:Nat) (w:World) (a b x y:Int) (s t:ByteArray):(Op.equalIn (d + 2) 25 (.agg #[.int .i64 a,.int .i64 b,.string s]) (.agg #[.int .i64 x,.int .i64 y,.string t])).run Tryz.prog w = .ok (a == x && (b == y && (s == t && true))) w:=by
 refine eqA_of Tryz.underlying25 (by kernel_rfl) ?_
 refine eqf_cons (by rfl) (partI Tryz.underlying23 rfl) (partI Tryz.underlying23 rfl) (eqI Tryz.underlying23 _ _) ?_
 refine eqf_cons (by rfl) (partI Tryz.underlying2 rfl) (partI Tryz.underlying2 rfl) (eqI Tryz.underlying2 _ _) ?_
 exact eqf_cons (by rfl) (partS Tryz.underlying9 rfl) (partS Tryz.underlying9 rfl) (eqS Tryz.underlying9 _ _) eqf_nil
theorem eq57 (d:Nat) (w:World) (a x:Int) (b y:Bool):(Op.equalIn (d + 2) 57 (.agg #[.int .i64 a,.bool b]) (.agg #[.int .i64 x,.bool y])).run Tryz.prog w = .ok (a == x && (b == y && true)) w:=by
 refine eqA_of Tryz.underlying57 (by kernel_rfl) ?_
 refine eqf_cons (by rfl) (partI Tryz.underlying23 rfl) (partI Tryz.underlying23 rfl) (eqI Tryz.underlying23 _ _) ?_
 exact eqf_cons (by rfl) (partB Tryz.underlying4 rfl) (partB Tryz.underlying4 rfl) (eqB Tryz.underlying4 _ _) eqf_nil
theorem sizeOf25 (w:World):(sizeOf 25).run Tryz.prog w = .ok 3 w:=by
 have h:(Tryz.prog.info? 25).map (·.size)=some 3:=by kernel_rfl
 cases hi:Tryz.prog.info? 25 with
 | none=>rw [hi] at h;cases h
 | some i=>rw [hi] at h;simp only [Option.map_some,Option.some.injEq] at h;simp [sizeOf,typeInfo,hi,h]
theorem eq204 (d:Nat) (w:World) (a b x y:Int) (s t:ByteArray) (p q:Bool):(Op.equalIn (d + 3) 204 (.agg #[.int .i64 a,.int .i64 b,.string s,.bool p]) (.agg #[.int .i64 x,.int .i64 y,.string t,.bool q])).run Tryz.prog w =
  .ok ((a == x && (b == y && (s == t && true))) && (p == q && true)) w:=by
 refine eqA_of Tryz.underlying204 (by kernel_rfl) ?_
 have h1:(part 25 #[.int .i64 a,.int .i64 b,.string s,.bool p] 0).run Tryz.prog w = .ok (.agg #[.int .i64 a,.int .i64 b,.string s]) w:=by
  simp [part,isAgg,run_underlying Tryz.underlying25,sizeOf25]
 have h2:(part 25 #[.int .i64 x,.int .i64 y,.string t,.bool q] 0).run Tryz.prog w = .ok (.agg #[.int .i64 x,.int .i64 y,.string t]) w:=by
  simp [part,isAgg,run_underlying Tryz.underlying25,sizeOf25]
 refine eqf_cons (by rfl) h1 h2 (eq25 d w a b x y s t) ?_
 exact eqf_cons (by rfl) (partB Tryz.underlying4 rfl) (partB Tryz.underlying4 rfl) (eqB Tryz.underlying4 _ _) eqf_nil
theorem eqCells_nil {ps qs:List P} {r:Bool} (h:eqCells [] ps qs=some r):ps=[]∧qs=[]∧r=true:=by
 cases ps <;> cases qs <;> simp_all [eqCells]
theorem eqCells_int {k:IntKind} {ks:List TK} {ps qs:List P} {r:Bool} (h:eqCells (.int k :: ks) ps qs=some r):∃ a b ps' qs' r',ps = .int k a :: ps'∧qs = .int k b :: qs'∧eqCells ks ps' qs'=some r'∧r=(a == b && r'):=by
 cases ps with
 | nil=>simp [eqCells] at h
 | cons x xs=>cases qs with
  | nil=>simp [eqCells] at h
  | cons y ys=>
   cases x <;> cases y <;> simp only [eqCells,reduceCtorEq] at h
   split at h
   ·rename_i hk
    obtain ⟨rfl,rfl⟩:=hk
    simp only [Option.map_eq_some_iff] at h
    obtain ⟨r',h1,h2⟩:=h
    exact ⟨_,_,_,_,r',rfl,rfl,h1,h2.symm⟩
   ·cases h
theorem eqCells_bool {ks:List TK} {ps qs:List P} {r:Bool} (h:eqCells (.bool :: ks) ps qs=some r):∃ a b ps' qs' r',ps = .bool a :: ps'∧qs = .bool b :: qs'∧eqCells ks ps' qs'=some r'∧r=(a == b && r'):=by
 cases ps with
 | nil=>simp [eqCells] at h
 | cons x xs=>cases qs with
  | nil=>simp [eqCells] at h
  | cons y ys=>
   cases x <;> cases y <;> simp only [eqCells,reduceCtorEq] at h
   simp only [Option.map_eq_some_iff] at h
   obtain ⟨r',h1,h2⟩:=h
   exact ⟨_,_,_,_,r',rfl,rfl,h1,h2.symm⟩
theorem eqCells_str {ks:List TK} {ps qs:List P} {r:Bool} (h:eqCells (.str :: ks) ps qs=some r):∃ a b ps' qs' r',ps = .str a :: ps'∧qs = .str b :: qs'∧eqCells ks ps' qs'=some r'∧r=(a == b && r'):=by
 cases ps with
 | nil=>simp [eqCells] at h
 | cons x xs=>cases qs with
  | nil=>simp [eqCells] at h
  | cons y ys=>
   cases x <;> cases y <;> simp only [eqCells,reduceCtorEq] at h
   simp only [Option.map_eq_some_iff] at h
   obtain ⟨r',h1,h2⟩:=h
   exact ⟨_,_,_,_,r',rfl,rfl,h1,h2.symm⟩
theorem inv_int {E:Env} {v:Value} {k:IntKind} {n:Int} (h:RepP E v (.int k n)):v = .int k n:=by cases h;rfl
theorem inv_bool {E:Env} {v:Value} {b:Bool} (h:RepP E v (.bool b)):v = .bool b:=by cases h;rfl
theorem inv_str {E:Env} {v:Value} {s:ByteArray} (h:RepP E v (.str s)):v = .string s:=by cases h;rfl
theorem inv_cons {E:Env} {vs:List Value} {p:P} {ps:List P} (hl:vs.length=(p :: ps).length) (h:∀ (i:Nat) (v:Value) (q:P),vs[i]? = some v→(p :: ps)[i]? = some q→RepP E v q) :
  ∃ v vs',vs=v :: vs'∧RepP E v p∧vs'.length=ps.length∧∀ (i:Nat) (v:Value) (q:P),vs'[i]? = some v→ps[i]? = some q→RepP E v q:=by
 cases vs with
 | nil=>simp at hl
 | cons v vs'=>exact ⟨v,vs',rfl,h 0 v p rfl rfl,by simpa using hl,fun i v q hv hq=>h (i + 1) v q hv hq⟩
theorem eqOk_of {t:TypeId} {ks:List TK} (hg:∀ w x y q xs ys,(eqGuard q t x y (.agg xs) (.agg ys)).run Tryz.prog w = .ok () w)
  (h:∀ (w:World) (E:Env) (xs ys:List Value) (ps qs:List P) (r:Bool),RepP E (.agg xs.toArray) (.agg ps)→RepP E (.agg ys.toArray) (.agg qs)→eqCells ks ps qs=some r→(Op.equal t (.agg xs.toArray) (.agg ys.toArray)).run Tryz.prog w = .ok r w):EqOk Tryz.prog t ks:=by
 intro w E xs ys ps qs r x y h1 h2 h3
 have:=h w E xs ys ps qs r h1 h2 h3
 exact ⟨by simp only [Sem.run_bind,hg,Result.andThen_ok,this],by simp only [Sem.run_bind,hg,Result.andThen_ok,this]⟩
theorem run_eqGuard {t:TypeId} (h:Tryz.prog.eqGuardType Tryz.prog.depth t=false) (w:World) (x y:Operand) (q:BinOp) (xs ys:Array Value):(eqGuard q t x y (.agg xs) (.agg ys)).run Tryz.prog w = .ok () w:=by
 unfold eqGuard
 cases q <;> simp [h]
theorem eqOk25:EqOk Tryz.prog 25 [.int .i64,.int .i64,.str]:=by
 refine eqOk_of (run_eqGuard (by kernel_rfl)) ?_
 intro w E xs ys ps qs r h1 h2 h
 obtain ⟨a,x,ps1,qs1,r1,rfl,rfl,k1,rfl⟩:=eqCells_int h
 obtain ⟨b,y,ps2,qs2,r2,rfl,rfl,k2,rfl⟩:=eqCells_int k1
 obtain ⟨s,t,ps3,qs3,r3,rfl,rfl,k3,rfl⟩:=eqCells_str k2
 obtain ⟨rfl,rfl,rfl⟩:=eqCells_nil k3
 obtain ⟨_,e1,l1,g1⟩:=repP_inv_agg h1
 obtain ⟨_,e2,l2,g2⟩:=repP_inv_agg h2
 rw [e1,e2]
 obtain ⟨_,_,rfl,q1,l1,g1⟩:=inv_cons l1 g1
 obtain ⟨_,_,rfl,q2,l1,g1⟩:=inv_cons l1 g1
 obtain ⟨_,_,rfl,q3,l1,g1⟩:=inv_cons l1 g1
 obtain ⟨_,_,rfl,q4,l2,g2⟩:=inv_cons l2 g2
 obtain ⟨_,_,rfl,q5,l2,g2⟩:=inv_cons l2 g2
 obtain ⟨_,_,rfl,q6,l2,g2⟩:=inv_cons l2 g2
 obtain rfl:=List.eq_nil_of_length_eq_zero l1
 obtain rfl:=List.eq_nil_of_length_eq_zero l2
 rw [inv_int q1,inv_int q2,inv_str q3,inv_int q4,inv_int q5,inv_str q6]
 exact eq25 9998 w _ _ _ _ _ _
theorem eqOk57:EqOk Tryz.prog 57 [.int .i64,.bool]:=by
 refine eqOk_of (run_eqGuard (by kernel_rfl)) ?_
 intro w E xs ys ps qs r h1 h2 h
 obtain ⟨a,x,ps1,qs1,r1,rfl,rfl,k1,rfl⟩:=eqCells_int h
 obtain ⟨b,y,ps2,qs2,r2,rfl,rfl,k2,rfl⟩:=eqCells_bool k1
 obtain ⟨rfl,rfl,rfl⟩:=eqCells_nil k2
 obtain ⟨_,e1,l1,g1⟩:=repP_inv_agg h1
 obtain ⟨_,e2,l2,g2⟩:=repP_inv_agg h2
 rw [e1,e2]
 obtain ⟨_,_,rfl,q1,l1,g1⟩:=inv_cons l1 g1
 obtain ⟨_,_,rfl,q2,l1,g1⟩:=inv_cons l1 g1
 obtain ⟨_,_,rfl,q4,l2,g2⟩:=inv_cons l2 g2
 obtain ⟨_,_,rfl,q5,l2,g2⟩:=inv_cons l2 g2
 obtain rfl:=List.eq_nil_of_length_eq_zero l1
 obtain rfl:=List.eq_nil_of_length_eq_zero l2
 rw [inv_int q1,inv_bool q2,inv_int q4,inv_bool q5]
 exact eq57 9998 w _ _ _ _
theorem eqOk204:EqOk Tryz.prog 204 [.int .i64,.int .i64,.str,.bool]:=by
 refine eqOk_of (run_eqGuard (by kernel_rfl)) ?_
 intro w E xs ys ps qs r h1 h2 h
 obtain ⟨a,x,ps1,qs1,r1,rfl,rfl,k1,rfl⟩:=eqCells_int h
 obtain ⟨b,y,ps2,qs2,r2,rfl,rfl,k2,rfl⟩:=eqCells_int k1
 obtain ⟨s,t,ps3,qs3,r3,rfl,rfl,k3,rfl⟩:=eqCells_str k2
 obtain ⟨p,q,ps4,qs4,r4,rfl,rfl,k4,rfl⟩:=eqCells_bool k3
 obtain ⟨rfl,rfl,rfl⟩:=eqCells_nil k4
 obtain ⟨_,e1,l1,g1⟩:=repP_inv_agg h1
 obtain ⟨_,e2,l2,g2⟩:=repP_inv_agg h2
 rw [e1,e2]
 obtain ⟨_,_,rfl,q1,l1,g1⟩:=inv_cons l1 g1
 obtain ⟨_,_,rfl,q2,l1,g1⟩:=inv_cons l1 g1
 obtain ⟨_,_,rfl,q3,l1,g1⟩:=inv_cons l1 g1
 obtain ⟨_,_,rfl,q7,l1,g1⟩:=inv_cons l1 g1
 obtain ⟨_,_,rfl,q4,l2,g2⟩:=inv_cons l2 g2
 obtain ⟨_,_,rfl,q5,l2,g2⟩:=inv_cons l2 g2
 obtain ⟨_,_,rfl,q6,l2,g2⟩:=inv_cons l2 g2
 obtain ⟨_,_,rfl,q8,l2,g2⟩:=inv_cons l2 g2
 obtain rfl:=List.eq_nil_of_length_eq_zero l1
 obtain rfl:=List.eq_nil_of_length_eq_zero l2
 rw [inv_int q1,inv_int q2,inv_str q3,inv_bool q7,inv_int q4,inv_int q5,inv_str q6,inv_bool q8]
 have:=eq204 9997 w a b x y s t p q
 rw [show (a == x && (b == y && (s == t && (p == q && true))))=((a == x && (b == y && (s == t && true))) && (p == q && true)) by simp [Bool.and_assoc]]
 exact this
def fnP (g:FuncId):P:=.fn (.func g) [] []
def strictP (f:P):P:=.fn (.func 197) [] [.imm [f] 0]
def numbersP (g:FuncId):P:=strictP (.fn (.func 199) [] [.imm [fnP g] 0])
def orderP (g:FuncId):P:=strictP (.fn (.func 202) [] [.imm [fnP g] 0])
def partsP (g:FuncId):P:=strictP (.fn (.func 205) [] [.imm [fnP g] 0])
def doKs:List P:=([4,5,6,7,8,9,10,11,12,13,14,15,16,17,18,19,20,21,22,23,24,25]:List Int).map (.int .i64)
def doVs:List P:=[numbersP 206,numbersP 207,numbersP 208,partsP 209,partsP 210,strictP (fnP 211),strictP (fnP 212),strictP (fnP 213),orderP 214,orderP 215,orderP 216,orderP 217,orderP 218,orderP 219,
 fnP 264,fnP 265,fnP 267,fnP 269,fnP 271,fnP 272,fnP 273,fnP 274]
def doP:P:=.imap doKs doVs
def stepFs:List FuncId:=[142,143,144,145,146,147,148,149,150,151,152,153]
def logicP (c:P):P:=.obj 0 [c] 0
def stepPs (c:P):List P:=stepFs.map fun g=>.fn (.func g) [logicP c] []
def objOf (tag:Nat) (ps:List P):List P:=
 match tag,ps with
 | 0,[c]=>[c,.nilf,.nilf,doP,.lst (stepPs c)]
 | _,_=>[.nilp]
def isImp:FuncId→Bool
 | 108 | 164 | 259 | 260 | 232 | 233 | 275 | 196 | 198 | 201 | 204 | 220 | 116 | 171 | 172 | 188 | 190 | 191 | 192 | 255 | 257 | 285 | 286 | 287 | 288 | 289 | 290 | 292 | 293 | 296 | 297 | 298 | 299 | 300 | 301 | 302 | 303 | 313 | 316 | 317 | 318 | 319 | 320 | 324 | 325=>true
 | _=>false
def cfg:Cfg:={ ty:=tyOf,obj:=objOf,imp:=isImp }
theorem cfg_ty (t:TypeId):cfg.ty t=tyOf t:=rfl
theorem cfg_imp (g:FuncId):cfg.imp g=isImp g:=rfl
theorem eqs_none:tyTab.all (fun r=>r.2.eqs.isEmpty || r.1 == 25 || r.1 == 57 || r.1 == 204)=true:=by kernel_rfl
theorem cfg_ok:CfgOk cfg Tryz.prog:=by
 refine ⟨fun t i h=>tyOf_sound t i h,fun t i h he=>?_⟩
 have h':=h
 simp only [cfg_ty,tyOf,Option.map_eq_some_iff] at h'
 obtain ⟨r,hr,hri⟩:=h'
 have h1:=List.find?_some hr
 have h2:=List.all_eq_true.1 eqs_none r (List.mem_of_find?_eq_some hr)
 have h4:r.1=t:=by simpa using h1
 rw [hri,h4,he] at h2
 simp only [Bool.false_or,Bool.or_eq_true,beq_iff_eq] at h2
 rcases h2 with (rfl | rfl) | rfl
 ·rw [cfg_ty,ty25] at h;cases h;exact eqOk25
 ·rw [cfg_ty,ty57] at h;cases h;exact eqOk57
 ·rw [cfg_ty,ty204] at h;cases h;exact eqOk204
@[simp] theorem imp108:isImp 108=true:=rfl
@[simp] theorem imp114:isImp 114=false:=rfl
@[simp] theorem imp116:isImp 116=true:=rfl
@[simp] theorem imp163:isImp 163=false:=rfl
@[simp] theorem imp164:isImp 164=true:=rfl
@[simp] theorem imp171:isImp 171=true:=rfl
@[simp] theorem imp172:isImp 172=true:=rfl
@[simp] theorem imp175:isImp 175=false:=rfl
@[simp] theorem imp220:isImp 220=true:=rfl
@[simp] theorem imp232:isImp 232=true:=rfl
@[simp] theorem imp233:isImp 233=true:=rfl
@[simp] theorem imp250:isImp 250=false:=rfl
@[simp] theorem imp259:isImp 259=true:=rfl
@[simp] theorem imp260:isImp 260=true:=rfl
@[simp] theorem imp275:isImp 275=true:=rfl
end Go.Proofs.YtgiedlcjlalpcaaGreat
namespace Go.Proofs.YtgiedlcjlalpcaaGreat
open Go.Abs
abbrev w64 (n:Int):Int:=IntKind.wrap .i64 n
def litE (k:Int) (v:Val):Expr:=.mk 3 0 0 k v [] []
def boolW (b:Bool):Val:=⟨2,if b then 1 else 0,⟨#[]⟩⟩
def nullW:Val:=⟨0,0,⟨#[]⟩⟩
def intW (n:Int):Val:=⟨1,n,⟨#[]⟩⟩
def textW (s:ByteArray):Val:=⟨3,0,s⟩
def truthE (b:Bool):Expr:=litE 2 (boolW b)
def opE (op:Int) (args:List Expr):Expr:=.mk op 0 0 0 nullW args []
def colE (n:Int):Expr:=.mk 1 n 0 0 nullW [] []
def zeroE:Expr:=.mk 0 0 0 0 nullW [] []
def isLit (e:Expr):Bool:=e.op == 3
def isTrue (e:Expr):Bool:=e.op == 3 && e.lit == boolW true
def isFalse (e:Expr):Bool:=e.op == 3 && e.lit == boolW false
def isNull (e:Expr):Bool:=e.op == 3 && e.lit.kind == 0
def isV (e:Expr) (v:Val):Bool:=e.op == 3 && e.lit == v
def opposite (op:Int):Int:=if op == 12 then 13 else if op == 13 then 12 else if op == 14 then 17 else if op == 15 then 16 else if op == 16 then 15 else if op == 17 then 14 else 0
def exchanged (op:Int):Int:=if op == 14 then 16 else if op == 15 then 17 else if op == 16 then 14 else if op == 17 then 15 else op
def trueV (v:Val):Bool:=v.kind == 2 && v.int == 1
def notV (v:Val):Val:=if v.kind == 0 then v else boolW (v.int == 0)
def cmpI (a b:Int):Int:=if decide (a < b) then -1 else if decide (a > b) then 1 else 0
def cmpS (a b:ByteArray):Int:=if Op.bytesLess a.toList b.toList then -1 else if !(Op.bytesLess a.toList b.toList || a == b) then 1 else 0
def real (k:Int):Bool:=k == 1 || k == 2 || k == 3
def orL:List Int→Int
 | []=>0
 | a :: r=>if a == 0 then orL r else a
def orderV (v w:Val):Int:=orL [cmpI v.kind w.kind,cmpI v.int w.int,cmpS v.text w.text]
def divided (op x y:Int):Val:=
 if y == 0 then nullW else if y == -1 && op == 7 then intW (w64 (0 - x)) else if y == -1 then intW 0 else if op == 7 then intW (w64 (x.tdiv y)) else intW (x.tmod y)
def many (op n:Int):Bool:=
 if op == 9 || op == 11 || op == 21 || op == 22 || op == 23 then n == 1
 else if op == 19 || op == 20 || op == 25 then decide (n ≥ 2) && decide (n ≤ 16)
 else if op == 24 then decide (n ≥ 3) && (n.tmod 2 == 1 && decide (n ≤ 16))
 else decide (op ≥ 4) && (decide (op ≤ 18) && n == 2)
def idxOf {α:Type} (q:α→Bool):List α→Int→Int
 | [],_=>-1
 | a :: r,i=>if q a then i else idxOf q r (i + 1)
theorem idxOf_any {α:Type} (q:α→Bool):∀ (l:List α) (i:Int),0 ≤ i→decide (idxOf q l i ≥ 0)=l.any q
 | [],i,h=>by simp [idxOf]
 | a :: r,i,h=>by
  have:=idxOf_any q r (i + 1) (by omega)
  simp only [idxOf,List.any_cons]
  by_cases hq:q a=true
  ·simp [hq,h]
  ·simp only [hq];simpa using this
def eqL {α:Type} (q:α→α→Bool):List α→List α→Bool
 | [],[]=>true
 | a :: l,b :: m=>if q a b then eqL q l m else false
 | _,_=>false
theorem eqL_len {α:Type} {q:α→α→Bool}:∀ {l m:List α},l.length ≠ m.length→eqL q l m=false
 | [],[],h=>absurd rfl h
 | [],_ :: _,_=>rfl
 | _ :: _,[],_=>rfl
 | a :: l,b :: m,h=>by
  simp only [eqL]
  rw [eqL_len (l:=l) (m:=m) (by simpa using h)]
  simp
instance:Inhabited Expr:=⟨zeroE⟩
def eqLI {α:Type} [Inhabited α] (q:α→α→Bool) (m:List α) (i:Nat):List α→Bool
 | []=>true
 | a :: l=>if q a (m.getD i default) then eqLI q m (i + 1) l else false
theorem eqLI_eq {α:Type} [Inhabited α] (q:α→α→Bool) (m:List α):∀ (l:List α) (i:Nat),i + l.length=m.length→eqLI q m i l=eqL q l (m.drop i)
 | [],i,h=>by
  rw [List.drop_eq_nil_of_le (by simpa using Nat.le_of_eq h.symm)];rfl
 | a :: l,i,h=>by
  simp only [List.length_cons] at h
  have hi:i < m.length:=by omega
  rw [List.drop_eq_getElem_cons hi]
  simp only [eqLI,eqL,eqLI_eq q m l (i + 1) (by omega),List.getD_eq_getElem?_getD,List.getElem?_eq_getElem hi,Option.getD_some]
theorem eqLI_len {α:Type} [Inhabited α] {q:α→α→Bool} {l m:List α} (h:l.length=m.length):eqL q l m=eqLI q m 0 l:=by
 rw [eqLI_eq q m l 0 (by omega)];rfl
def mapA {α β:Type} (q:α→β) (acc:List β):List α→List β
 | []=>acc
 | a :: r=>mapA q (acc ++ [q a]) r
theorem mapA_eq {α β:Type} (q:α→β):∀ (l:List α) (acc:List β),mapA q acc l=acc ++ l.map q
 | [],acc=>by simp [mapA]
 | a :: r,acc=>by simp [mapA,mapA_eq q r]
theorem map_mapA {α β:Type} (q:α→β) (l:List α):l.map q=mapA q [] l:=by simp [mapA_eq]
def copyA {α:Type} (acc:List α):List α→List α
 | []=>acc
 | a :: r=>copyA (acc ++ [a]) r
theorem copyA_eq' {α:Type}:∀ (l acc:List α),copyA acc l=acc ++ l
 | [],acc=>by simp [copyA]
 | a :: r,acc=>by simp [copyA,copyA_eq' r]
def badByte (c:UInt8):Bool:=decide ((c.toNat:Int) < 32) || decide ((c.toNat:Int) > 126)
def printFrom (s:ByteArray) (i:Nat):Bool:=
 if h:i < s.size then (if badByte s[i] then false else printFrom s (i + 1)) else true
termination_by s.size - i
theorem printFrom_eq (s:ByteArray) (i:Nat):printFrom s i=if h:i < s.size then (if badByte s[i] then false else printFrom s (i + 1)) else true:=by rw [printFrom]
def printable (s:ByteArray):Bool:=printFrom s 0
def noText (s:ByteArray):Bool:=s == (⟨#[]⟩:ByteArray)
def rightV (v:Val):Bool:=
 if v.kind == 0 then v.int == 0 && noText v.text else if v.kind == 1 then noText v.text else if v.kind == 2 then (v.int == 0 || v.int == 1) && noText v.text
 else if v.kind == 3 then (v.int == 0 && decide ((v.text.size:Int) ≤ 200)) && printable v.text else false
def argsOf (op:Int):Int × Int:=
 if op == 1 || op == 2 || op == 3 || op == 26 || op == 28 then (0,0) else if op == 9 || op == 11 || op == 21 || op == 22 || op == 23 then (1,1)
 else if op == 19 || op == 20 || op == 25 then (2,16) else if op == 24 then (3,16) else if op == 27 then (1,16) else (2,2)
def allKind (k:Int):List Col→Bool
 | []=>true
 | c :: r=>if c.kind == k then allKind k r else false
def badCol (c:Col):Bool:=decide (c.kind < 1) || decide (c.kind > 3)
mutual
def nodes:Expr→Int
 | .mk _ _ _ _ _ args _=>nodesL 1 args
def nodesL (n:Int):List Expr→Int
 | []=>n
 | a :: r=>if n ≤ 400 then nodesL (w64 (n + nodes a)) r else n
end
theorem nodes_eq (e:Expr):nodes e=nodesL 1 e.args:=by cases e;rfl
def bareR (e:Expr):Bool:=
 if e.op == 1 then decide (e.n ≥ 0) && e.m == 0 else if e.op == 2 then decide (e.n ≥ 1) && decide (e.m ≥ 0) else e.n == 0 && e.m == 0
def nodeR (e:Expr):Bool:=
 if e.op == 3 then bareR e && real e.kind && rightV e.lit && (e.lit.kind == 0 || e.lit.kind == e.kind) && (e.args.length:Int) == 0 && (e.rels.length:Int) == 0
 else if !bareR e || !(e.kind == 0) || !(e.lit == nullW) || decide ((e.rels.length:Int) > 0) then false
 else if e.op == 1 || e.op == 2 then (e.args.length:Int) == 0
 else decide (e.op ≥ 4) && decide (e.op ≤ 25) && many e.op e.args.length
mutual
def shaped (deep:Int):Expr→Bool
 | .mk op n m k v args r=>if deep == 0 || !nodeR (.mk op n m k v args r) then false else shapedL (w64 (deep - 1)) args
def shapedL (deep:Int):List Expr→Bool
 | []=>true
 | a :: r=>if shaped deep a then shapedL deep r else false
end
theorem shaped_eq (deep:Int) (e:Expr):shaped deep e=if deep == 0 || !nodeR e then false else shapedL (w64 (deep - 1)) e.args:=by cases e;rfl
def form (e:Expr):Bool:=shaped 24 e && decide (nodes e ≤ 400)
mutual
def sameE:Expr→Expr→Bool
 | .mk op n m k v args r,b=>if !(op == b.op) || !(n == b.n) || !(m == b.m) || !(k == b.kind) || !(v == b.lit) || !((args.length:Int) == b.args.length) || !((r.length:Int) == b.rels.length) then false else sameL args b.args
def sameL:List Expr→List Expr→Bool
 | a :: l,b :: m=>if sameE a b then sameL l m else false
 | _,_=>true
end
def sameLI (m:List Expr) (i:Nat):List Expr→Bool
 | []=>true
 | a :: l=>if sameE a (m.getD i default) then sameLI m (i + 1) l else false
theorem sameLI_eq (m:List Expr):∀ (l:List Expr) (i:Nat),i + l.length=m.length→sameLI m i l=sameL l (m.drop i)
 | [],i,h=>by
  rw [List.drop_eq_nil_of_le (by simpa using Nat.le_of_eq h.symm)];rfl
 | a :: l,i,h=>by
  simp only [List.length_cons] at h
  have hi:i < m.length:=by omega
  rw [List.drop_eq_getElem_cons hi]
  simp only [sameLI,sameL,sameLI_eq m l (i + 1) (by omega),List.getD_eq_getElem?_getD,List.getElem?_eq_getElem hi,Option.getD_some]
theorem sameL_I {l m:List Expr} (h:l.length=m.length):sameL l m=sameLI m 0 l:=by
 rw [sameLI_eq m l 0 (by omega)];rfl
theorem sameE_eq (a b:Expr):sameE a b=if !(a.op == b.op) || !(a.n == b.n) || !(a.m == b.m) || !(a.kind == b.kind) || !(a.lit == b.lit) || !((a.args.length:Int) == b.args.length) || !((a.rels.length:Int) == b.rels.length) then false else sameL a.args b.args:=by
 cases a;rfl
def caseKinds (out:Col) (i:Nat):List Col→Col × Bool
 | []=>(⟨0,false⟩,false)
 | [_]=>(out,true)
 | c :: r=>if ((i:Int).tmod 2 == 0 && !(c.kind == 2)) || ((i:Int).tmod 2 == 1 && !(c.kind == out.kind)) then (⟨0,false⟩,false)
  else if (i:Int).tmod 2 == 1 then caseKinds ⟨out.kind,out.null || c.null⟩ (i + 1) r else caseKinds out (i + 1) r
def zeroC:Col:=⟨0,false⟩
def anyNull (null:Bool):List Col→Bool
 | []=>null
 | c :: r=>anyNull (null || c.null) r
def everyNull (null:Bool):List Col→Bool
 | []=>null
 | c :: r=>everyNull (null && c.null) r
def someV (v:Val):List Val→Bool
 | []=>false
 | a :: r=>if a == v then true else someV v r
def andV (l:List Val):Val:=if someV (boolW false) l then boolW false else if someV nullW l then nullW else boolW true
def orVs (l:List Val):Val:=if someV (boolW true) l then boolW true else if someV nullW l then nullW else boolW false
def colsErrL:List Col→Int
 | []=>0
 | c :: r=>if !(c.kind == 1) && !(c.kind == 2) && !(c.kind == 3) then 20 else colsErrL r
def colsErr (l:List Col):Int:=if decide ((l.length:Int) > 16) then 2 else if (l.length:Int) == 0 then 20 else colsErrL l
def hd (l:List Col):Col:=l.headD zeroC
theorem idx0 (l:List Col) (h:0 < l.length):l[0]=hd l:=by
 cases l with
 | nil=>simp at h
 | cons a r=>rfl
def combined (e:Expr) (args:List Col):Col × Bool:=
 if e.op == 3 then (⟨e.kind,e.lit.kind == 0⟩,true)
 else if e.op == 4 || e.op == 5 || e.op == 6 || e.op == 9 then (⟨1,anyNull false args⟩,allKind 1 args)
 else if e.op == 7 || e.op == 8 then (⟨1,true⟩,allKind 1 args)
 else if e.op == 10 then (⟨3,anyNull false args⟩,allKind 3 args)
 else if e.op == 11 then (⟨1,anyNull false args⟩,allKind 3 args)
 else if e.op == 12 || e.op == 13 || e.op == 14 || e.op == 15 || e.op == 16 || e.op == 17 then (⟨2,anyNull false args⟩,allKind (hd args).kind args)
 else if e.op == 18 then (⟨2,false⟩,allKind (hd args).kind args)
 else if e.op == 19 || e.op == 20 || e.op == 21 then (⟨2,anyNull false args⟩,allKind 2 args)
 else if e.op == 22 then (⟨2,false⟩,true)
 else if e.op == 23 then (⟨2,false⟩,allKind 2 args)
 else if e.op == 24 then caseKinds (args.getLastD zeroC) 0 args
 else (⟨(hd args).kind,everyNull true args⟩,allKind (hd args).kind args)
def kindM (e:Expr):Option (List Col)→Col × Bool
 | none=>(zeroC,false)
 | some l=>combined e l
mutual
def kindE (cols:List Col):Expr→Col × Bool
 | .mk op n m k v args r=>
  if op == 2 then (zeroC,false)
  else if op == 1 then (if decide (n ≥ (cols.length:Int)) then (zeroC,false) else (cols.getD n.toNat zeroC,true))
  else kindM (.mk op n m k v args r) (kindL cols [] args)
def kindL (cols:List Col) (acc:List Col):List Expr→Option (List Col)
 | []=>some acc
 | a :: r=>if (kindE cols a).2 then kindL cols (acc ++ [(kindE cols a).1]) r else none
end
theorem kindE_eq (cols:List Col) (e:Expr):kindE cols e=if e.op == 2 then (zeroC,false)
  else if e.op == 1 then (if decide (e.n ≥ (cols.length:Int)) then (zeroC,false) else (cols.getD e.n.toNat zeroC,true))
  else kindM e (kindL cols [] e.args):=by
 cases e;rfl
theorem nodeR_col {e:Expr} (h:nodeR e=true) (h1:(e.op == 1)=true):0 ≤ e.n:=by
 have e1:e.op=1:=by simpa using h1
 simp only [nodeR,bareR,e1] at h
 simp at h
 exact h.1.1.1.1.1
theorem many_pos {op n:Int} (h:many op n=true):0 < n:=by
 unfold many at h
 repeat' split at h
 all_goals simp at h
 all_goals omega
theorem nodeR_args {e:Expr} (h:nodeR e=true) (h1:(e.op == 1)=false) (h2:(e.op == 2)=false) (h3:(e.op == 3)=false):0 < e.args.length:=by
 simp only [nodeR,h1,h2,h3] at h
 simp at h
 have:=many_pos h.2.2
 omega
theorem shaped_node {d:Int} {e:Expr} (h:shaped d e=true):nodeR e=true:=by
 rw [shaped_eq] at h
 cases hn:nodeR e with
 | true=>rfl
 | false=>simp [hn] at h
theorem shapedL_mem {d:Int}:∀ {l:List Expr},shapedL d l=true→∀ a ∈ l,shaped d a=true
 | [],_,a,h=>by cases h
 | x :: r,h,a,ha=>by
  simp only [shapedL] at h
  split at h
  ·rename_i hx
   cases ha with
   | head=>exact hx
   | tail _ ha=>exact shapedL_mem h a ha
  ·cases h
theorem shaped_arg {d:Int} {e:Expr} (h:shaped d e=true):∀ a ∈ e.args,shaped (w64 (d - 1)) a=true:=by
 rw [shaped_eq] at h
 split at h
 ·cases h
 ·exact shapedL_mem h
end Go.Proofs.YtgiedlcjlalpcaaGreat
namespace Go.Abs
theorem evalOp_move (cfg:Cfg) (d:Nat) (S:St) (x:Operand):evalOp cfg d (.move x) S =
  ((fun v:V=>some (v,S.b,S.u)) ((opnd S.t) x)):=rfl
theorem evalOp_assign (cfg:Cfg) (d:Nat) (S:St) (x:Operand):evalOp cfg d (.assign x) S =
  ((fun v:V=>some (v,S.b,S.u)) ((opnd S.t) x)):=rfl
theorem evalOp_pick (cfg:Cfg) (d:Nat) (S:St) (c a b:Operand):evalOp cfg d (.pick c a b) S =
  (match (opnd S.t) c with | .p (.bool x)=>(fun v:V=>some (v,S.b,S.u)) (if x then (opnd S.t) a else (opnd S.t) b) | _=>none):=rfl
theorem evalOp_alloc (cfg:Cfg) (d:Nat) (S:St) (t:TypeId):evalOp cfg d (.alloc t) S =
  (    match cfg.ty t with
  | some i=>if d ∈ S.u then none else some (.ref d 0,setB S.b d (.cells i.zero),d :: S.u)
  | none=>none):=rfl
theorem evalOp_box (cfg:Cfg) (d:Nat) (S:St) (u:TypeId) (x:Operand):evalOp cfg d (.box u x) S =
  (    match ((opnd S.t) x).cells with
  | some cs=>if d ∈ S.u then none else some (.ref d 0,setB S.b d (.cells cs),d :: S.u)
  | none=>none):=rfl
theorem evalOp_build (cfg:Cfg) (d:Nat) (S:St) (t:TypeId) (parts:Array (Nat × Operand)):evalOp cfg d (.build t parts) S =
  (    match cfg.ty t with
  | some ⟨.struct fs,_,_,z,_⟩=>if fs.all (fun x=>(cfg.ty x.2).isSome) then (fillV (placesOf fs cfg.ty) z (parts.toList.map fun (i,x)=>(i,(opnd S.t) x))).bind fun cs=>(fun v:V=>some (v,S.b,S.u)) (mkAgg cs) else none
  | some ⟨.arr _ e,_,_,z,_⟩=>
   match cfg.ty e with
   | some i=>(fillV (fun k=>some (k * i.size,i.size)) z (parts.toList.map fun (i,x)=>(i,(opnd S.t) x))).bind fun cs=>(fun v:V=>some (v,S.b,S.u)) (mkAgg cs)
   | none=>none
  | _=>none):=rfl
theorem evalOp_buildSlice (cfg:Cfg) (d:Nat) (S:St) (t:TypeId) (len:Nat) (parts:Array (Nat × Operand)):evalOp cfg d (.buildSlice t len parts) S =
  (    match cfg.ty t with
  | some ⟨.slice e,_,_,_,_⟩=>
   match cfg.ty e with
   | some i=>
    match partsToP S.b 0 (parts.toList.map fun (i,x)=>(i,(opnd S.t) x)) with
    | some (es,b)=>
     if d ∈ S.u then none
     else if es.length=len∧sizesOk i.size es∧len ≤ 1000∧i.size ≤ 1000 then some (.own d len,setB b d (.arr i.size es false),d :: S.u)
     else none
    | none=>none
   | none=>none
  | _=>none):=rfl
theorem evalOp_load (cfg:Cfg) (d:Nat) (S:St) (t:TypeId) (a:Operand):evalOp cfg d (.load t a) S =
  (    match cfg.ty t with
  | some i=>
   match (opnd S.t) a with
   | .ref nm off=>
    match getB S.b nm with
    | some (.cells cs)=>(partV i.agg i.size off cs).bind (fun v:V=>some (v,S.b,S.u))
    | some (.frz cs)=>(partP i.agg i.size off cs).bind (fun v:V=>some (v,S.b,S.u))
    | _=>none
   | .elem nm len k j=>
    match getB S.b nm with
    | some (.arr _ es _)=>if es.length=len then match es[k]? with | some x=>(partP i.agg i.size j x.cells).bind (fun v:V=>some (v,S.b,S.u)) | none=>none else none
    | _=>none
   | .p (.imm cs off)=>(partP i.agg i.size off cs).bind (fun v:V=>some (v,S.b,S.u))
   | .p (.obj tag ps off)=>(partP i.agg i.size off (cfg.obj tag ps)).bind (fun v:V=>some (v,S.b,S.u))
   | _=>none
  | none=>none):=rfl
theorem evalOp_store (cfg:Cfg) (d:Nat) (S:St) (t:TypeId) (a x:Operand):evalOp cfg d (.store t a x) S =
  (    match cfg.ty t with
  | some i=>
   match (opnd S.t) a,((opnd S.t) x).cells with
   | .ref nm off,some vs=>
    match getB S.b nm with
    | some (.cells cs)=>if vs.length=i.size∧off + i.size ≤ cs.length∧vs.all oneV=true then some (.any,setB S.b nm (.cells (spliceV cs off vs)),S.u) else none
    | _=>none
   | _,_=>none
  | none=>none):=rfl
theorem evalOp_nilCheck (cfg:Cfg) (d:Nat) (S:St) (x:Operand):evalOp cfg d (.nilCheck x) S =
  (    match (opnd S.t) x with
  | .ref nm off=>(fun v:V=>some (v,S.b,S.u)) (.ref nm off)
  | .p (.imm cs off)=>(fun v:V=>some (v,S.b,S.u)) (.p (.imm cs off))
  | .p (.obj g ps off)=>(fun v:V=>some (v,S.b,S.u)) (.p (.obj g ps off))
  | _=>none):=rfl
theorem evalOp_binOp (cfg:Cfg) (d:Nat) (S:St) (o:BinOp) (t:TypeId) (x y:Operand) (u:TypeId):evalOp cfg d (.binOp o t x y u) S =
  ((binV (cfg.ty t) o ((opnd S.t) x) ((opnd S.t) y)).bind (fun v:V=>some (v,S.b,S.u))):=rfl
theorem evalOp_unOp (cfg:Cfg) (d:Nat) (S:St) (o:UnOp) (u:TypeId) (x:Operand):evalOp cfg d (.unOp o u x) S =
  (    match o,(opnd S.t) x with
  | .not,.p (.bool b)=>(fun v:V=>some (v,S.b,S.u)) (.p (.bool !b))
  | .neg,.p (.int k n)=>(fun v:V=>some (v,S.b,S.u)) (.p (.int k (k.wrap (0 - n))))
  | _,_=>none):=rfl
theorem evalOp_convert (cfg:Cfg) (d:Nat) (S:St) (s t:TypeId) (x:Operand):evalOp cfg d (.convert s t x) S =
  (    match cfg.ty s,cfg.ty t,(opnd S.t) x with
  | some _,some ⟨.int k,_,_,_,_⟩,.p (.int _ n)=>(fun v:V=>some (v,S.b,S.u)) (.p (.int k (k.wrap n)))
  | some _,some ⟨.str,_,_,_,_⟩,.p (.str s)=>(fun v:V=>some (v,S.b,S.u)) (.p (.str s))
  | _,_,_=>none):=rfl
theorem evalOp_makeFunc (cfg:Cfg) (d:Nat) (S:St) (f:Fn) (first cap:Array Operand):evalOp cfg d (.makeFunc f first cap) S =
  ((fun v:V=>some (v,S.b,S.u)) (mkFn f (first.toList.map (opnd S.t)) (cap.toList.map (opnd S.t)))):=rfl
theorem evalOp_slice (cfg:Cfg) (d:Nat) (S:St) (t:TypeId) (x:Operand) (lo hi:Option Operand):evalOp cfg d (.slice t x lo hi none) S =
  (    match cfg.ty t,(opnd S.t) x with
  | some ⟨.slice e,_,_,_,_⟩,v=>
   match cfg.ty e,toP S.b v with
   | some i,some (.lst es,b)=>
    if sizesOk i.size es then
     match (match lo with | some l=>natOf ((opnd S.t) l) | none=>some 0),(match hi with | some h=>natOf ((opnd S.t) h) | none=>some es.length) with
     | some l,some h=>if l ≤ h∧h ≤ es.length then some (.p (.lst ((es.take h).drop l)),b,S.u) else none
     | _,_=>none
    else none
   | _,_=>none
  | some ⟨.str,_,_,_,_⟩,.p (.str s)=>
   match (match lo with | some l=>natOf ((opnd S.t) l) | none=>some 0),(match hi with | some h=>natOf ((opnd S.t) h) | none=>some s.size) with
   | some l,some h=>if l ≤ h∧h ≤ s.size then (fun v:V=>some (v,S.b,S.u)) (.p (.str (s.extract l h))) else none
   | _,_=>none
  | _,_=>none):=rfl
theorem evalOp_fieldAddr (cfg:Cfg) (d:Nat) (S:St) (t:TypeId) (x:Operand) (f:Nat):evalOp cfg d (.fieldAddr t x f) S =
  (    match cfg.ty t with
  | some ⟨.struct fs,_,_,_,_⟩=>
   match placesOf fs cfg.ty f with
   | some (o,n)=>
    if n=0 then none else
    match (opnd S.t) x with
    | .ref nm off=>(fun v:V=>some (v,S.b,S.u)) (.ref nm (off + o))
    | .elem nm len i j=>match getB S.b nm with | some (.arr _ es _)=>if es.length=len then (fun v:V=>some (v,S.b,S.u)) (.elem nm len i (j + o)) else none | _=>none
    | .p (.imm cs off)=>(fun v:V=>some (v,S.b,S.u)) (.p (.imm cs (off + o)))
    | .p (.obj g ps off)=>(fun v:V=>some (v,S.b,S.u)) (.p (.obj g ps (off + o)))
    | _=>none
   | none=>none
  | _=>none):=rfl
theorem evalOp_field (cfg:Cfg) (d:Nat) (S:St) (t:TypeId) (x:Operand) (f:Nat):evalOp cfg d (.field t x f) S =
  (    match cfg.ty t with
  | some ⟨.struct fs,_,_,_,_⟩=>
   match fs[f]? with
   | some (o,ft)=>
    match cfg.ty ft,((opnd S.t) x) with
    | some i,.p (.agg cs)=>(partP i.agg i.size o cs).bind (fun v:V=>some (v,S.b,S.u))
    | some i,.agg cs=>(partV i.agg i.size o cs).bind (fun v:V=>some (v,S.b,S.u))
    | _,_=>none
   | none=>none
  | _=>none):=rfl
theorem evalOp_indexAddr (cfg:Cfg) (d:Nat) (S:St) (t:TypeId) (x ix:Operand):evalOp cfg d (.indexAddr t x ix) S =
  (    match cfg.ty t,natOf ((opnd S.t) ix) with
  | some ⟨.slice e,_,_,_,_⟩,some k=>
   match cfg.ty e with
   | some i=>
    match (opnd S.t) x with
    | .p (.lst es)=>
     match es[k]? with
     | some y=>if y.cells.length=i.size then (fun v:V=>some (v,S.b,S.u)) (.p (.imm y.cells 0)) else none
     | none=>none
    | .own nm len=>
     match getB S.b nm with
     | some (.arr sz es _)=>if es.length=len∧k < len∧sz=i.size then (fun v:V=>some (v,S.b,S.u)) (.elem nm len k 0) else none
     | _=>none
    | _=>none
   | none=>none
  | some ⟨.arr n e,_,_,_,_⟩,some k=>
   match cfg.ty e with
   | some i=>
    match (opnd S.t) x with
    | .ref nm off=>if k < n then (fun v:V=>some (v,S.b,S.u)) (.ref nm (off + k * i.size)) else none
    | _=>none
   | none=>none
  | _,_=>none):=rfl
theorem evalOp_index (cfg:Cfg) (d:Nat) (S:St) (t:TypeId) (x ix:Operand):evalOp cfg d (.index t x ix) S =
  (    match cfg.ty t,(opnd S.t) x,natOf ((opnd S.t) ix) with
  | some ⟨.str,_,_,_,_⟩,.p (.str s),some k=>match s[k]? with | some c=>(fun v:V=>some (v,S.b,S.u)) (.p (.int .u8 c.toNat)) | none=>none
  | _,_,_=>none):=rfl
theorem evalOp_extract (cfg:Cfg) (d:Nat) (S:St) (x:Operand) (i:Nat):evalOp cfg d (.extract x i) S =
  (match (opnd S.t) x with | .tup vs=>(vs[i]?).bind (fun v:V=>some (v,S.b,S.u)) | _=>none):=rfl
theorem evalOp_builtin (cfg:Cfg) (d:Nat) (S:St) (b:Builtin) (args:Array Operand) (argTypes:Array TypeId):evalOp cfg d (.call { callee:=.builtin b,args,argTypes }) S =
  (    match b,args.toList.map (opnd S.t),argTypes.toList with
  | .len,[v],[t]=>
   match cfg.ty t,v with
   | some ⟨.slice _,_,_,_,_⟩,.p (.lst es)=>(fun v:V=>some (v,S.b,S.u)) (.p (.int .i64 es.length))
   | some ⟨.slice _,_,_,_,_⟩,.nils=>(fun v:V=>some (v,S.b,S.u)) (.p (.int .i64 0))
   | some ⟨.slice _,_,_,_,_⟩,.own nm len=>
    match getB S.b nm with
    | some (.arr _ es _)=>if es.length=len then (fun v:V=>some (v,S.b,S.u)) (.p (.int .i64 len)) else none
    | _=>none
   | some ⟨.str,_,_,_,_⟩,.p (.str s)=>(fun v:V=>some (v,S.b,S.u)) (.p (.int .i64 s.size))
   | _,_=>none
  | .append,[x,y],[t,t']=>(match cfg.ty t' with | some ⟨.slice _,_,_,_,_⟩=>appendV cfg t d S x y | _=>none)
  | .min,[.p (.int k a),.p (.int _ c)],_=>(fun v:V=>some (v,S.b,S.u)) (.p (.int k (if c < a then c else a)))
  | .max,[.p (.int k a),.p (.int _ c)],_=>(fun v:V=>some (v,S.b,S.u)) (.p (.int k (if c > a then c else a)))
  | _,_,_=>none):=rfl
end Go.Abs
namespace Go.Abs
def footT (ts:List Nat) (ops:Array Oper) (o:Oper):Foot:=
 let rt:=o.looksAt ops
 let wt:=o.dst.toList
 match footKind o.op with
 | .none=>⟨rt,wt,[],[]⟩
 | .read=>⟨rt,wt,ts,[]⟩
 | .write=>⟨rt,wt,[],ts⟩
 | .fresh=>⟨rt,wt,[],[o.dst.getD 0]⟩
 | .writeFresh=>⟨rt,wt,[],o.dst.getD 0 :: ts⟩
 | .store=>⟨rt,wt,[],ts⟩
theorem touches_move (t:List V) (x:Operand):touches t (.move x)=V.namesL [opnd t x]:=rfl
theorem touches_assign (t:List V) (x:Operand):touches t (.assign x)=V.namesL [opnd t x]:=rfl
theorem touches_box (t:List V) (u:TypeId) (x:Operand):touches t (.box u x)=V.namesL [opnd t x]:=rfl
theorem touches_load (t:List V) (u:TypeId) (x:Operand):touches t (.load u x)=V.namesL [opnd t x]:=rfl
theorem touches_nilCheck (t:List V) (x:Operand):touches t (.nilCheck x)=V.namesL [opnd t x]:=rfl
theorem touches_unOp (t:List V) (q:UnOp) (u:TypeId) (x:Operand):touches t (.unOp q u x)=V.namesL [opnd t x]:=rfl
theorem touches_convert (t:List V) (u w:TypeId) (x:Operand):touches t (.convert u w x)=V.namesL [opnd t x]:=rfl
theorem touches_fieldAddr (t:List V) (u:TypeId) (x:Operand) (f:Nat):touches t (.fieldAddr u x f)=V.namesL [opnd t x]:=rfl
theorem touches_field (t:List V) (u:TypeId) (x:Operand) (f:Nat):touches t (.field u x f)=V.namesL [opnd t x]:=rfl
theorem touches_extract (t:List V) (x:Operand) (i:Nat):touches t (.extract x i)=V.namesL [opnd t x]:=rfl
theorem touches_pick (t:List V) (a b c:Operand):touches t (.pick a b c)=V.namesL [opnd t a,opnd t b,opnd t c]:=rfl
theorem touches_store (t:List V) (u:TypeId) (a x:Operand):touches t (.store u a x)=V.namesL [opnd t a,opnd t x]:=rfl
theorem touches_binOp (t:List V) (q:BinOp) (u w:TypeId) (x y:Operand):touches t (.binOp q u x y w)=V.namesL [opnd t x,opnd t y]:=rfl
theorem touches_indexAddr (t:List V) (u:TypeId) (x y:Operand):touches t (.indexAddr u x y)=V.namesL [opnd t x,opnd t y]:=rfl
theorem touches_index (t:List V) (u:TypeId) (x y:Operand):touches t (.index u x y)=V.namesL [opnd t x,opnd t y]:=rfl
theorem touches_alloc (t:List V) (u:TypeId):touches t (.alloc u)=[]:=rfl
theorem touches_build (t:List V) (u:TypeId) (ps:Array (Nat × Operand)):touches t (.build u ps)=V.namesL (ps.toList.map fun p=>opnd t p.2):=by
 simp [touches,Op.operands,List.map_map];rfl
theorem touches_buildSlice (t:List V) (u:TypeId) (n:Nat) (ps:Array (Nat × Operand)):touches t (.buildSlice u n ps)=V.namesL (ps.toList.map fun p=>opnd t p.2):=by
 simp [touches,Op.operands,List.map_map];rfl
theorem touches_makeFunc (t:List V) (f:Fn) (a c:Array Operand):touches t (.makeFunc f a c)=V.namesL (a.toList.map (opnd t) ++ c.toList.map (opnd t)):=by
 simp [touches,Op.operands]
theorem touches_slice (t:List V) (u:TypeId) (x:Operand) (l h m:Option Operand):touches t (.slice u x l h m)=V.namesL (opnd t x :: (l.toList ++ h.toList ++ m.toList).map (opnd t)):=by
 simp [touches,Op.operands]
theorem touches_call (t:List V) (f:Operand) (args:Array Operand) (ts:Array TypeId):touches t (.call { callee:=.value f,args,argTypes:=ts })=V.namesL (opnd t f :: args.toList.map (opnd t)):=by
 simp [touches,Op.operands,Call.operands]
theorem touches_builtin (t:List V) (b:Builtin) (args:Array Operand) (ts:Array TypeId):touches t (.call { callee:=.builtin b,args,argTypes:=ts })=V.namesL (args.toList.map (opnd t)):=by
 simp [touches,Op.operands,Call.operands]
end Go.Abs
namespace Go.Abs
open Go.RowKit
def idxP (k:IntKind) (n:Int):List P→Nat→Option (Option Nat)
 | [],_=>some none
 | .int k' m :: r,i=>if k=k' then (if n == m then some (some i) else idxP k n r (i + 1)) else none
 | _ :: _,_=>none
def entriesV (b:Blks):V→Option (List P × List P)
 | .p (.imap ks vs)=>some (ks,vs)
 | .p .nilm=>some ([],[])
 | .mp nm=>match getB b nm with | some (.map ks vs)=>some (ks,vs) | _=>none
 | _=>none
def evalM (cfg:Cfg) (d:Nat) (op:Op) (S:St):Option (V × Blks × List Nat):=
 match op with
 | .makeMap t none=>
  match cfg.ty t with
  | some ⟨.map _ _,_,_,_,_⟩=>if d ∈ S.u then none else some (.mp d,setB S.b d (.map [] []),d :: S.u)
  | _=>none
 | .mapUpdate t m k x=>
  match cfg.ty t with
  | some ⟨.map kt _,_,_,_,_⟩=>
   match cfg.ty kt,opnd S.t k with
   | some ⟨.int kk,_,_,_,_⟩,.p (.int k' n)=>
    if kk=k' then
     match toP S.b (opnd S.t x),opnd S.t m with
     | some (y,b),.mp nm=>
      match getB b nm with
      | some (.map ks vs)=>
       match idxP kk n ks 0 with
       | some (some i)=>some (.any,setB b nm (.map ks (vs.set i y)),S.u)
       | some none=>some (.any,setB b nm (.map (ks ++ [.int kk n]) (vs ++ [y])),S.u)
       | none=>none
      | _=>none
     | _,_=>none
    else none
   | _,_=>none
  | _=>none
 | .lookup t m k ok=>
  match cfg.ty t with
  | some ⟨.map kt et,_,_,_,_⟩=>
   match cfg.ty kt,cfg.ty et,opnd S.t k with
   | some ⟨.int kk,_,_,_,_⟩,some i,.p (.int k' n)=>
    if kk=k' then
     match entriesV S.b (opnd S.t m) with
     | some (ks,vs)=>
      match idxP kk n ks 0 with
      | some (some j)=>(vs[j]?).map fun v=>(if ok then .tup [.p v,.p (.bool true)] else .p v,S.b,S.u)
      | some none=>none
      | none=>none
     | none=>none
    else none
   | _,_,_=>none
  | _=>none
 | _=>none
section
variable {cfg:Cfg} {base:Base} {P:Program} {o:Oper} {a:Act} {w:World} {E:Env} {μ:Places} {S:St} {d:Nat} {r:V × Blks × List Nat}
theorem new_map (hm:Mem cfg base E μ S.b S.u w) (hd:d ∉ S.u) :
  ∃ μ',Chg E E μ μ' S.b (setB S.b d (.map [] [])) S.u (d :: S.u)∧Mem cfg base E μ' (setB S.b d (.map [] [])) (d :: S.u) (w.alloc (.map #[] 0)) ∧
   Rep E μ' (setB S.b d (.map [] [])) (d :: S.u) (.map (some w.heap.size)) (.mp d):=by
 have hnew:(w.alloc (.map #[] 0)).heap[w.heap.size]? = some (.map #[] 0):=by
  show (w.heap.push _)[w.heap.size]? = _
  simp
 have hE:∀ o,E.cell w.heap.size o=none:=by
  intro o
  cases h:E.cell w.heap.size o with
  | none=>rfl
  | some v'=>exact (Nat.lt_irrefl _ (lt_of_cell (hm.cell _ _ _ h))).elim
 have hEm:E.mp w.heap.size=none:=by
  cases h:E.mp w.heap.size with
  | none=>rfl
  | some x=>exact (Nat.lt_irrefl _ (hm.mp _ x.1 x.2 h).lt).elim
 have hchg:Chg E E μ (fun n=>if n=d then some (w.heap.size,0) else μ n) S.b (setB S.b d (.map [] [])) S.u (d :: S.u):=
  Chg.fresh (Env.le_refl E) hd (fun m hmn=>by simp [hmn])
 refine ⟨fun n=>if n=d then some (w.heap.size,0) else μ n,hchg,?_,?_⟩
 ·refine hm.step hchg (by simp) (fun m hmn=>by simp [hmn]) w.heap.size (fun C e h=>by simp at h;exact h.1.symm) (.inr (Nat.le_refl _)) ?_ (by simp) rfl rfl rfl (fun _ _ _=>rfl) (fun _=>rfl) ?_ ?_
  ·intro j hj hlt
   exact Below.heap_alloc w _ j hlt
  ·intro o' v' hv'
   rw [hE o'] at hv';cases hv'
  ·exact ⟨w.heap.size,0,by simp,⟨#[],0,hnew,rfl,rfl,(fun i e h=>by simp at h),(by simp),(by simp)⟩,hE,hEm⟩
 ·exact .mp d w.heap.size 0 (by simp) (by simp) (fun sz es sh h=>by rw [getB_setB,if_pos rfl] at h;cases h)
theorem does_makeMap (hm:Mem cfg base E μ S.b S.u w) (ht:Tm E μ S a) {t:TypeId} (ho:o.op = .makeMap t none) (he:evalM cfg d (.makeMap t none) S=some r):Does cfg base P o a w E μ S.b S.u r:=by
 simp only [evalM] at he
 split at he
 ·split at he
  ·cases he
  ·rename_i hd
   simp only [Option.some.injEq] at he
   subst he
   obtain ⟨μ',k1,k2,k3⟩:=new_map (d:=d) hm hd
   refine ⟨E, μ',_,_,k1,k2,k3,.inl ?_⟩
   simp [execOp,ho,Instr.makeMap]
 ·cases he
theorem findNow_idx {k k₀:IntKind} {n:Int} {E:Env}:∀ {es:List MapEntry} {ks:List Abs.P} {i:Nat} {res:Option Nat},es.length=ks.length→(∀ (j:Nat) (e:MapEntry),es[j]? = some e→∀ q,ks[j]? = some q→RepP E e.key q)→idxP k n ks i=some res →
  (res=none∧Instr.findNow (.int k₀) (.int k n) es i=some none) ∨ (∃ j e,res=some (i + j)∧es[j]? = some e∧Instr.findNow (.int k₀) (.int k n) es i=some (some (i + j,e.val)))
 | [],[],i,res,_,_,h=>by
  simp only [idxP,Option.some.injEq] at h
  exact .inl ⟨h.symm,rfl⟩
 | e :: es,q :: ks,i,res,hl,hr,h=>by
  have hq:=hr 0 e rfl q rfl
  cases q <;> simp only [idxP,reduceCtorEq] at h
  rename_i k' m
  have hkey:e.key = .int k' m:=by cases hh:e.key <;> rw [hh] at hq <;> cases hq;rfl
  split at h
  ·rename_i hk
   subst hk
   split at h
   ·rename_i hnm
    simp only [Option.some.injEq] at h
    subst h
    refine .inr ⟨0,e,rfl,rfl,?_⟩
    simp [Instr.findNow,Instr.sameNow,hkey,hnm]
   ·rename_i hnm
    have hnm':(n == m)=false:=by simpa using hnm
    rcases findNow_idx (k₀:=k₀) (es:=es) (ks:=ks) (i:=i + 1) (by simpa using hl) (fun j e' he q hq=>hr (j + 1) e' he q hq) h with ⟨h1,h2⟩ | ⟨j,e',h1,h2,h3⟩
    ·refine .inl ⟨h1,?_⟩
     simp [Instr.findNow,Instr.sameNow,hkey,hnm',h2]
    ·refine .inr ⟨j + 1,e',by rw [h1];congr 1;omega,by simpa using h2,?_⟩
     have e1:i + (j + 1)=i + 1 + j:=by omega
     simp [Instr.findNow,Instr.sameNow,hkey,hnm',h3,e1]
  ·cases h
 | [],_ :: _,_,_,hl,_,_=>by simp at hl
 | _ :: _,[],_,_,hl,_,_=>by simp at hl
theorem entries_rep {v:Value} {x:V} {ks vs:List Abs.P} {b:Blks} {u:List Nat} (hm:Mem cfg base E μ b u w) (hr:Rep E μ b u v x) (he:entriesV b x=some (ks,vs)) :
  (v = .map none∧ks=[]∧vs=[]) ∨ ∃ B,v = .map (some B)∧MapAt E w B ks vs:=by
 unfold entriesV at he
 split at he
 ·cases he
  cases hr with
  | p _ _ h=>cases h with
   | imap B _ _ h=>exact .inr ⟨B,rfl,hm.mp B _ _ h⟩
 ·cases he
  cases hr with
  | p _ _ h=>cases h;exact .inl ⟨rfl,rfl,rfl⟩
 ·rename_i nm
  split at he
  ·rename_i ks' vs' hb
   cases he
   cases hr with
   | mp _ B cap hu hB hnb=>
    obtain ⟨B',cap',h1,h2,_⟩:=hm.blk nm _ hb
    rw [hB] at h1
    cases h1
    exact .inr ⟨B,rfl,h2⟩
  ·cases he
 ·cases he
theorem does_lookup (hc:CfgOk cfg P) (hm:Mem cfg base E μ S.b S.u w) (ht:Tm E μ S a) {t:TypeId} {m k:Operand} {ok:Bool} (ho:o.op = .lookup t m k ok) (he:evalM cfg d (.lookup t m k ok) S=some r):Does cfg base P o a w E μ S.b S.u r:=by
 have h1:=rep_opnd ht m
 have h2:=rep_opnd ht k
 simp only [evalM] at he
 split at he
 ·rename_i kt et _ _ _ _ hty
  split at he
  ·rename_i kk _ _ _ _ i k' n hkt het hk
   split at he
   ·rename_i hkk
    subst hkk
    rw [hk] at h2
    have h3:=h2.inv_p
    have hkey:a.eval k = .int kk n:=by cases hh:a.eval k <;> rw [hh] at h3 <;> cases h3;rfl
    obtain ⟨dt,e1,e2⟩:=hc.run_underlying (w:=w) hty
    obtain ⟨dk,f1,f2⟩:=hc.run_underlying (w:=w) hkt
    split at he
    ·rename_i ks vs hes
     have e3:dt = .map kt et:=by cases dt <;> simp [kindB] at e2;obtain ⟨rfl,rfl⟩:=e2;rfl
     have f3:dk = .int kk:=by cases dk <;> simp [kindB] at f2;subst f2;rfl
     subst e3;subst f3
     have hck:∀ e,(Instr.checkKey e 10000 kt (.int kk n)).run P w = .ok () w:=fun e=>by
      rw [Instr.checkKey];simp [f1]
     obtain ⟨z,z1,z2,z3⟩:=hc.run_zeroValue (w:=w) het
     rcases entries_rep hm h1 hes with ⟨q1,q2,q3⟩ | ⟨B,q1,q2⟩
     ·subst q2;subst q3
      simp only [idxP] at he
      cases he
     ·obtain ⟨es,clock,g1,g2,g3,g4,_⟩:=q2
      cases hidx:idxP kk n ks 0 with
      | none=>rw [hidx] at he;cases he
      | some res=>
       rw [hidx] at he
       rcases findNow_idx (k₀:=kk) (E:=E) (es:=es.toList) (by simpa using g2) (fun j e he q hq=>(g4 j e (by simpa using he)).1 q hq) hidx with ⟨p1,p2⟩ | ⟨j,e,p1,p2,p3⟩
       ·subst p1
        cases he
       ·subst p1
        simp only [Nat.zero_add,Option.map_eq_some_iff] at he
        obtain ⟨y,hy,rfl⟩:=he
        have hrun:(Instr.lookup t (.map (some B)) (.int kk n) ok).run P w = .ok (if ok then .tuple #[e.val,.bool true] else e.val) w:=by
         simp [Instr.lookup,e1,hck,Instr.findKey,f1,p3,MapKept.run_getObj_map g1]
        have hrep:=(g4 j e (by simpa using p2)).2 y hy
        cases ok with
        | false=>exact Does.still hm e.val (.p _ _ hrep) (by simp [execOp,ho,q1,hkey,hrun])
        | true=>
         refine Does.still hm (.tuple #[e.val,.bool true]) ?_ (by simp [execOp,ho,q1,hkey,hrun])
         refine .tup [e.val,.bool true] [.p y,.p (.bool true)] rfl fun i v x hv hx=>?_
         match i with
         | 0=>simp at hv hx;subst hv;subst hx;exact .p _ _ hrep
         | 1=>simp at hv hx;subst hv;subst hx;exact .p _ _ (.bool true)
         | i + 2=>simp at hv
    ·cases he
   ·cases he
  ·cases he
 ·cases he
theorem x_of (h:∀ (base:Base) (a:Act) (w:World) (E:Env) (μ:Places),Mem cfg base E μ S.b S.u w→Tm E μ S a→Does cfg base P o a w E μ S.b S.u r):XStep cfg P o S fun S'=>S'=S.put o.dst r.1 r.2.1 r.2.2:=by
 intro base a w next R ⟨E, μ,hm,ht⟩ hn
 obtain ⟨E', μ',w',cv,h1,h2,h3,h4⟩:=h base a w E μ hm ht
 have key:Con cfg base (S.put o.dst r.1 r.2.1 r.2.2) (a.put o.dst cv) w':=by
  refine ⟨E', μ',?_,ht.put h1 h3 o.dst⟩
  cases o.dst <;> exact h2
 rcases h4 with h4 | ⟨h4,h5⟩
 ·simp only [Oper.wp,h4,Oper.upon]
  exact hn _ _ _ rfl key
 ·subst h5
  simp only [Oper.wp,h4,Oper.upon]
  exact hn _ _ _ rfl key
theorem x_lookup (hc:CfgOk cfg P) {t:TypeId} {m k:Operand} {ok:Bool} (ho:o.op = .lookup t m k ok) (he:evalM cfg d (.lookup t m k ok) S=some r):XStep cfg P o S fun S'=>S'=S.put o.dst r.1 r.2.1 r.2.2:=
 x_of fun base a w E μ hm ht=>does_lookup hc hm ht ho he
theorem x_makeMap {t:TypeId} (ho:o.op = .makeMap t none) (he:evalM cfg d (.makeMap t none) S=some r):XStep cfg P o S fun S'=>S'=S.put o.dst r.1 r.2.1 r.2.2:=
 x_of fun base a w E μ hm ht=>does_makeMap hm ht ho he
end
end Go.Abs
namespace Go.Proofs.YtgiedlcjlalpcaaGreat
open Go.Abs
def caseKI (l:List Col) (o:Col) (i:Nat):Col × Bool:=
 if h:i + 1 < l.length then
  (if ((i:Int).tmod 2 == 0 && !(l[i].kind == 2)) || ((i:Int).tmod 2 == 1 && !(l[i].kind == o.kind)) then (zeroC,false)
  else if (i:Int).tmod 2 == 1 then caseKI l ⟨o.kind,o.null || l[i].null⟩ (i + 1) else caseKI l o (i + 1))
 else (o,true)
termination_by l.length - i
theorem caseKI_eq (l:List Col) (x:Nat × Col):caseKI l x.2 x.1=if h:x.1 + 1 < l.length then
  (if ((x.1:Int).tmod 2 == 0 && !(l[x.1].kind == 2)) || ((x.1:Int).tmod 2 == 1 && !(l[x.1].kind == x.2.kind)) then (zeroC,false)
  else if (x.1:Int).tmod 2 == 1 then caseKI l ⟨x.2.kind,x.2.null || l[x.1].null⟩ (x.1 + 1) else caseKI l x.2 (x.1 + 1))
 else (x.2,true):=by rw [caseKI]
theorem caseKI_kinds (l:List Col):∀ (k i:Nat) (o:Col),l.length - i=k→i < l.length→caseKinds o i (l.drop i)=caseKI l o i:=by
 intro k
 induction k with
 | zero=>intro i o h1 h2;omega
 | succ k ih=>
  intro i o h1 h2
  rw [caseKI,List.drop_eq_getElem_cons h2]
  by_cases h:i + 1 < l.length
  ·rw [dif_pos h]
   have hd:=List.drop_eq_getElem_cons h
   rw [hd]
   simp only [caseKinds]
   rw [← hd,ih (i + 1) _ (by omega) h,ih (i + 1) _ (by omega) h]
   rfl
  ·rw [dif_neg h,List.drop_eq_nil_of_le (by omega)]
   rfl
def cmpText (s t:ByteArray) (i:Nat):Int:=
 if h:i < s.size∧i < t.size then
  (if ((s[i]'h.1).toNat:Int) != ((t[i]'h.2).toNat:Int) then (if decide (((s[i]'h.1).toNat:Int) < ((t[i]'h.2).toNat:Int)) then -1 else 1) else cmpText s t (i + 1))
 else if (s.size:Int) != t.size then (if decide ((s.size:Int) < t.size) then -1 else 1) else 0
termination_by s.size - i
theorem cmpText_eq (s t:ByteArray) (i:Nat):cmpText s t i=if h:i < s.size∧i < t.size then
  (if ((s[i]'h.1).toNat:Int) != ((t[i]'h.2).toNat:Int) then (if decide (((s[i]'h.1).toNat:Int) < ((t[i]'h.2).toNat:Int)) then -1 else 1) else cmpText s t (i + 1))
 else if (s.size:Int) != t.size then (if decide ((s.size:Int) < t.size) then -1 else 1) else 0:=by rw [cmpText]
def compareV (v w:Val):Int:=
 if v.kind != w.kind then (if decide (v.kind < w.kind) then -1 else 1)
 else if v.int != w.int then (if decide (v.int < w.int) then -1 else 1)
 else cmpText v.text w.text 0
def catText (s t:ByteArray):ByteArray:=(s ++ t).extract 0 (if ((200:Int) < ((s ++ t).size:Int)) then 200 else ((s ++ t).size:Int)).toNat
def hdV (l:List Val):Val:=l.headD nullW
def lastV (l:List Val):Val:=l.getLastD nullW
def strictV (op:Int) (l:List Val):Val:=
 let x:=hdV l
 let y:=lastV l
 let c:=compareV x y
 if op == 4 then intW (w64 (x.int + y.int)) else if op == 5 then intW (w64 (x.int - y.int)) else if op == 6 then intW (w64 (x.int * y.int))
 else if op == 7 || op == 8 then divided op x.int y.int else if op == 9 then intW (w64 (0 - x.int)) else if op == 10 then textW (catText x.text y.text)
 else if op == 11 then intW x.text.size else if op == 12 then boolW (c == 0) else if op == 13 then boolW (!(c == 0)) else if op == 14 then boolW (decide (c < 0))
 else if op == 15 then boolW (decide (c ≤ 0)) else if op == 16 then boolW (decide (c > 0)) else boolW (decide (c ≥ 0))
def caseV (last:Val):List Val→Val
 | c :: v :: r=>if trueV c then v else caseV last r
 | _=>last
def coalV:List Val→Val
 | []=>nullW
 | v :: r=>if !(v.kind == 0) then v else coalV r
def anyNullV:List Val→Bool
 | []=>false
 | v :: r=>if v.kind == 0 then true else anyNullV r
def valueV (e:Expr) (l:List Val):Val:=
 if e.op == 3 then e.lit else if e.op == 18 then boolW (l.getD 0 nullW == l.getD 1 nullW) else if e.op == 19 then andV l else if e.op == 20 then orVs l
 else if e.op == 21 then notV (l.getD 0 nullW) else if e.op == 22 then boolW ((l.getD 0 nullW).kind == 0) else if e.op == 23 then boolW (trueV (l.getD 0 nullW))
 else if e.op == 24 then caseV (lastV l) l else if e.op == 25 then coalV l else if anyNullV l then nullW else strictV e.op l
end Go.Proofs.YtgiedlcjlalpcaaGreat
namespace Go.Proofs.YtgiedlcjlalpcaaGreat
open Go.Abs
mutual
def wf:Expr→Bool
 | .mk op n m k v args r=>nodeR (.mk op n m k v args r) && wfL args
def wfL:List Expr→Bool
 | []=>true
 | a :: r=>wf a && wfL r
end
theorem wf_eq (e:Expr):wf e=(nodeR e && wfL e.args):=by cases e;rfl
theorem wfL_iff:∀ (l:List Expr),wfL l=true ↔ ∀ a ∈ l,wf a=true
 | []=>by simp [wfL]
 | a :: r=>by simp [wfL,wfL_iff r]
theorem wf_node {e:Expr} (h:wf e=true):nodeR e=true:=by
 rw [wf_eq] at h;simp at h;exact h.1
theorem wf_arg {e:Expr} (h:wf e=true):∀ a ∈ e.args,wf a=true:=by
 rw [wf_eq] at h;simp at h;exact (wfL_iff _).1 h.2
theorem wf_get {e:Expr} (h:wf e=true) {i:Nat} (hi:i < e.args.length):wf (e.args[i])=true:=wf_arg h _ (List.getElem_mem hi)
mutual
theorem shaped_wf:∀ (e:Expr) {d:Int},shaped d e=true→wf e=true
 | .mk op n m k v args r,d,h=>by
  have h1:=shaped_node h
  rw [wf_eq,h1]
  exact shapedL_wf args (shaped_arg h)
theorem shapedL_wf:∀ (l:List Expr) {d:Int},(∀ a ∈ l,shaped d a=true)→wfL l=true
 | [],d,h=>rfl
 | a :: r,d,h=>by
  simp only [wfL,Bool.and_eq_true]
  exact ⟨shaped_wf a (h a (by simp)),shapedL_wf r fun b hb=>h b (by simp [hb])⟩
end
theorem nodeR_lit {e:Expr} (h:nodeR e=true) (h3:e.op=3):rightV e.lit=true∧real e.kind=true∧(e.lit.kind=0 ∨ e.lit.kind=e.kind)∧e.n=0∧e.m=0∧e.args=[]∧e.rels=[]:=by
 simp only [nodeR,h3,bareR] at h
 simp at h
 obtain ⟨⟨⟨⟨⟨⟨h1,h2⟩,h4⟩,h5⟩,h6⟩,h7⟩,h8⟩:=h
 exact ⟨h5,h4,h6,h1,h2,h7,h8⟩
theorem rightV_size {v:Val} (h:rightV v=true):v.text.size ≤ 200:=by
 unfold rightV noText at h
 have h0:∀ s:ByteArray,(s == (⟨#[]⟩:ByteArray))=true→s.size ≤ 200:=by
  intro s hs
  have:s=⟨#[]⟩:=by simpa using hs
  subst this
  decide
 split at h
 ·simp only [Bool.and_eq_true] at h;exact h0 _ h.2
 ·split at h
  ·exact h0 _ h
  ·split at h
   ·simp only [Bool.and_eq_true] at h;exact h0 _ h.2
   ·split at h
    ·simp only [Bool.and_eq_true,decide_eq_true_eq] at h;omega
    ·cases h
theorem nodeR_rels {e:Expr} (h:nodeR e=true):e.rels=[]:=by
 by_cases h3:e.op=3
 ·exact (nodeR_lit h h3).2.2.2.2.2.2
 ·simp only [nodeR] at h
  simp [h3] at h
  exact h.1.2
structure Inner (e:Expr):Prop where
 n:e.n=0
 m:e.m=0
 kind:e.kind=0
 lit:e.lit=nullW
 many:many e.op e.args.length=true
 lo:4 ≤ e.op
 hi:e.op ≤ 25
theorem nodeR_inner {e:Expr} (h:nodeR e=true) (h1:e.op ≠ 1) (h2:e.op ≠ 2) (h3:e.op ≠ 3):Inner e:=by
 simp only [nodeR,bareR] at h
 simp [h1,h2,h3] at h
 obtain ⟨⟨⟨⟨⟨a,b⟩,c⟩,d⟩,_⟩,⟨f,g⟩,i⟩:=h
 exact ⟨a,b,c,d,i,f,g⟩
theorem nodeR_leaf {e:Expr} (h:nodeR e=true) (h1:e.op=1 ∨ e.op=2):e.args=[]:=by
 simp only [nodeR] at h
 rcases h1 with h1 | h1 <;> simp [h1] at h <;> exact h.2
theorem many_le {op n:Int} (h:many op n=true):n ≤ 16:=by
 unfold many at h
 split at h
 ·simp at h;omega
 ·split at h
  ·simp at h;omega
  ·split at h
   ·simp at h;omega
   ·simp at h;omega
theorem nodeR_len {e:Expr} (h:nodeR e=true):e.args.length ≤ 16:=by
 by_cases h1:e.op=1
 ·rw [nodeR_leaf h (.inl h1)];simp
 ·by_cases h2:e.op=2
  ·rw [nodeR_leaf h (.inr h2)];simp
  ·by_cases h3:e.op=3
   ·rw [(nodeR_lit h h3).2.2.2.2.2.1];simp
   ·have:=many_le (nodeR_inner h h1 h2 h3).many
    omega
theorem wf_len {e:Expr} (h:wf e=true):e.args.length ≤ 16:=nodeR_len (wf_node h)
end Go.Proofs.YtgiedlcjlalpcaaGreat
namespace Go.Proofs.YtgiedlcjlalpcaaGreat
open Go.Abs
def setA (e:Expr) (l:List Expr):Expr:=.mk e.op e.n e.m e.kind e.lit l e.rels
def hdE (l:List Expr):Expr:=l.headD zeroE
def oneOr (e:Expr) (l:List Expr):Expr:=if (l.length:Int) == 1 then hdE l else setA e l
def withoutE (e:Expr) (i:Nat):Expr:=oneOr e (e.args.take i ++ e.args.drop (i + 1))
theorem hdE_get {l:List Expr} (h:0 < l.length):l[0]=hdE l:=by
 cases l with
 | nil=>simp at h
 | cons a r=>rfl
theorem hdE_get? {l:List Expr} (h:0 < l.length):l[0]? = some (hdE l):=by
 cases l with
 | nil=>simp at h
 | cons a r=>rfl
theorem getD_E (l:List Expr) (i:Nat) (h:i < l.length):l.getD i zeroE=l[i]:=by simp [List.getD_eq_getElem?_getD,h]
def constL (e:Expr) (cols:List Col) (acc:List Val):List Expr→Expr × Bool
 | []=>(litE (kindE cols e).1.kind (valueV e acc),true)
 | a :: r=>if isLit a then constL e cols (acc ++ [a.lit]) r else (e,false)
def constantE (e:Expr) (cols:List Col):Expr × Bool:=constL e cols [] e.args
def joins (e a:Expr):Bool:=a.op == e.op && decide ((e.args.length:Int) - 1 + a.args.length ≤ 16)
def spliceE (e:Expr) (i:Nat) (a:Expr):Expr:=setA e (e.args.take i ++ a.args ++ e.args.drop (i + 1))
def goneL (a:Expr) (g:Bool):List Expr→Bool
 | []=>g
 | x :: r=>goneL a (g || sameE x a) r
def list3 (e:Expr) (and:Bool):List Expr→Expr × Bool
 | []=>(e,false)
 | a :: r=>if isV a (boolW (!and)) then (truthE (!and),true) else list3 e and r
def list2 (e:Expr) (and:Bool):List Expr→Nat→Expr × Bool
 | [],_=>list3 e and e.args
 | a :: r,i=>if goneL a (isV a (boolW and)) (e.args.take i) then (withoutE e i,true) else list2 e and r (i + 1)
def list1 (e:Expr) (and:Bool):List Expr→Nat→Expr × Bool
 | [],_=>list2 e and e.args 0
 | a :: r,i=>if joins e a then (spliceE e i a,true) else list1 e and r (i + 1)
def listedE (e:Expr) (and:Bool):Expr × Bool:=list1 e and e.args 0
def notE (a:Expr):Expr × Bool:=
 if a.op == 21 then (hdE a.args,true)
 else if decide (a.op ≥ 12) && decide (a.op ≤ 17) then (opE (opposite a.op) a.args,true)
 else if a.op == 19 || a.op == 20 then (opE (39 - a.op) (a.args.map fun x=>opE 21 [x]),true)
 else (a,false)
def lastE (l:List Expr):Expr:=l.getLastD zeroE
def nullE (cols:List Col) (e:Expr):Bool:=(kindE cols e).1.null
def computedE (e:Expr) (cols:List Col):Expr × Bool:=
 let a:=hdE e.args
 let b:=lastE e.args
 if e.op == 4 && isV b (intW 0) || e.op == 5 && isV b (intW 0) || e.op == 6 && isV b (intW 1) || e.op == 7 && isV b (intW 1) || e.op == 10 && isV b (textW ⟨#[]⟩) then (a,true)
 else if e.op == 4 && isV a (intW 0) || e.op == 6 && isV a (intW 1) || e.op == 10 && isV a (textW ⟨#[]⟩) then (b,true)
 else if e.op == 6 && isV b (intW 0) && !nullE cols a || e.op == 6 && isV a (intW 0) && !nullE cols b then (litE 1 (intW 0),true)
 else (e,false)
def comparedE (e:Expr) (cols:List Col) (a b:Expr):Expr × Bool:=
 if isLit a && !isLit b then (opE (exchanged e.op) [b,a],true)
 else if e.op == 12 && isV b (boolW true) then (a,true)
 else if e.op == 12 && isV b (boolW false) then (opE 21 [a],true)
 else if sameE a b && !nullE cols a then (truthE (e.op == 12 || e.op == 15 || e.op == 17),true)
 else (e,false)
def sameStepE (cols:List Col) (a b:Expr):Expr × Bool:=
 if sameE a b then (truthE true,true) else if isNull a then (opE 22 [b],true) else if isNull b then (opE 22 [a],true)
 else (opE 12 [a,b], !nullE cols a && !nullE cols b)
def case2 (e:Expr) (n i:Nat):Expr × Bool:=
 if h:i < n then (if sameE (e.args.getD i zeroE) (lastE e.args) then case2 e n (i + 2) else (e,false)) else (lastE e.args,true)
termination_by n - i
def case1 (e:Expr) (n i:Nat):Expr × Bool:=
 if h:i < n then
  (if isLit (e.args.getD i zeroE) then
   (oneOr e (if trueV (e.args.getD i zeroE).lit then e.args.take i ++ [e.args.getD (i + 1) zeroE] else e.args.take i ++ e.args.drop (i + 2)),true)
  else case1 e n (i + 2))
 else case2 e n 1
termination_by n - i
def casesE (e:Expr):Expr × Bool:=case1 e (e.args.length - 1) 0
def first2 (e:Expr) (cols:List Col) (n i:Nat):Expr × Bool:=
 if h:i < n then
  (if nullE cols (e.args.getD i zeroE) then first2 e cols n (i + 1) else (if i=0 then hdE e.args else setA e (e.args.take (i + 1)),true))
 else (e,false)
termination_by n - i
def first1 (e:Expr) (cols:List Col):List Expr→Nat→Expr × Bool
 | [],_=>first2 e cols (e.args.length - 1) 0
 | a :: r,i=>if isNull a then (withoutE e i,true) else first1 e cols r (i + 1)
def firstE (e:Expr) (cols:List Col):Expr × Bool:=first1 e cols e.args 0
def strictL (e:Expr) (cols:List Col):List Expr→Expr × Bool
 | []=>if decide (e.op ≥ 12) && decide (e.op ≤ 17) then comparedE e cols (hdE e.args) (lastE e.args) else computedE e cols
 | a :: r=>if isNull a then (litE (kindE cols e).1.kind nullW,true) else strictL e cols r
def stepE (e:Expr) (cols:List Col):Expr × Bool:=
 if (e.args.length:Int) == 0 then (e,false)
 else if (constantE e cols).2 then ((constantE e cols).1,true)
 else if e.op == 19 then listedE e true
 else if e.op == 20 then listedE e false
 else if e.op == 21 then notE (hdE e.args)
 else if e.op == 22 then (truthE false, !nullE cols (hdE e.args))
 else if e.op == 23 then (hdE e.args, !nullE cols (hdE e.args))
 else if e.op == 18 then sameStepE cols (hdE e.args) (lastE e.args)
 else if e.op == 24 then casesE e
 else if e.op == 25 then firstE e cols
 else strictL e cols e.args
inductive Simp (cols:List Col):Expr→Expr→Prop where
 | stay (e:Expr) (xs:List Expr) (hl:e.args.length=xs.length) (h:∀ (i:Nat) (h1:i < e.args.length) (h2:i < xs.length),Simp cols e.args[i] xs[i]) (hs:(stepE (setA e xs) cols).2=false):Simp cols e (setA e xs)
 | go (e:Expr) (xs:List Expr) (y:Expr) (hl:e.args.length=xs.length) (h:∀ (i:Nat) (h1:i < e.args.length) (h2:i < xs.length),Simp cols e.args[i] xs[i]) (hs:(stepE (setA e xs) cols).2=true) (hy:Simp cols (stepE (setA e xs) cols).1 y):Simp cols e y
end Go.Proofs.YtgiedlcjlalpcaaGreat
namespace Go.Proofs.YtgiedlcjlalpcaaGreat
open Go.Abs
theorem wf_lit {k:Int} {v:Val} (hk:real k=true) (hv:rightV v=true) (h:v.kind=0 ∨ v.kind=k):wf (litE k v)=true:=by
 rw [wf_eq]
 simp only [litE,Expr.args,wfL,nodeR,bareR,Expr.op,Expr.n,Expr.m,Expr.kind,Expr.lit,Expr.rels,hk,hv]
 rcases h with h | h <;> simp [h]
theorem wf_op {op:Int} {l:List Expr} (h1:4 ≤ op) (h2:op ≤ 25) (hm:many op l.length=true) (hl:∀ a ∈ l,wf a=true):wf (opE op l)=true:=by
 rw [wf_eq,Bool.and_eq_true]
 refine ⟨?_,(wfL_iff _).2 hl⟩
 have n1:¬ op=1:=by omega
 have n2:¬ op=2:=by omega
 have n3:¬ op=3:=by omega
 unfold nodeR bareR
 simp [opE,Expr.op,Expr.n,Expr.m,Expr.kind,Expr.lit,Expr.rels,Expr.args,n1,n2,n3,h1,h2,hm]
theorem wf_setA {e:Expr} {l:List Expr} (hw:wf e=true) (hi:4 ≤ e.op) (hm:many e.op l.length=true) (hl:∀ a ∈ l,wf a=true):wf (setA e l)=true:=by
 have hn:=nodeR_inner (wf_node hw) (by omega) (by omega) (by omega)
 have hr:=nodeR_rels (wf_node hw)
 have:setA e l=opE e.op l:=by
  cases e with
  | mk op n m k v a r=>
   simp only [setA,opE,Expr.op,Expr.n,Expr.m,Expr.kind,Expr.lit,Expr.rels]
   have h1:=hn.n
   have h2:=hn.m
   have h3:=hn.kind
   have h4:=hn.lit
   simp only [Expr.n,Expr.m,Expr.kind,Expr.lit,Expr.rels] at h1 h2 h3 h4 hr
   subst h1;subst h2;subst h3;subst h4;subst hr
   rfl
 rw [this]
 exact wf_op hi hn.hi hm hl
end Go.Proofs.YtgiedlcjlalpcaaGreat
namespace Go.Proofs.YtgiedlcjlalpcaaGreat
open Go.Abs
def kd (cols:List Col) (e:Expr):Int:=(kindE cols e).1.kind
def okk (cols:List Col) (e:Expr):Bool:=(kindE cols e).2
theorem kindL_eq (cols:List Col):∀ (l:List Expr) (acc:List Col),kindL cols acc l=if l.all (okk cols) then some (acc ++ l.map fun a=>(kindE cols a).1) else none
 | [],acc=>by simp [kindL]
 | a :: r,acc=>by
  simp only [kindL,List.all_cons]
  by_cases h:(kindE cols a).2=true
  ·rw [if_pos h,kindL_eq cols r]
   simp [okk,h]
  ·rw [if_neg h]
   simp [okk,h]
theorem kindE_op (cols:List Col) (e:Expr) (h:3 ≤ e.op):kindE cols e=if e.args.all (okk cols) then combined e (e.args.map fun a=>(kindE cols a).1) else (zeroC,false):=by
 rw [kindE_eq,if_neg (by simp;omega),if_neg (by simp;omega),kindL_eq]
 split <;> rfl
def allK1 (k:Int) (ks:List Int):Bool:=ks.all fun x=>x == k
def caseOK (k:Int):List Int→Bool
 | []=>false
 | [v]=>v == k
 | t :: v :: r=>t == 2 && v == k && caseOK k r
def sig (op:Int) (ks:List Int) (k:Int):Bool:=
 if op == 4 || op == 5 || op == 6 || op == 9 || op == 7 || op == 8 then allK1 1 ks && k == 1
 else if op == 10 then allK1 3 ks && k == 3
 else if op == 11 then allK1 3 ks && k == 1
 else if op == 19 || op == 20 || op == 21 || op == 23 then allK1 2 ks && k == 2
 else if op == 22 then k == 2
 else if op == 24 then caseOK k ks
 else if op == 25 then allK1 k ks
 else allK1 (ks.headD 0) ks && k == 2
theorem allKind_map (k:Int):∀ (l:List Col),allKind k l=allK1 k (l.map Col.kind)
 | []=>rfl
 | c :: r=>by
  simp only [allKind,allK1,List.map_cons,List.all_cons]
  rw [allKind_map k r]
  by_cases h:c.kind=k <;> simp [h,allK1]
theorem hd_kind (l:List Col):(hd l).kind=(l.map Col.kind).headD 0:=by cases l <;> rfl
theorem caseKinds_ok (k:Int):∀ (n:Nat) (l:List Col) (out:Col) (i:Nat),l.length=2 * n + 1→i % 2=0→(l.getLastD zeroC).kind=out.kind →
  ((caseKinds out i l).2=true∧(caseKinds out i l).1.kind=k ↔ out.kind=k∧caseOK k (l.map Col.kind)=true)
 | 0,l,out,i,hl,hi,ho=>by
  match l,hl with
  | [c],_=>
   simp only [caseKinds,List.map_cons,List.map_nil,caseOK,beq_iff_eq]
   simp only [List.getLastD] at ho
   constructor
   ·rintro ⟨_,h⟩;exact ⟨h,ho.trans h⟩
   ·rintro ⟨h,_⟩;exact ⟨trivial,h⟩
 | n + 1,l,out,i,hl,hi,ho=>by
  match l,hl with
  | t :: v :: c :: r,hl=>
   have h0:((i:Int).tmod 2 == 0)=true:=by
    have:((i:Int)).tmod 2=((i % 2:Nat):Int):=rfl
    rw [this,hi];rfl
   have h1:((i:Int).tmod 2 == 1)=false:=by
    have:((i:Int)).tmod 2=((i % 2:Nat):Int):=rfl
    rw [this,hi];rfl
   have h2:(((i + 1:Nat):Int).tmod 2 == 0)=false:=by
    have:(((i + 1:Nat):Int)).tmod 2=(((i + 1) % 2:Nat):Int):=rfl
    rw [this,show (i + 1) % 2=1 by omega];rfl
   have h3:(((i + 1:Nat):Int).tmod 2 == 1)=true:=by
    have:(((i + 1:Nat):Int)).tmod 2=(((i + 1) % 2:Nat):Int):=rfl
    rw [this,show (i + 1) % 2=1 by omega];rfl
   have hr:(c :: r).length=2 * n + 1:=by simp at hl ⊢;omega
   have hlast:((c :: r).getLastD zeroC)=((t :: v :: c :: r).getLastD zeroC):=rfl
   simp only [caseKinds,h0,h1,h2,h3,Bool.true_and,Bool.false_and,Bool.or_false,Bool.false_or,Bool.false_eq_true,if_false,if_true,List.map_cons]
   by_cases ht:t.kind=2
   ·rw [if_neg (by simp [ht])]
    by_cases hv:v.kind=out.kind
    ·rw [if_neg (by simp [hv])]
     have ih:=caseKinds_ok k n (c :: r) ⟨out.kind,out.null || v.null⟩ (i + 1 + 1) hr (by omega) (by rw [hlast];exact ho)
     simp only [List.map_cons] at ih
     rw [ih]
     have hc:caseOK k (t.kind :: v.kind :: c.kind :: r.map Col.kind)=(t.kind == 2 && v.kind == k && caseOK k (c.kind :: r.map Col.kind)):=rfl
     rw [hc]
     simp only [ht,Bool.and_eq_true,beq_iff_eq,true_and]
     constructor
     ·rintro ⟨a,b⟩;exact ⟨a,hv.trans a,b⟩
     ·rintro ⟨a,_,b⟩;exact ⟨a,b⟩
    ·rw [if_pos (by simpa using hv)]
     simp only [Bool.false_eq_true,false_and,false_iff,not_and]
     intro ha hc
     have hc':(t.kind == 2 && v.kind == k && caseOK k (c.kind :: r.map Col.kind))=true:=hc
     simp only [Bool.and_eq_true,beq_iff_eq] at hc'
     exact hv (hc'.1.2.trans ha.symm)
   ·rw [if_pos (by simpa using ht)]
    simp only [Bool.false_eq_true,false_and,false_iff,not_and]
    intro ha hc
    have hc':(t.kind == 2 && v.kind == k && caseOK k (c.kind :: r.map Col.kind))=true:=hc
    simp only [Bool.and_eq_true,beq_iff_eq] at hc'
    exact ht hc'.1.1
theorem caseOK_last (k:Int):∀ (n:Nat) (l:List Col),l.length=2 * n + 1→caseOK k (l.map Col.kind)=true→(l.getLastD zeroC).kind=k
 | 0,l,hl,h=>by
  match l,hl with
  | [c],_=>simpa [caseOK] using h
 | n + 1,l,hl,h=>by
  match l,hl with
  | t :: v :: c :: r,hl=>
   have h':(t.kind == 2 && v.kind == k && caseOK k ((c :: r).map Col.kind))=true:=h
   simp only [Bool.and_eq_true] at h'
   exact caseOK_last k n (c :: r) (by simp at hl ⊢;omega) h'.2
theorem kind_node (cols:List Col) (e:Expr) (hw:wf e=true) (h4:4 ≤ e.op) (k:Int) :
  (okk cols e=true∧kd cols e=k) ↔ (∀ a ∈ e.args,okk cols a=true)∧sig e.op (e.args.map (kd cols)) k=true:=by
 have hi:=nodeR_inner (wf_node hw) (by omega) (by omega) (by omega)
 have hh:=hi.hi
 unfold okk kd
 rw [kindE_op cols e (by omega)]
 by_cases ha:(e.args.all (okk cols))=true
 ·rw [if_pos ha]
  have ha':∀ a ∈ e.args,(kindE cols a).2=true:=by simpa [okk] using ha
  rw [iff_comm,and_iff_right ha',iff_comm]
  have hmap:e.args.map (kd cols)=(e.args.map fun a=>(kindE cols a).1).map Col.kind:=by simp [kd]
  rw [show (e.args.map fun a=>(kindE cols a).1.kind)=(e.args.map fun a=>(kindE cols a).1).map Col.kind by simp]
  generalize hks:(e.args.map fun a=>(kindE cols a).1)=ks
  have hlen:ks.length=e.args.length:=by rw [← hks];simp
  have n3:¬ e.op=3:=by omega
  have cases:e.op=4 ∨ e.op=5 ∨ e.op=6 ∨ e.op=7 ∨ e.op=8 ∨ e.op=9 ∨ e.op=10 ∨ e.op=11 ∨ e.op=12 ∨ e.op=13 ∨ e.op=14 ∨ e.op=15 ∨ e.op=16 ∨ e.op=17 ∨ e.op=18 ∨ e.op=19 ∨ e.op=20 ∨ e.op=21 ∨ e.op=22 ∨ e.op=23 ∨ e.op=24 ∨ e.op=25:=by omega
  have hm:=hi.many
  rcases cases with h | h | h | h | h | h | h | h | h | h | h | h | h | h | h | h | h | h | h | h | h | h
  case inr.inr.inr.inr.inr.inr.inr.inr.inr.inr.inr.inr.inr.inr.inr.inr.inr.inr.inr.inr.inl=>
   have hodd:ks.length % 2=1:=by
    unfold many at hm
    rw [if_neg (by simp [h]),if_neg (by simp [h]),if_pos (by simp [h])] at hm
    have ht:((e.args.length:Int)).tmod 2=((e.args.length % 2:Nat):Int):=rfl
    rw [ht] at hm
    simp at hm;omega
   have h1:=caseKinds_ok k (ks.length / 2) ks (ks.getLastD zeroC) 0 (by omega) rfl rfl
   have h2:=caseOK_last k (ks.length / 2) ks (by omega)
   rw [show combined e ks=caseKinds (ks.getLastD zeroC) 0 ks by simp [combined,h],show sig e.op (ks.map Col.kind) k=caseOK k (ks.map Col.kind) by simp [sig,h],h1]
   exact ⟨fun x=>x.2,fun x=>⟨h2 x,x⟩⟩
  case inr.inr.inr.inr.inr.inr.inr.inr.inr.inr.inr.inr.inr.inr.inr.inr.inr.inr.inr.inr.inr=>
   rw [show combined e ks=(⟨(hd ks).kind,everyNull true ks⟩,allKind (hd ks).kind ks) by simp [combined,h],show sig e.op (ks.map Col.kind) k=allK1 k (ks.map Col.kind) by simp [sig,h]]
   simp only [allKind_map]
   have hne:ks ≠ []:=by
    intro h0
    rw [h0] at hlen
    have:=many_pos hm
    simp at hlen
    omega
   match ks,hne with
   | c :: r,_=>
    have hc:(hd (c :: r)).kind=c.kind:=rfl
    rw [hc]
    constructor
    ·rintro ⟨h1,rfl⟩;exact h1
    ·intro h1
     have:c.kind=k:=by
      simp only [allK1,List.map_cons,List.all_cons,Bool.and_eq_true,beq_iff_eq] at h1
      exact h1.1
     exact ⟨this ▸ h1,this⟩
  all_goals simp only [combined,sig,h]
  all_goals simp [allKind_map,hd_kind]
  all_goals first | exact fun _=>eq_comm | exact eq_comm | skip
 ·rw [if_neg ha]
  simp only [Bool.false_eq_true,false_and,false_iff,not_and]
  intro hall
  exact absurd (by simpa [okk] using hall) ha
end Go.Proofs.YtgiedlcjlalpcaaGreat
namespace Go.Proofs.YtgiedlcjlalpcaaGreat
open Go.Abs
structure Has (cols:List Col) (e:Expr) (k:Int):Prop where
 wf:wf e=true
 ok:okk cols e=true
 kind:kd cols e=k
theorem kind_lit (cols:List Col) (e:Expr) (h:e.op=3):kindE cols e=if e.args.all (okk cols) then (⟨e.kind,e.lit.kind == 0⟩,true) else (zeroC,false):=by
 rw [kindE_op cols e (by omega)]
 simp [combined,h]
theorem has_lit {cols:List Col} {k:Int} {v:Val} (hk:real k=true) (hv:rightV v=true) (h:v.kind=0 ∨ v.kind=k):Has cols (litE k v) k:=by
 have h3:kindE cols (litE k v)=(⟨k,v.kind == 0⟩,true):=by rw [kind_lit cols (litE k v) rfl];rfl
 refine ⟨wf_lit hk hv h,?_,?_⟩
 ·rw [okk,h3]
 ·rw [kd,h3]
theorem has_truth (cols:List Col) (b:Bool):Has cols (truthE b) 2:=has_lit rfl (by cases b <;> decide) (.inr rfl)
structure IsLit (e:Expr) (k:Int):Prop where
 right:rightV e.lit=true
 real:real k=true
 kinds:e.lit.kind=0 ∨ e.lit.kind=k
theorem has_isLit {cols:List Col} {e:Expr} {k:Int} (h:Has cols e k) (h3:e.op=3):IsLit e k:=by
 obtain ⟨g1,g2,g3,_,_,g6,_⟩:=nodeR_lit (wf_node h.wf) h3
 have hk:=kind_lit cols e h3
 have:e.kind=k:=by
  have:=h.kind
  simp only [kd,hk,g6] at this
  simpa using this
 subst this
 exact ⟨g1,g2,g3⟩
theorem has_elim {cols:List Col} {e:Expr} {k:Int} (h:Has cols e k) (h4:4 ≤ e.op):(∀ a ∈ e.args,Has cols a (kd cols a))∧sig e.op (e.args.map (kd cols)) k=true:=by
 obtain ⟨h1,h2⟩:=(kind_node cols e h.wf h4 k).1 ⟨h.ok,h.kind⟩
 exact ⟨fun a ha=>⟨wf_arg h.wf a ha,h1 a ha,rfl⟩,h2⟩
theorem has_of {cols:List Col} {e:Expr} {k:Int} (hw:wf e=true) (h4:4 ≤ e.op) (ha:∀ a ∈ e.args,okk cols a=true) (hs:sig e.op (e.args.map (kd cols)) k=true):Has cols e k:=by
 obtain ⟨h1,h2⟩:=(kind_node cols e hw h4 k).2 ⟨ha,hs⟩
 exact ⟨hw,h1,h2⟩
theorem has_op {cols:List Col} {op:Int} {l:List Expr} {k:Int} (h1:4 ≤ op) (h2:op ≤ 25) (hm:many op l.length=true) (hl:∀ a ∈ l,Has cols a (kd cols a)) (hs:sig op (l.map (kd cols)) k=true):Has cols (opE op l) k:=
 has_of (wf_op h1 h2 hm fun a ha=>(hl a ha).wf) h1 (fun a ha=>(hl a ha).ok) hs
theorem has_set {cols:List Col} {e:Expr} {l:List Expr} {k:Int} (hw:wf e=true) (h4:4 ≤ e.op) (hm:many e.op l.length=true) (hl:∀ a ∈ l,Has cols a (kd cols a)) (hs:sig e.op (l.map (kd cols)) k=true):Has cols (setA e l) k:=
 has_of (wf_setA hw h4 hm fun a ha=>(hl a ha).wf) h4 (fun a ha=>(hl a ha).ok) hs
theorem right_int (n:Int):rightV (intW n)=true:=by
 simp [rightV,intW,noText]
theorem right_bool (b:Bool):rightV (boolW b)=true:=by cases b <;> decide
theorem right_null:rightV nullW=true:=by decide
theorem printFrom_iff (s:ByteArray):∀ (d i:Nat),s.size - i=d→(printFrom s i=true ↔ ∀ j (h:j < s.size),i ≤ j→badByte (s[j]'h)=false)
 | 0,i,hd=>by
  rw [printFrom,dif_neg (by omega)]
  exact ⟨fun _ j h hj=>by omega,fun _=>rfl⟩
 | d + 1,i,hd=>by
  have hi:i < s.size:=by omega
  rw [printFrom,dif_pos hi]
  by_cases hb:badByte s[i]=true
  ·rw [if_pos hb]
   constructor
   ·intro h;cases h
   ·intro h;rw [h i hi (Nat.le_refl _)] at hb;cases hb
  ·rw [if_neg hb,printFrom_iff s d (i + 1) (by omega)]
   constructor
   ·intro h j hj hij
    by_cases e:i=j
    ·subst e;simpa using hb
    ·exact h j hj (by omega)
   ·intro h j hj hij
    exact h j hj (by omega)
theorem printable_iff (s:ByteArray):printable s=true ↔ ∀ j (h:j < s.size),badByte (s[j]'h)=false:=by
 rw [printable,printFrom_iff s s.size 0 (by omega)]
 exact ⟨fun h j hj=>h j hj (Nat.zero_le _),fun h j hj _=>h j hj⟩
theorem right_text {v:Val} (h:rightV v=true) (h3:v.kind=3):v.text.size ≤ 200∧printable v.text=true:=by
 simp only [rightV,h3] at h
 simp at h
 exact ⟨by omega,h.2⟩
theorem right_cat {x y:ByteArray} (hx:printable x=true) (hy:printable y=true):rightV (textW (catText x y))=true:=by
 have hsz:(catText x y).size ≤ 200:=by
  unfold catText
  rw [ByteArray.size_extract]
  split <;> omega
 have hp:printable (catText x y)=true:=by
  rw [printable_iff] at hx hy ⊢
  intro j hj
  have hj2:j < (x ++ y).size:=by
   unfold catText at hj
   rw [ByteArray.size_extract] at hj
   omega
  have e0:∀ (n:Nat) (h:j < ((x ++ y).extract 0 n).size),((x ++ y).extract 0 n)[j]'h=(x ++ y)[j]:=by
   intro n h
   rw [ByteArray.getElem_extract]
   simp
  have e:(catText x y)[j]=(x ++ y)[j]:=e0 _ hj
  rw [e]
  by_cases hjx:j < x.size
  ·rw [ByteArray.getElem_append_left hjx];exact hx j hjx
  ·rw [ByteArray.getElem_append_right (by omega)]
   exact hy _ _
 have hs':((catText x y).size:Int) ≤ 200:=by omega
 simp only [rightV,textW]
 simp [hp,hs']
end Go.Proofs.YtgiedlcjlalpcaaGreat
namespace Go.Abs
def roundsA (cfg:Cfg) (base:Base) (Q:Program) (c:Code) (R:Ex→St→Prop):Nat→St→Prop
 | 0,_=>False
 | n + 1,S=>wpA cfg base Q c (thenR (roundsA cfg base Q c R n) R) S
theorem roundsA_succ {cfg:Cfg} {base:Base} {Q:Program} {c:Code} {R:Ex→St→Prop} {n:Nat} {S:St} (h:wpA cfg base Q c (thenR (roundsA cfg base Q c R n) R) S):roundsA cfg base Q c R (n + 1) S:=h
theorem wpA_rounds {cfg:Cfg} {base:Base} {Q:Program} {c:Code} {R:Ex→St→Prop} (n:Nat) {S:St} (h:roundsA cfg base Q c R n S):wpA cfg base Q (.loop c) R S:=by
 refine wpA_loop (fun n S=>roundsA cfg base Q c R n S) h fun n S h=>?_
 cases n with
 | zero=>exact h.elim
 | succ n=>
  refine wpA_mono h fun e S' h'=>?_
  cases e with
  | normal=>exact ⟨n,Nat.lt_succ_self n,h'⟩
  | _=>exact h'
theorem roundsA_next {cfg:Cfg} {base:Base} {Q:Program} {c:Code} {R:Ex→St→Prop} {n:Nat} {S:St} (T:St) (h:St.le [] S T) (k:wpA cfg base Q c (thenR (roundsA cfg base Q c R n) R) T):roundsA cfg base Q c R (n + 1) S:=wpA_le [] T h k
end Go.Abs
