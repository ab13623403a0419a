/- Part of a proof: R1 D4 Maps3 Rng Rng2 Rng3. -/
import Derived.Lib.Strings
import Derived.Maps.RangeRun
import Derived.Test.YtgiedlcjlalpcaaGreatPb05
import Derived.Test.YtgiedlcjlalpcaaGreatPb08
import Derived.Test.YtgiedlcjlalpcaaGreatPb12
import Derived.Test.YtgiedlcjlalpcaaGreatPb13
import Derived.Test.YtgiedlcjlalpcaaGreatPb14
set_option linter.all false
namespace Go.Proofs.YtgiedlcjlalpcaaGreat
open Go.Abs
theorem lit_eta {x:Expr} (hx:wf x=true) (h3:x.op=3) {v:Val} (hv:v.kind ≠ 0) (h:x.lit=v):x=litE v.kind v:=by
 obtain ⟨_,_,g3,g4,g5,g6,g7⟩:=nodeR_lit (wf_node hx) h3
 cases x with
 | mk op n m k w args r=>
  simp only [Expr.op,Expr.n,Expr.m,Expr.kind,Expr.lit,Expr.args,Expr.rels] at *
  subst h3;subst g4;subst g5;subst g6;subst g7;subst h
  rcases g3 with g | g
  ·exact absurd g hv
  ·rw [litE,g]
theorem litE_op (k:Int) (v:Val):(litE k v).op=3:=rfl
theorem litE_n (k:Int) (v:Val):(litE k v).n=0:=rfl
theorem litE_m (k:Int) (v:Val):(litE k v).m=0:=rfl
theorem litE_kind (k:Int) (v:Val):(litE k v).kind=k:=rfl
theorem litE_lit (k:Int) (v:Val):(litE k v).lit=v:=rfl
theorem litE_args (k:Int) (v:Val):(litE k v).args=[]:=rfl
theorem same_isV {x:Expr} (hx:wf x=true) (v:Val) (hv:v.kind ≠ 0):sameE x (litE v.kind v)=isV x v:=by
 rw [sameE_and _ _ (nodeR_rels (wf_node hx)) rfl]
 unfold isV
 rw [litE_op,litE_n,litE_m,litE_kind,litE_lit,litE_args]
 by_cases h3:x.op=3
 ·by_cases hl:x.lit=v
  ·obtain ⟨_,_,g3,g4,g5,g6,g7⟩:=nodeR_lit (wf_node hx) h3
   have hk:x.kind=v.kind:=by
    rcases g3 with g | g
    ·rw [hl] at g;exact absurd g hv
    ·rw [← g,hl]
   rw [h3,g4,g5,g6,hk,hl]
   simp [eqL]
  ·have hl':(x.lit == v)=false:=by simpa using hl
   simp [hl']
 ·have h3':(x.op == 3)=false:=by simpa using h3
  simp [h3']
theorem same_truth {x:Expr} (hx:wf x=true) (b:Bool):sameE x (truthE b)=isV x (boolW b):=same_isV hx (boolW b) (by cases b <;> decide)
theorem same_num {x:Expr} (hx:wf x=true) (n:Int):sameE x (numE n)=isV x (intW n):=same_isV hx (intW n) (show (1:Int) ≠ 0 by decide)
theorem same_empty {x:Expr} (hx:wf x=true):sameE x emptyE=isV x (textW ⟨#[]⟩):=same_isV hx (textW ⟨#[]⟩) (by decide)
theorem goneL_any (a:Expr):∀ (l:List Expr) (g:Bool),goneL a g l=(g || l.any fun x=>sameE x a)
 | [],g=>by simp [goneL]
 | x :: r,g=>by rw [goneL,goneL_any a r];simp [Bool.or_assoc]
theorem list3_any (e:Expr) (and:Bool):∀ (l:List Expr),list3 e and l=if l.any (fun a=>isV a (boolW (!and))) then (truthE (!and),true) else (e,false)
 | []=>rfl
 | a :: r=>by
  rw [list3,list3_any e and r]
  by_cases h:isV a (boolW (!and))=true
  ·simp [h]
  ·simp [h]
theorem jn3_eq {e:Expr} (hw:∀ a ∈ e.args,wf a=true) (b:Bool):jn3 e (truthE (!b))=list3 e b e.args:=by
 rw [list3_any,jn3]
 have:e.args.any (fun a=>sameE a (truthE (!b)))=e.args.any (fun a=>isV a (boolW (!b))):=by
  rw [Bool.eq_iff_iff]
  simp only [List.any_eq_true]
  constructor
  ·rintro ⟨a,ha,h⟩;exact ⟨a,ha,by rw [← same_truth (hw a ha)];exact h⟩
  ·rintro ⟨a,ha,h⟩;exact ⟨a,ha,by rw [same_truth (hw a ha)];exact h⟩
 rw [this]
theorem jn2_eq {e:Expr} (hw:∀ a ∈ e.args,wf a=true) (b:Bool):∀ (l:List Expr) (i:Nat),(∀ a ∈ l,wf a=true)→jn2 e (truthE b) (truthE (!b)) l i=list2 e b l i
 | [],i,_=>jn3_eq hw b
 | a :: r,i,h=>by
  rw [jn2,list2,goneL_any,same_truth (h a (by simp)),jn2_eq hw b r (i + 1) fun x hx=>h x (by simp [hx])]
theorem jn1_eq {e:Expr} (hw:∀ a ∈ e.args,wf a=true) (b:Bool):∀ (l:List Expr) (i:Nat),jn1 e (truthE b) (truthE (!b)) l i=list1 e b l i
 | [],i=>jn2_eq hw b e.args 0 hw
 | a :: r,i=>by rw [jn1,list1,jn1_eq hw b r (i + 1)]
theorem isTrue_lit {x:Expr} (hx:wf x=true) (h:isLit x=true):isTrue x=trueV x.lit:=by
 have h3:x.op=3:=by simpa [isLit] using h
 obtain ⟨g1,_⟩:=nodeR_lit (wf_node hx) h3
 unfold isTrue trueV
 rw [h3]
 have hb:(x.lit == boolW true)=(x.lit.kind == 2 && x.lit.int == 1):=by
  rw [Bool.eq_iff_iff]
  simp only [beq_iff_eq,Bool.and_eq_true]
  constructor
  ·intro h;rw [h];exact ⟨rfl,rfl⟩
  ·rintro ⟨h1,h2⟩
   have:rightV x.lit=true:=g1
   cases hl:x.lit with
   | mk k n t=>
    rw [hl] at h1 h2 this
    simp only at h1 h2
    subst h1;subst h2
    simp [rightV,noText] at this
    simp [boolW]
    exact this
 rw [hb];rfl
def firstLit (e:Expr) (n i:Nat):Option (Expr × Bool):=
 if h:i < n then
  (if isLit (e.args.getD i zeroE) then
   some (oneOr e (if trueV (e.args.getD i zeroE).lit then e.args.take i ++ [e.args.getD (i + 1) zeroE] else e.args.take i ++ e.args.drop (i + 2)),true)
  else firstLit e n (i + 2))
 else none
termination_by n - i
def allS (e:Expr) (n i:Nat):Bool:=
 if h:i < n then sameE (e.args.getD (i + 1) zeroE) (lastE e.args) && allS e n (i + 2) else true
termination_by n - i
theorem wf_zero_getD {e:Expr} (hw:∀ a ∈ e.args,wf a=true) {i:Nat} (hi:i < e.args.length):wf (e.args.getD i zeroE)=true:=by
 rw [getD_E _ _ hi];exact hw _ (List.getElem_mem hi)
theorem cs_first {e:Expr} (hw:∀ a ∈ e.args,wf a=true) (n:Nat) (hn:n + 1=e.args.length):∀ (d i:Nat) (k:Bool),n - i ≤ d→cs e n i k=(match firstLit e n i with | some r=>r | none=>if k && allS e n i then (lastE e.args,true) else (e,false))
 | 0,i,k,h=>by
  rw [cs,firstLit,allS,dif_neg (by omega),dif_neg (by omega),dif_neg (by omega)]
  simp
 | d + 1,i,k,h=>by
  rw [cs,firstLit,allS]
  by_cases hi:i < n
  ·rw [dif_pos hi,dif_pos hi,dif_pos hi]
   by_cases hl:isLit (e.args.getD i zeroE)=true
   ·rw [if_pos hl,if_pos hl,isTrue_lit (wf_zero_getD hw (by omega)) hl]
   ·rw [if_neg hl,if_neg hl,cs_first hw n hn d (i + 2) _ (by omega)]
    rw [Bool.and_assoc]
  ·rw [dif_neg hi,dif_neg hi,dif_neg hi]
   simp
theorem case1_first (e:Expr) (n:Nat):∀ (d i:Nat),n - i ≤ d→case1 e n i=(match firstLit e n i with | some r=>r | none=>case2 e n 1)
 | 0,i,h=>by rw [case1,firstLit,dif_neg (by omega),dif_neg (by omega)]
 | d + 1,i,h=>by
  rw [case1,firstLit]
  by_cases hi:i < n
  ·rw [dif_pos hi,dif_pos hi]
   by_cases hl:isLit (e.args.getD i zeroE)=true
   ·rw [if_pos hl,if_pos hl]
   ·rw [if_neg hl,if_neg hl,case1_first e n d (i + 2) (by omega)]
  ·rw [dif_neg hi,dif_neg hi]
theorem case2_all (e:Expr) (q:Nat):∀ (d m:Nat),q - m ≤ d→case2 e (2 * q) (2 * m + 1)=if allS e (2 * q) (2 * m) then (lastE e.args,true) else (e,false)
 | 0,m,h=>by rw [case2,allS,dif_neg (by omega),dif_neg (by omega)];rfl
 | d + 1,m,h=>by
  rw [case2,allS]
  by_cases hi:2 * m < 2 * q
  ·rw [dif_pos (show 2 * m + 1 < 2 * q by omega),dif_pos hi]
   by_cases hl:sameE (e.args.getD (2 * m + 1) zeroE) (lastE e.args)=true
   ·rw [if_pos hl,hl,Bool.true_and]
    have:=case2_all e q d (m + 1) (by omega)
    rw [show 2 * (m + 1)=2 * m + 2 by omega] at this
    exact this
   ·rw [if_neg hl]
    rw [show sameE (e.args.getD (2 * m + 1) zeroE) (lastE e.args)=false by simpa using hl,Bool.false_and];rfl
  ·rw [dif_neg (show ¬ 2 * m + 1 < 2 * q by omega),dif_neg hi];rfl
theorem cs_eqE {e:Expr} (hw:∀ a ∈ e.args,wf a=true) (q:Nat) (hn:2 * q + 1=e.args.length):cs e (2 * q) 0 true=casesE e:=by
 rw [casesE,← hn,show 2 * q + 1 - 1=2 * q by omega,cs_first hw (2 * q) hn _ 0 true (Nat.le_refl _),case1_first e (2 * q) _ 0 (Nat.le_refl _)]
 have:=case2_all e q q 0 (by omega)
 rw [show 2 * 0 + 1=1 from rfl,show 2 * 0=0 from rfl] at this
 rw [this,Bool.true_and]
theorem first1_idx (e:Expr) (cols:List Col):∀ (l:List Expr) (i:Nat),first1 e cols l i=if 0 ≤ idxOf isNull l i then (withoutE e (idxOf isNull l i).toNat,true) else first2 e cols (e.args.length - 1) 0
 | [],i=>rfl
 | a :: r,i=>by
  rw [first1,idxOf]
  by_cases h:isNull a=true
  ·rw [if_pos h,if_pos h,if_pos (by omega)];rfl
  ·rw [if_neg h,if_neg h,first1_idx e cols r (i + 1)]
   rfl
def cut2 (e:Expr) (n:Nat) (x:Int):Expr × Bool:=
 if x < 0 ∨ x=n then (e,false) else if x=0 then (hdE e.args,true) else (setA e (e.args.take (x.toNat + 1)),true)
theorem first2_idx (e:Expr) (cols:List Col) (n:Nat) (hn:n + 1=e.args.length):∀ (d i:Nat),n - i=d→i ≤ n→first2 e cols n i=cut2 e n (idxOf (sure cols) (e.args.drop i) i)
 | 0,i,h,hi=>by
  obtain rfl:i=n:=by omega
  rw [first2,dif_neg (by omega)]
  have hx:idxOf (sure cols) (e.args.drop i) i=if sure cols (e.args[i]'(by omega)) then (i:Int) else -1:=by
   rw [List.drop_eq_getElem_cons (by omega),List.drop_eq_nil_of_le (by omega)]
   rfl
  rw [hx,cut2]
  by_cases hs:sure cols (e.args[i]'(by omega))=true
  ·simp [hs]
  ·simp [hs]
 | d + 1,i,h,hi=>by
  rw [first2,dif_pos (by omega),getD_E _ _ (by omega)]
  have hx:idxOf (sure cols) (e.args.drop i) i=if sure cols (e.args[i]'(by omega)) then (i:Int) else idxOf (sure cols) (e.args.drop (i + 1)) ((i + 1:Nat):Int):=by
   rw [List.drop_eq_getElem_cons (by omega)]
   rfl
  rw [hx]
  by_cases hs:nullE cols (e.args[i]'(by omega))=true
  ·have hs':sure cols (e.args[i]'(by omega))=false:=by simp [sure,hs]
   rw [if_pos hs,hs',first2_idx e cols n hn d (i + 1) (by omega) (by omega)]
   rfl
  ·have hs':sure cols (e.args[i]'(by omega))=true:=by simp [sure,hs]
   rw [if_neg hs,if_pos hs',cut2,if_neg (show ¬ ((i:Int) < 0 ∨ (i:Int)=n) by omega)]
   by_cases h0:i=0
   ·rw [if_pos h0,if_pos (by omega)]
   ·rw [if_neg h0,if_neg (by omega)];rfl
theorem co_eqE {e:Expr} (cols:List Col) (h0:2 ≤ e.args.length):co cols e=firstE e cols:=by
 rw [firstE,first1_idx]
 unfold co
 rw [show ((0:Nat):Int)=0 from rfl]
 split
 ·rfl
 ·rw [first2_idx e cols (e.args.length - 1) (by omega) _ 0 rfl (by omega)]
  unfold cut2
  rw [show ((e.args.length - 1:Nat):Int)=(e.args.length:Int) - 1 by omega]
  rfl
end Go.Proofs.YtgiedlcjlalpcaaGreat
namespace Go.Proofs.YtgiedlcjlalpcaaGreat
open Go.Abs
theorem right_nullW {v:Val} (h:rightV v=true) (h0:v.kind=0):v=nullW:=by
 simp only [rightV,h0] at h
 simp [noText] at h
 cases v with
 | mk k i t=>
  simp only at h h0
  obtain ⟨h1,h2⟩:=h
  subst h0;subst h1;subst h2
  rfl
theorem nullOr_eq (r:Val):∀ (l:List Val),(∀ v ∈ l,rightV v=true)→nullOr r l=if anyNullV l then nullW else r
 | [],_=>rfl
 | v :: t,h=>by
  simp only [nullOr,anyNullV]
  by_cases h0:v.kind=0
  ·have hv:=right_nullW (h v (by simp)) h0
   subst hv
   rfl
  ·simp [h0,nullOr_eq r t fun w hw=>h w (by simp [hw])]
def cmpLL:List UInt8→List UInt8→Int
 | [],[]=>0
 | [],_ :: _=>-1
 | _ :: _,[]=>1
 | a :: x,b :: y=>if a.toNat=b.toNat then cmpLL x y else if a.toNat < b.toNat then -1 else 1
theorem less_cmp:∀ (l m:List UInt8),(Op.bytesLess l m=true ↔ cmpLL l m = -1)∧(l=m ↔ cmpLL l m=0)∧(cmpLL l m = -1 ∨ cmpLL l m=0 ∨ cmpLL l m=1)
 | [],[]=>by simp [Op.bytesLess,cmpLL]
 | [],_ :: _=>by simp [Op.bytesLess,cmpLL]
 | _ :: _,[]=>by simp [Op.bytesLess,cmpLL]
 | a :: x,b :: y=>by
  obtain ⟨h1,h2,h3⟩:=less_cmp x y
  have hab:a=b ↔ a.toNat=b.toNat:=⟨fun h=>by rw [h],fun h=>UInt8.toNat_inj.1 h⟩
  have hlt:a < b ↔ a.toNat < b.toNat:=UInt8.lt_iff_toNat_lt
  simp only [cmpLL]
  by_cases he:a.toNat=b.toNat
  ·have hab':=hab.2 he
   subst hab'
   rw [if_pos rfl]
   refine ⟨?_,?_,h3⟩
   ·rw [← h1]
    simp [Op.bytesLess]
   ·rw [← h2];simp
  ·rw [if_neg he]
   have hne:¬ a=b:=fun h=>he (hab.1 h)
   by_cases hl:a.toNat < b.toNat
   ·rw [if_pos hl]
    simp [Op.bytesLess,hlt.2 hl,hne]
   ·rw [if_neg hl]
    have:¬ a < b:=fun h=>hl (hlt.1 h)
    simp [Op.bytesLess,this,hne]
theorem cmpS_LL (s t:ByteArray):cmpS s t=cmpLL s.data.toList t.data.toList:=by
 have hs:s.toList=s.data.toList:=ByteArray.toList_eq s
 have ht:t.toList=t.data.toList:=ByteArray.toList_eq t
 obtain ⟨h1,h2,h3⟩:=less_cmp s.data.toList t.data.toList
 have heq:(s == t)=true ↔ s.data.toList=t.data.toList:=by
  rw [beq_iff_eq]
  constructor
  ·rintro rfl;rfl
  ·intro h
   cases s;cases t
   simp only at h
   congr 1
   exact Array.toList_inj.1 h
 unfold cmpS
 rw [hs,ht]
 rcases h3 with h | h | h
 ·rw [if_pos (h1.2 h),h]
 ·have hl:¬ Op.bytesLess s.data.toList t.data.toList=true:=fun hh=>by rw [h1.1 hh] at h;cases h
  rw [if_neg hl,if_neg,h]
  simp [heq.2 (h2.2 h)]
 ·have hl:¬ Op.bytesLess s.data.toList t.data.toList=true:=fun hh=>by rw [h1.1 hh] at h;cases h
  have he:¬ (s == t)=true:=fun hh=>by rw [h2.1 (heq.1 hh)] at h;cases h
  rw [if_neg hl,if_pos,h]
  simp only [Bool.not_eq_true',Bool.or_eq_false_iff]
  exact ⟨by simpa using hl,by simpa using he⟩
theorem drop_get (s:ByteArray) (i:Nat) (h:i < s.size):s.data.toList.drop i=s[i] :: s.data.toList.drop (i + 1):=by
 have h':i < s.data.toList.length:=by simpa using h
 rw [List.drop_eq_getElem_cons h']
 rfl
theorem cmpText_LL (s t:ByteArray):∀ (d i:Nat),s.size - i=d→i ≤ s.size→i ≤ t.size→cmpText s t i=cmpLL (s.data.toList.drop i) (t.data.toList.drop i):=by
 intro d
 induction d with
 | zero=>
  intro i hd h1 h2
  have hi:i=s.size:=by omega
  rw [cmpText,dif_neg (by omega)]
  have e1:s.data.toList.drop i=[]:=List.drop_eq_nil_of_le (by rw [hi];show s.data.toList.length ≤ s.data.size;simp)
  rw [e1]
  by_cases ht:i < t.size
  ·rw [drop_get t i ht]
   have hne:((s.size:Int) != t.size)=true:=by simp;omega
   rw [if_pos hne,if_pos (by simp;omega)]
   rfl
  ·have e2:t.data.toList.drop i=[]:=List.drop_eq_nil_of_le (by show t.data.toList.length ≤ i;simp at *;omega)
   rw [e2]
   have hne:¬ ((s.size:Int) != t.size)=true:=by simp;omega
   rw [if_neg hne]
   rfl
 | succ d ih=>
  intro i hd h1 h2
  have hi:i < s.size:=by omega
  rw [cmpText]
  by_cases ht:i < t.size
  ·rw [dif_pos ⟨hi,ht⟩,drop_get s i hi,drop_get t i ht]
   simp only [cmpLL]
   by_cases he:s[i].toNat=t[i].toNat
   ·rw [if_neg (by simp [he]),if_pos he]
    exact ih (i + 1) (by omega) (by omega) (by omega)
   ·rw [if_pos (by simp;omega),if_neg he]
    by_cases hl:s[i].toNat < t[i].toNat
    ·rw [if_pos (by simp;omega),if_pos hl]
    ·rw [if_neg (by simp;omega),if_neg hl]
  ·have e2:t.data.toList.drop i=[]:=List.drop_eq_nil_of_le (by show t.data.toList.length ≤ i;simp at *;omega)
   rw [dif_neg (by omega),e2,drop_get s i hi]
   have hne:((s.size:Int) != t.size)=true:=by simp;omega
   rw [if_pos hne,if_neg (by simp;omega)]
   rfl
theorem order_same (v w:Val):orderV v w=compareV v w:=by
 have ht:cmpS v.text w.text=cmpText v.text w.text 0:=by
  rw [cmpS_LL,cmpText_LL v.text w.text v.text.size 0 (by omega) (by omega) (by omega)]
  rfl
 unfold orderV compareV cmpI
 rw [ht]
 by_cases hk:v.kind=w.kind
 ·by_cases hi:v.int=w.int
  ·simp [hk,hi,orL]
   intro h;exact h.symm
  ·by_cases hl:v.int < w.int
   ·simp [hk,hi,orL,hl]
   ·have:w.int < v.int:=by omega
    simp [hk,hi,orL,hl,this]
 ·by_cases hl:v.kind < w.kind
  ·simp [hk,orL,hl]
  ·have:w.kind < v.kind:=by omega
   simp [hk,orL,hl,this]
theorem okV2 {v:Val} (h:okV 2 v):v=nullW ∨ v=boolW true ∨ v=boolW false:=by
 obtain ⟨_,hr,hk⟩:=h
 rcases hk with hk | hk
 ·exact .inl (right_nullW hr hk)
 ·simp only [rightV,hk] at hr
  simp [noText] at hr
  cases v with
  | mk k i t=>
   simp only at hr hk
   obtain ⟨h1,h2⟩:=hr
   subst hk;subst h2
   rcases h1 with h1 | h1
   ·subst h1;exact .inr (.inr rfl)
   ·subst h1;exact .inr (.inl rfl)
theorem someV_cons (v a:Val) (r:List Val):someV v (a :: r)=(a == v || someV v r):=by
 simp only [someV];cases a == v <;> rfl
theorem joinV_cons (b q v:Val) (r:List Val):joinV b q (v :: r)=if v == b then b else joinV b (if v.kind == 0 then nullW else q) r:=rfl
theorem join_and:∀ (l:List Val) (q:Val),(∀ v ∈ l,okV 2 v)→(q=boolW true ∨ q=nullW)→joinV (boolW false) q l=if someV (boolW false) l then boolW false else if someV nullW l then nullW else q
 | [],q,_,_=>by simp [joinV,someV]
 | v :: r,q,h,hq=>by
  rw [joinV_cons,someV_cons,someV_cons]
  rcases okV2 (h v (by simp)) with rfl | rfl | rfl
  ·have e1:(nullW == boolW false)=false:=by decide
   have e2:(nullW == nullW)=true:=by decide
   have e3:(nullW.kind == 0)=true:=by decide
   simp only [e1,e2,e3,Bool.false_eq_true,if_false,if_true,Bool.false_or,Bool.true_or]
   rw [join_and r nullW (fun w hw=>h w (by simp [hw])) (.inr rfl)]
   split
   ·rfl
   ·split <;> rfl
  ·have e1:(boolW true == boolW false)=false:=by decide
   have e2:(boolW true == nullW)=false:=by decide
   have e3:((boolW true).kind == 0)=false:=by decide
   simp only [e1,e2,e3,Bool.false_eq_true,if_false,Bool.false_or]
   exact join_and r q (fun w hw=>h w (by simp [hw])) hq
  ·have e1:(boolW false == boolW false)=true:=by decide
   simp only [e1,if_true,Bool.true_or]
theorem join_or:∀ (l:List Val) (q:Val),(∀ v ∈ l,okV 2 v)→(q=boolW false ∨ q=nullW)→joinV (boolW true) q l=if someV (boolW true) l then boolW true else if someV nullW l then nullW else q
 | [],q,_,_=>by simp [joinV,someV]
 | v :: r,q,h,hq=>by
  rw [joinV_cons,someV_cons,someV_cons]
  rcases okV2 (h v (by simp)) with rfl | rfl | rfl
  ·have e1:(nullW == boolW true)=false:=by decide
   have e2:(nullW == nullW)=true:=by decide
   have e3:(nullW.kind == 0)=true:=by decide
   simp only [e1,e2,e3,Bool.false_eq_true,if_false,if_true,Bool.false_or,Bool.true_or]
   rw [join_or r nullW (fun w hw=>h w (by simp [hw])) (.inr rfl)]
   split
   ·rfl
   ·split <;> rfl
  ·have e1:(boolW true == boolW true)=true:=by decide
   simp only [e1,if_true,Bool.true_or]
  ·have e1:(boolW false == boolW true)=false:=by decide
   have e2:(boolW false == nullW)=false:=by decide
   have e3:((boolW false).kind == 0)=false:=by decide
   simp only [e1,e2,e3,Bool.false_eq_true,if_false,Bool.false_or]
   exact join_or r q (fun w hw=>h w (by simp [hw])) hq
theorem true_same {v:Val} (h:okV 2 v):(v == boolW true)=trueV v:=by
 rcases okV2 h with rfl | rfl | rfl <;> decide
theorem case_tests (cols:List Col) (k:Int):∀ (l:List Expr),caseOK k (l.map (kd cols))=true→∀ (i:Nat) (h:i + 1 < l.length),i % 2=0→kd cols (l[i]'(by omega))=2
 | t :: v :: r,hc,i,h,hi=>by
  have hc':(kd cols t == 2 && kd cols v == k && caseOK k (r.map (kd cols)))=true:=by
   cases r with
   | nil=>simp [caseOK] at hc
   | cons c r=>exact hc
  simp only [Bool.and_eq_true,beq_iff_eq] at hc'
  match i,hi with
  | 0,_=>exact hc'.1.1
  | i + 2,hi=>
   have:=case_tests cols k r hc'.2 i (by simp at h;omega) (by omega)
   simpa using this
 | [_],hc,i,h,hi=>by simp at h
 | [],hc,i,h,hi=>by simp at h
theorem caseTI_same (l:List Val) (h:∀ (i:Nat) (h:i + 1 < l.length),i % 2=0→okV 2 (l[i]'(by omega))):∀ (d i:Nat),l.length - i ≤ d→i % 2=0→caseTI l i=caseVI l i:=by
 intro d
 induction d with
 | zero=>intro i hd hi;rw [caseTI,caseVI,dif_neg (by omega),dif_neg (by omega)]
 | succ d ih=>
  intro i hd hi
  rw [caseTI,caseVI]
  by_cases hl:i + 1 < l.length
  ·rw [dif_pos hl,dif_pos hl,true_same (h i hl hi),ih (i + 2) (by omega) (by omega)]
  ·rw [dif_neg hl,dif_neg hl]
theorem cal223V {cols:List Col} {e:Expr} {k:Int} (h:Has cols e k) (h4:4 ≤ e.op) (hl:∀ a ∈ e.args,a.op=3):Cal 223 [doerP,.int .i64 e.op,.lst (Val.ps (e.args.map Expr.lit))] [(valueV e (e.args.map Expr.lit)).p]:=by
 have hi:=nodeR_inner (wf_node h.wf) (by omega) (by omega) (by omega)
 obtain ⟨ha,hs⟩:=has_elim h h4
 have hv:∀ a ∈ e.args,okV (kd cols a) a.lit:=fun a h1=>okV_lit (ha a h1) (hl a h1)
 have hr:∀ v ∈ e.args.map Expr.lit,rightV v=true:=by
  intro v hm
  obtain ⟨a,h1,rfl⟩:=List.mem_map.1 hm
  exact (hv a h1).2.1
 have hh:=hi.hi
 have strict:e.op ≤ 17→∀ r,strictV e.op (e.args.map Expr.lit)=r→nullOr r (e.args.map Expr.lit)=valueV e (e.args.map Expr.lit):=by
  intro h17 r hr'
  rw [nullOr_eq r _ hr,← hr']
  symm
  unfold valueV
  rw [if_neg (by simp;omega),if_neg (by simp;omega),if_neg (by simp;omega),if_neg (by simp;omega),if_neg (by simp;omega),if_neg (by simp;omega),if_neg (by simp;omega),if_neg (by simp;omega),if_neg (by simp;omega)]
 have two:e.op ≤ 18→e.op ≠ 9→e.op ≠ 11→∃ x y,e.args.map Expr.lit=[x,y]:=by
  intro q1 q2 q3
  obtain ⟨a,b,hab⟩:=args2 hi q1 q2 q3
  exact ⟨a.lit,b.lit,by rw [hab];rfl⟩
 have one:e.op=9 ∨ e.op=11 ∨ e.op=21 ∨ e.op=22 ∨ e.op=23→∃ x,e.args.map Expr.lit=[x]:=by
  intro q
  obtain ⟨a,hab⟩:=args1 hi q
  exact ⟨a.lit,by rw [hab];rfl⟩
 have size:∀ v ∈ e.args.map Expr.lit,v.text.size ≤ 200:=fun v hm=>rightV_size (hr v hm)
 have ok2:allK1 2 (e.args.map (kd cols))=true→∀ v ∈ e.args.map Expr.lit,okV 2 v:=by
  intro q v hm
  obtain ⟨a,h1,rfl⟩:=List.mem_map.1 hm
  have:=hv a h1
  rw [allK1_mem q a h1] at this
  exact this
 have num:∀ (j:Nat) (g:FuncId) (q:Int→Int→Int) (x y:Val) (op:Int),e.op=op→op ≤ 17→e.args.map Expr.lit=[x,y]→idxP .i64 op doKs 0=some (some j)→doVs[j]? = some (numbersP g)→(∀ a b,Cal g [.int .i64 a,.int .i64 b] [.int .i64 (q a b)])→strictV op [x,y]=intW (q x.int y.int)→Cal 223 [doerP,.int .i64 e.op,.lst (Val.ps (e.args.map Expr.lit))] [(valueV e (e.args.map Expr.lit)).p]:=by
  intro j g q x y op ho h17 hxy hidx hd hg hst
  rw [← strict (by omega) (intW (q x.int y.int)) (by rw [ho,hxy];exact hst),ho]
  haveI:=hof199 x y g q
  refine cal223 op _ _ j 197 _ hidx hd rfl ?_
  rw [hxy]
  exact hof197 [x,y] (intW (q x.int y.int)) 199 [.imm [.fn (.func g) [] []] 0]
 have ord:∀ (j:Nat) (g:FuncId) (q:Int→Bool) (x y:Val) (op:Int),e.op=op→op ≤ 17→e.args.map Expr.lit=[x,y]→idxP .i64 op doKs 0=some (some j)→doVs[j]? = some (orderP g)→(∀ c,Cal g [.int .i64 c] [.bool (q c)])→strictV op [x,y]=boolW (q (compareV x y))→Cal 223 [doerP,.int .i64 e.op,.lst (Val.ps (e.args.map Expr.lit))] [(valueV e (e.args.map Expr.lit)).p]:=by
  intro j g q x y op ho h17 hxy hidx hd hg hst
  rw [← strict (by omega) (boolW (q (compareV x y))) (by rw [ho,hxy];exact hst),ho]
  haveI:=hof202 x y g q
  rw [order_same] at this
  refine cal223 op _ _ j 197 _ hidx hd rfl ?_
  rw [hxy]
  exact hof197 [x,y] (boolW (q (compareV x y))) 202 [.imm [.fn (.func g) [] []] 0]
 have par:∀ (j:Nat) (g:FuncId) (n:Int) (x y:Val) (op:Int),e.op=op→(op=7 ∨ op=8)→e.args.map Expr.lit=[x,y]→idxP .i64 op doKs 0=some (some j)→doVs[j]? = some (partsP g)→(¬ y.int=0→Cal g [.int .i64 x.int,.int .i64 y.int] [.int .i64 n])→(¬ y.int=0→divided op x.int y.int=intW n)→Cal 223 [doerP,.int .i64 e.op,.lst (Val.ps (e.args.map Expr.lit))] [(valueV e (e.args.map Expr.lit)).p]:=by
  intro j g n x y op ho hop hxy hidx hd hg hst
  have hsv:strictV op [x,y]=divided op x.int y.int:=by rcases hop with rfl | rfl <;> rfl
  rw [← strict (by omega) (divided op x.int y.int) (by rw [ho,hxy];exact hsv),ho]
  refine cal223 op _ _ j 197 _ hidx hd rfl ?_
  rw [hxy]
  by_cases h0:y.int=0
  ·haveI:=hof205_0 x y g h0
   rw [show divided op x.int y.int=nullW by simp [divided,h0]]
   exact hof197 [x,y] nullW 205 [.imm [.fn (.func g) [] []] 0]
  ·haveI:=hg h0
   haveI:=hof205_1 x y g n h0
   rw [hst h0]
   exact hof197 [x,y] (intW n) 205 [.imm [.fn (.func g) [] []] 0]
 have cases:e.op=4 ∨ e.op=5 ∨ e.op=6 ∨ e.op=7 ∨ e.op=8 ∨ e.op=9 ∨ e.op=10 ∨ e.op=11 ∨ e.op=12 ∨ e.op=13 ∨ e.op=14 ∨ e.op=15 ∨ e.op=16 ∨ e.op=17 ∨ e.op=18 ∨ e.op=19 ∨ e.op=20 ∨ e.op=21 ∨ e.op=22 ∨ e.op=23 ∨ e.op=24 ∨ e.op=25:=by omega
 rcases cases with h' | h' | h' | h' | h' | h' | h' | h' | h' | h' | h' | h' | h' | h' | h' | h' | h' | h' | h' | h' | h' | h'
 ·obtain ⟨x,y,hxy⟩:=two (by omega) (by omega) (by omega)
  exact num 0 206 (fun a b=>w64 (a + b)) x y 4 h' (by decide) hxy rfl rfl (fun a b=>inferInstance) rfl
 ·obtain ⟨x,y,hxy⟩:=two (by omega) (by omega) (by omega)
  exact num 1 207 (fun a b=>w64 (a - b)) x y 5 h' (by decide) hxy rfl rfl (fun a b=>inferInstance) rfl
 ·obtain ⟨x,y,hxy⟩:=two (by omega) (by omega) (by omega)
  exact num 2 208 (fun a b=>w64 (a * b)) x y 6 h' (by decide) hxy rfl rfl (fun a b=>inferInstance) rfl
 ·obtain ⟨x,y,hxy⟩:=two (by omega) (by omega) (by omega)
  refine par 3 209 (w64 (x.int.tdiv y.int)) x y 7 h' (.inl rfl) hxy rfl rfl (fun h0=>cal209 _ _ h0) fun h0=>?_
  simp only [divided]
  rw [if_neg (by simpa using h0)]
  by_cases h1:y.int = -1
  ·rw [if_pos (by simp [h1])]
   congr 2
   rw [h1];simp
  ·rw [if_neg (by simp [h1]),if_neg (by simpa using h1),if_pos (by decide)]
 ·obtain ⟨x,y,hxy⟩:=two (by omega) (by omega) (by omega)
  refine par 4 210 (x.int.tmod y.int) x y 8 h' (.inr rfl) hxy rfl rfl (fun h0=>cal210 _ _ h0) fun h0=>?_
  simp only [divided]
  rw [if_neg (by simpa using h0)]
  by_cases h1:y.int = -1
  ·rw [if_neg (by simp),if_pos (by simp [h1]),h1]
   congr 1
   simp
  ·rw [if_neg (by simp),if_neg (by simpa using h1),if_neg (by decide)]
 ·obtain ⟨x,hx⟩:=one (by omega)
  rw [← strict (by omega) (intW (w64 (0 - x.int))) (by rw [h',hx];rfl),h']
  refine cal223 9 _ _ 5 197 _ rfl rfl rfl ?_
  rw [hx]
  exact hof197 [x] (intW (w64 (0 - x.int))) 211 []
 ·obtain ⟨x,y,hxy⟩:=two (by omega) (by omega) (by omega)
  rw [← strict (by omega) (textW (catText x.text y.text)) (by rw [h',hxy];rfl),h']
  refine cal223 10 _ _ 6 197 _ rfl rfl rfl ?_
  haveI:=cal212 x y (size x (by simp [hxy])) (size y (by simp [hxy]))
  rw [hxy]
  exact hof197 [x,y] (textW (catText x.text y.text)) 212 []
 ·obtain ⟨x,hx⟩:=one (by omega)
  rw [← strict (by omega) (intW x.text.size) (by rw [h',hx];rfl),h']
  refine cal223 11 _ _ 7 197 _ rfl rfl rfl ?_
  rw [hx]
  exact hof197 [x] (intW x.text.size) 213 []
 ·obtain ⟨x,y,hxy⟩:=two (by omega) (by omega) (by omega)
  exact ord 8 214 (fun c=>c == 0) x y 12 h' (by decide) hxy rfl rfl (fun c=>inferInstance) rfl
 ·obtain ⟨x,y,hxy⟩:=two (by omega) (by omega) (by omega)
  exact ord 9 215 (fun c=>!(c == 0)) x y 13 h' (by decide) hxy rfl rfl (fun c=>inferInstance) rfl
 ·obtain ⟨x,y,hxy⟩:=two (by omega) (by omega) (by omega)
  exact ord 10 216 (fun c=>decide (c < 0)) x y 14 h' (by decide) hxy rfl rfl (fun c=>inferInstance) rfl
 ·obtain ⟨x,y,hxy⟩:=two (by omega) (by omega) (by omega)
  exact ord 11 217 (fun c=>decide (c ≤ 0)) x y 15 h' (by decide) hxy rfl rfl (fun c=>inferInstance) rfl
 ·obtain ⟨x,y,hxy⟩:=two (by omega) (by omega) (by omega)
  exact ord 12 218 (fun c=>decide (c > 0)) x y 16 h' (by decide) hxy rfl rfl (fun c=>inferInstance) rfl
 ·obtain ⟨x,y,hxy⟩:=two (by omega) (by omega) (by omega)
  exact ord 13 219 (fun c=>decide (c ≥ 0)) x y 17 h' (by decide) hxy rfl rfl (fun c=>inferInstance) rfl
 ·obtain ⟨x,y,hxy⟩:=two (by omega) (by omega) (by omega)
  rw [show valueV e (e.args.map Expr.lit)=boolW (x == y) by simp [valueV,h',hxy],h']
  refine cal223 18 _ _ 14 264 [] rfl rfl rfl ?_
  rw [hxy];infer_instance
 ·have hk:allK1 2 (e.args.map (kd cols))=true:=by simp [sig,h'] at hs;exact hs.1
  rw [show valueV e (e.args.map Expr.lit)=andV (e.args.map Expr.lit) by simp [valueV,h'],h']
  refine cal223 19 _ _ 15 265 [] rfl rfl rfl ?_
  have:=join_and (e.args.map Expr.lit) (boolW true) (ok2 hk) (.inl rfl)
  rw [show andV (e.args.map Expr.lit)=joinV (boolW false) (boolW true) (e.args.map Expr.lit) by rw [this];rfl]
  infer_instance
 ·have hk:allK1 2 (e.args.map (kd cols))=true:=by simp [sig,h'] at hs;exact hs.1
  rw [show valueV e (e.args.map Expr.lit)=orVs (e.args.map Expr.lit) by simp [valueV,h'],h']
  refine cal223 20 _ _ 16 267 [] rfl rfl rfl ?_
  have:=join_or (e.args.map Expr.lit) (boolW false) (ok2 hk) (.inl rfl)
  rw [show orVs (e.args.map Expr.lit)=joinV (boolW true) (boolW false) (e.args.map Expr.lit) by rw [this];rfl]
  infer_instance
 ·obtain ⟨x,hx⟩:=one (by omega)
  rw [show valueV e (e.args.map Expr.lit)=notV x by simp [valueV,h',hx],h']
  refine cal223 21 _ _ 17 269 [] rfl rfl rfl ?_
  rw [hx];infer_instance
 ·obtain ⟨x,hx⟩:=one (by omega)
  rw [show valueV e (e.args.map Expr.lit)=boolW (x.kind == 0) by simp [valueV,h',hx],h']
  refine cal223 22 _ _ 18 271 [] rfl rfl rfl ?_
  rw [hx];infer_instance
 ·have hk:allK1 2 (e.args.map (kd cols))=true:=by simp [sig,h'] at hs;exact hs.1
  obtain ⟨x,hx⟩:=one (by omega)
  rw [show valueV e (e.args.map Expr.lit)=boolW (x == boolW true) by rw [true_same (ok2 hk x (by simp [hx]))];simp [valueV,h',hx],h']
  refine cal223 23 _ _ 19 272 [] rfl rfl rfl ?_
  rw [hx];infer_instance
 ·have hk:caseOK k (e.args.map (kd cols))=true:=by simpa [sig,h'] using hs
  have hn:=args_case hi h'
  have htest:∀ (i:Nat) (h:i + 1 < (e.args.map Expr.lit).length),i % 2=0→okV 2 ((e.args.map Expr.lit)[i]'(by omega)):=by
   intro i hi' h2
   have hlt:i + 1 < e.args.length:=by simpa using hi'
   have h3:=hv (e.args[i]'(by omega)) (List.getElem_mem _)
   rw [case_tests cols k e.args hk i hlt h2] at h3
   simpa using h3
  rw [show valueV e (e.args.map Expr.lit)=caseV (lastV (e.args.map Expr.lit)) (e.args.map Expr.lit) by simp [valueV,h'],h']
  refine cal223 24 _ _ 20 273 [] rfl rfl rfl ?_
  have e0:caseV (lastV (e.args.map Expr.lit)) (e.args.map Expr.lit)=caseTI (e.args.map Expr.lit) 0:=by
   rw [caseTI_same _ htest _ 0 (Nat.le_refl _) rfl]
   exact caseVI_drop (e.args.map Expr.lit) (e.args.map Expr.lit).length 0 (by omega)
  rw [e0]
  exact cal273 _ (e.args.length - 1) (by simp;omega)
 ·rw [show valueV e (e.args.map Expr.lit)=coalV (e.args.map Expr.lit) by simp [valueV,h'],h']
  refine cal223 25 _ _ 21 274 [] rfl rfl rfl ?_
  infer_instance
end Go.Proofs.YtgiedlcjlalpcaaGreat
namespace Go.Abs
open Go.RowKit
def lookV (b:Blks):V→Option (List P × List V)
 | .p (.imap ks vs)=>some (ks,vs.map .p)
 | .p .nilm=>some ([],[])
 | .mp nm=>match getB b nm with | some (.map ks vs)=>some (ks,vs.map .p) | some (.vmap ks vs)=>some (ks,vs) | _=>none
 | _=>none
def evalL (cfg:Cfg) (t:TypeId) (m k:Operand) (S:St):Option V:=
 match cfg.ty t with
 | some ⟨.map kt et,_,_,_,_⟩=>
  match cfg.ty kt,opnd S.t k with
  | some ⟨.int kk,_,_,_,_⟩,.p (.int k' n)=>
   if kk=k' then
    match lookV S.b (opnd S.t m) with
    | some (ks,vs)=>
     match idxP kk n ks 0 with
     | some (some j)=>vs[j]?
     | some none=>some (.p .nilp)
     | none=>none
    | none=>none
   else none
  | _,_=>none
 | _=>none
def evalU (cfg:Cfg) (t:TypeId) (m k x:Operand) (S:St):Option (Nat × List P × List V):=
 match cfg.ty t with
 | some ⟨.map kt _,_,_,_,_⟩=>
  match cfg.ty kt,opnd S.t k with
  | some ⟨.int kk,_,_,_,_⟩,.p (.int k' n)=>
   if kk=k' then
    match opnd S.t m with
    | .mp nm=>
     match lookV S.b (.mp nm) with
     | some (ks,vs)=>
      match idxP kk n ks 0 with
      | some none=>some (nm,ks ++ [.int kk n],vs ++ [opnd S.t x])
      | _=>none
     | none=>none
    | _=>none
   else none
  | _,_=>none
 | _=>none
section
variable {cfg:Cfg} {base:Base} {P:Program} {o:Oper} {a:Act} {w:World} {E:Env} {μ:Places} {S:St} {d:Nat}
theorem MapAt.toV {b:Blks} {u:List Nat} {B:Nat} {ks vs:List Abs.P} (h:MapAt E w B ks vs):MapV E μ b u w B ks (vs.map .p):=by
 obtain ⟨es,clock,h1,h2,h3,h4,h5⟩:=h
 refine ⟨es,clock,h1,h2,by simpa using h3,fun i e hi=>⟨(h4 i e hi).1,fun v hv=>?_⟩,h5⟩
 simp only [List.getElem?_map,Option.map_eq_some_iff] at hv
 obtain ⟨q,hq,rfl⟩:=hv
 exact .p _ _ ((h4 i e hi).2 q hq)
theorem lookV_rep {v:Value} {x:V} {ks:List Abs.P} {vs:List V} {b:Blks} {u:List Nat} (hm:Mem cfg base E μ b u w) (hr:Rep E μ b u v x) (he:lookV b x=some (ks,vs)) :
  (v = .map none∧ks=[]∧vs=[]) ∨ ∃ B,v = .map (some B)∧MapV E μ b u w B ks vs:=by
 unfold lookV at he
 split at he
 ·cases he
  cases hr with
  | p _ _ h=>cases h with
   | imap B _ _ h=>exact .inr ⟨B,rfl,(hm.mp B _ _ h).toV⟩
 ·cases he
  cases hr with
  | p _ _ h=>cases h;exact .inl ⟨rfl,rfl,rfl⟩
 ·rename_i nm
  split at he
  ·rename_i ks' vs' hb
   cases he
   cases hr with
   | mp _ B cap hu hB hnb=>
    obtain ⟨B',cap',h1,h2,_⟩:=hm.blk nm _ hb
    rw [hB] at h1
    cases h1
    exact .inr ⟨B,rfl,h2.toV⟩
  ·rename_i ks' vs' hb
   cases he
   cases hr with
   | mp _ B cap hu hB hnb=>
    obtain ⟨B',cap',h1,h2,_⟩:=hm.blk nm _ hb
    rw [hB] at h1
    cases h1
    exact .inr ⟨B,rfl,h2⟩
  ·cases he
 ·cases he
theorem does_lookV (hc:CfgOk cfg P) {t:TypeId} (hz:∀ kt et s c z q,cfg.ty t=some ⟨.map kt et,s,c,z,q⟩→∀ w,(zeroValue et).run P w = .ok (.pointer none) w)
  (hm:Mem cfg base E μ S.b S.u w) (ht:Tm E μ S a) {m k:Operand} (ho:o.op = .lookup t m k false) {v:V} (he:evalL cfg t m k S=some v):Does cfg base P o a w E μ S.b S.u (v,S.b,S.u):=by
 have h1:=rep_opnd ht m
 have h2:=rep_opnd ht k
 simp only [evalL] at he
 split at he
 ·rename_i kt et _ _ _ _ hty
  split at he
  ·rename_i kk _ _ _ _ k' n hkt hk
   split at he
   ·rename_i hkk
    subst hkk
    rw [hk] at h2
    have h3:=h2.inv_p
    have hkey:a.eval k = .int kk n:=by cases hh:a.eval k <;> rw [hh] at h3 <;> cases h3;rfl
    obtain ⟨dt,e1,e2⟩:=hc.run_underlying (w:=w) hty
    obtain ⟨dk,f1,f2⟩:=hc.run_underlying (w:=w) hkt
    split at he
    ·rename_i ks vs hes
     have e3:dt = .map kt et:=by cases dt <;> simp [kindB] at e2;obtain ⟨rfl,rfl⟩:=e2;rfl
     have f3:dk = .int kk:=by cases dk <;> simp [kindB] at f2;subst f2;rfl
     subst e3;subst f3
     have hck:∀ e,(Instr.checkKey e 10000 kt (.int kk n)).run P w = .ok () w:=fun e=>by
      rw [Instr.checkKey];simp [f1]
     have z1:=hz _ _ _ _ _ _ hty w
     rcases lookV_rep hm h1 hes with ⟨q1,q2,q3⟩ | ⟨B,q1,q2⟩
     ·subst q2;subst q3
      simp only [idxP,Option.some.injEq] at he
      subst he
      refine Does.still hm (.pointer none) (.p _ _ .nilp) ?_
      have hf:Instr.findNow (.int kk) (.int kk n) ([]:List MapEntry) 0=some none:=rfl
      simp [execOp,ho,q1,hkey,Instr.lookup,e1,hck,Instr.findKey,f1,hf,z1]
     ·obtain ⟨es,clock,g1,g2,g3,g4,_⟩:=q2
      cases hidx:idxP kk n ks 0 with
      | none=>rw [hidx] at he;cases he
      | some res=>
       rw [hidx] at he
       rcases findNow_idx (k₀:=kk) (E:=E) (es:=es.toList) (by simpa using g2) (fun j e he q hq=>(g4 j e (by simpa using he)).1 q hq) hidx with ⟨p1,p2⟩ | ⟨j,e,p1,p2,p3⟩
       ·subst p1
        simp only [Option.some.injEq] at he
        subst he
        refine Does.still hm (.pointer none) (.p _ _ .nilp) ?_
        simp [execOp,ho,q1,hkey,Instr.lookup,e1,hck,Instr.findKey,f1,p2,MapKept.run_getObj_map g1,z1]
       ·subst p1
        simp only [Nat.zero_add] at he
        have hrun:(Instr.lookup t (.map (some B)) (.int kk n) false).run P w = .ok e.val w:=by
         simp [Instr.lookup,e1,hck,Instr.findKey,f1,p3,MapKept.run_getObj_map g1]
        exact Does.still hm e.val ((g4 j e (by simpa using p2)).2 v he) (by simp [execOp,ho,q1,hkey,hrun])
    ·cases he
   ·cases he
  ·cases he
 ·cases he
theorem does_mapNew (hc:CfgOk cfg P) {t:TypeId} (hm:Mem cfg base E μ S.b S.u w) (ht:Tm E μ S a) {m k x:Operand} (ho:o.op = .mapUpdate t m k x) {nm:Nat} {ks:List Abs.P} {vs:List V} (he:evalU cfg t m k x S=some (nm,ks,vs)) :
  Does cfg base P o a w E μ S.b S.u (.any,setB S.b nm (.vmap ks vs),S.u):=by
 have h1:=rep_opnd ht m
 have h2:=rep_opnd ht k
 have h3:=rep_opnd ht x
 simp only [evalU] at he
 split at he
 ·rename_i kt et _ _ _ _ hty
  split at he
  ·rename_i kk _ _ _ _ k' n hkt hk
   split at he
   ·rename_i hkk
    subst hkk
    rw [hk] at h2
    have h4:=h2.inv_p
    have hkey:a.eval k = .int kk n:=by cases hh:a.eval k <;> rw [hh] at h4 <;> cases h4;rfl
    obtain ⟨dt,e1,e2⟩:=hc.run_underlying (w:=w) hty
    obtain ⟨dk,f1,f2⟩:=hc.run_underlying (w:=w) hkt
    have e3:dt = .map kt et:=by cases dt <;> simp [kindB] at e2;obtain ⟨rfl,rfl⟩:=e2;rfl
    have f3:dk = .int kk:=by cases dk <;> simp [kindB] at f2;subst f2;rfl
    subst e3;subst f3
    have hck:∀ e,(Instr.checkKey e 10000 kt (.int kk n)).run P w = .ok () w:=fun e=>by
     rw [Instr.checkKey];simp [f1]
    split at he
    ·rename_i nm' hmp
     split at he
     ·rename_i ks₀ vs₀ hlk
      split at he
      ·rename_i hidx
       simp only [Option.some.injEq,Prod.mk.injEq] at he
       obtain ⟨rfl,rfl,rfl⟩:=he
       rw [hmp] at h1
       generalize hmv:a.eval m=mv at h1
       obtain ⟨k₀,hb,hk₀,hna,B,cap,hB,hmvB,⟨es,clock,q1,q2,q3,q4,q5⟩,g3,g4⟩:∃ k₀,getB S.b nm'=some k₀∧k₀.mut=true∧(∀ sz es sh,k₀ ≠ .arr sz es sh)∧∃ B cap, μ nm'=some (B,cap)∧mv = .map (some B)∧MapV E μ S.b S.u w B ks₀ vs₀∧(∀ o,E.cell B o=none)∧E.mp B=none:=by
        cases h1 with
        | mp _ B cap hu hB hnb=>
        simp only [lookV] at hlk
        split at hlk
        ·rename_i ks' vs' hb
         cases hlk
         obtain ⟨B',cap',g1,g2,g3,g4⟩:=hm.blk nm' _ hb
         rw [hB] at g1;cases g1
         exact ⟨_,hb,rfl,by simp,B,cap,hB,rfl,g2.toV,g3,g4⟩
        ·rename_i ks' vs' hb
         cases hlk
         obtain ⟨B',cap',g1,g2,g3,g4⟩:=hm.blk nm' _ hb
         rw [hB] at g1;cases g1
         exact ⟨_,hb,rfl,by simp,B,cap,hB,rfl,g2,g3,g4⟩
        ·cases hlk
       subst hmvB
       rcases findNow_idx (k₀:=kk) (E:=E) (es:=es.toList) (by simpa using q2) (fun j e he q hq=>(q4 j e (by simpa using he)).1 q hq) hidx with ⟨_,p2⟩ | ⟨j,e,p1,_⟩
       ·have hh:=MapKept.heap_set (o':=.map (es.push { key:=.int kk n,val:=a.eval x,born:=clock }) (clock + 1)) q1
        have c2:Chg E E μ μ S.b (setB S.b nm' (.vmap (ks₀ ++ [.int kk n]) (vs₀ ++ [opnd S.t x]))) S.u S.u:=Chg.same (Env.le_refl E) (fun sz es sh h=>by rw [hb] at h;exact (hna _ _ _ (Option.some.inj h)).elim) (fun _ sz es sh h=>by cases h)
        refine ⟨E, μ,{ w with heap:=w.heap.setIfInBounds B (.map (es.push { key:=.int kk n,val:=a.eval x,born:=clock }) (clock + 1)) },undef,c2,?_,.any _,.inr ⟨?_,rfl⟩⟩
        ·refine hm.step c2 (hm.dom nm' _ hb) (fun _ _=>rfl) B (fun C e h=>by rw [hB] at h;cases h;rfl) (.inl ⟨_,cap,hb,hk₀,hB⟩) ?_ (by simp) rfl rfl rfl (fun _ _ _=>rfl) (fun _=>rfl) ?_ ?_
         ·intro j hj hlt
          exact hh.2 j hj
         ·intro o' v' hv'
          rw [g3 o'] at hv';cases hv'
         ·refine ⟨B,cap,hB,⟨_,_,hh.1,by simp [q2],by simp [q3],?_,q5.push _ rfl⟩,g3,g4⟩
          intro i e hi
          by_cases hlt:i < es.size
          ·rw [Array.getElem?_push_lt hlt] at hi
           have hi':es[i]? = some e:=by rw [Array.getElem?_eq_getElem hlt];exact hi
           refine ⟨fun k hk=>?_,fun v hv=>?_⟩
           ·rw [List.getElem?_append_left (by omega)] at hk
            exact (q4 i e hi').1 k hk
           ·rw [List.getElem?_append_left (by omega)] at hv
            exact ((q4 i e hi').2 v hv).chg c2
          ·have hie:i=es.size:=by
            have:=(Array.getElem?_eq_some_iff.1 hi).1
            simp at this
            omega
           subst hie
           simp at hi
           subst hi
           refine ⟨fun k hk=>?_,fun v hv=>?_⟩
           ·rw [q2] at hk
            simp at hk
            subst hk
            exact .int _ _
           ·rw [q3] at hv
            simp at hv
            subst hv
            exact h3.chg c2
        ·simp [execOp,ho,Instr.mapUpdate,e1,hck,Instr.findKey,f1,p2,hmv,hkey,MapKept.run_getObj_map q1,MapKept.run_setObj_map _ q1]
       ·cases p1
      ·cases he
     ·cases he
    ·cases he
   ·cases he
  ·cases he
 ·cases he
theorem x_lookV (hc:CfgOk cfg P) {t:TypeId} (hz:∀ kt et s c z q,cfg.ty t=some ⟨.map kt et,s,c,z,q⟩→∀ w,(zeroValue et).run P w = .ok (.pointer none) w) {m k:Operand} (ho:o.op = .lookup t m k false) {v:V} (he:evalL cfg t m k S=some v) :
  XStep cfg P o S fun S'=>S'=S.put o.dst v S.b S.u:=
 x_of (r:=(v,S.b,S.u)) fun base a w E μ hm ht=>does_lookV hc hz hm ht ho he
theorem x_mapNew (hc:CfgOk cfg P) {t:TypeId} {m k x:Operand} (ho:o.op = .mapUpdate t m k x) {nm:Nat} {ks:List Abs.P} {vs:List V} (he:evalU cfg t m k x S=some (nm,ks,vs)) :
  XStep cfg P o S fun S'=>S'=S.put o.dst .any (setB S.b nm (.vmap ks vs)) S.u:=
 x_of (r:=(.any,setB S.b nm (.vmap ks vs),S.u)) fun base a w E μ hm ht=>does_mapNew hc hm ht ho he
theorem Con.dataMap {nm:Nat} {ks:List Abs.P} {vs:List V} {ps:List Abs.P} {b':Blks} (hb:getB S.b nm=some (.vmap ks vs)) (hp:toPs S.b vs=some (ps,b')) (hb':getB b' nm=some (.vmap ks vs)) (h:Con cfg base S a w):Con cfg base ⟨S.t,setB b' nm (.map ks ps),S.u⟩ a w:=by
 obtain ⟨E, μ,hm,h1,h2,h3⟩:=h
 obtain ⟨B,cap,e1,⟨es,clock,e2,e3,e4,e5,e8⟩,e6,e7⟩:=hm.blk nm _ hb
 obtain ⟨E',c1,hm',hl,hr⟩:=toPs_sound vs hm (es.toList.map (·.val)) (by simp [e4]) (fun i v p hv hp'=>by
  simp only [List.getElem?_map,Option.map_eq_some_iff,Array.getElem?_toList] at hv
  obtain ⟨e,he,rfl⟩:=hv
  exact (e5 i e he).2 p hp') hp
 obtain ⟨B',cap',f1,⟨es',clock',f2,f3,f4,f5,f8⟩,f6,f7⟩:=hm'.blk nm _ hb'
 rw [e1] at f1;cases f1
 rw [e2] at f2;cases f2
 have c2:Chg E' E' μ μ b' (setB b' nm (.map ks ps)) S.u S.u:=Chg.same (Env.le_refl E') (fun sz es sh h=>by rw [hb'] at h;cases h) (fun _ sz es sh h=>by cases h)
 refine ⟨E', μ,?_,h1,h2,fun i v x hv hx=>((h3 i v x hv hx).chg c1).chg c2⟩
 refine hm'.step c2 (hm'.dom nm _ hb') (fun _ _=>rfl) B (fun C e h=>by rw [e1] at h;cases h;rfl) (.inl ⟨_,cap,hb',rfl,e1⟩) (fun _ _ _=>rfl) (Nat.le_refl _) rfl rfl rfl (fun _ _ _=>rfl) (fun _=>rfl) ?_ ?_
 ·intro o' v' hv'
  rw [f6 o'] at hv';cases hv'
 ·refine ⟨B,cap,e1,⟨es,clock,e2,e3,by rw [hl];exact e4,fun i e hi=>⟨(f5 i e hi).1,fun v hv=>?_⟩,f8⟩,f6,f7⟩
  exact hr i e.val v (by simp [hi]) hv
theorem wpA_dataMap {Q:Program} {R:Ex→St→Prop} {c:Code} {nm:Nat} {ks:List Abs.P} {vs:List V} {ps:List Abs.P} {b':Blks} (hb:getB S.b nm=some (.vmap ks vs)) (hp:toPs S.b vs=some (ps,b')) (hb':getB b' nm=some (.vmap ks vs))
  (h:wpA cfg base Q c R ⟨S.t,setB b' nm (.map ks ps),S.u⟩):wpA cfg base Q c R S:=fun a w hcon=>h a w (hcon.dataMap hb hp hb')
end
end Go.Abs
namespace Go.Abs
open Go.RowKit
open Go.ChangeMaps (setBlock)
section
variable {cfg:Cfg} {base:Base} {Q:Program} {S:St} {a:Act} {w:World}
theorem Con.dataCells {nm:Nat} {cs:List V} {ps:List P} {b':Blks} (hb:getB S.b nm=some (.cells cs)) (hp:toPs S.b cs=some (ps,b')) (hb':getB b' nm=some (.cells cs)) (h:Con cfg base S a w):Con cfg base ⟨S.t,setB b' nm (.cells (ps.map .p)),S.u⟩ a w:=by
 obtain ⟨E, μ,hm,h1,h2,h3⟩:=h
 obtain ⟨B,cap,c,e1,e2,e3,e4,e5⟩:=hm.blk nm _ hb
 obtain ⟨E',c1,hm',hl,hr⟩:=toPs_sound cs hm c.toList (by simpa using e3) (fun i v p hv hp'=>e4 i v p (by simpa using hv) hp') hp
 obtain ⟨B',cap',c',f1,f2,f3,f4,f5⟩:=hm'.blk nm _ hb'
 rw [e1] at f1;cases f1
 have hcc:c'=c:=by
  obtain ⟨t,ht⟩:=e2
  obtain ⟨t',ht'⟩:=f2
  rw [ht] at ht';cases ht';rfl
 subst hcc
 have c2:Chg E' E' μ μ b' (setB b' nm (.cells (ps.map .p))) S.u S.u:=Chg.same (Env.le_refl E') (fun sz es sh h=>by rw [hb'] at h;cases h) (fun _ sz es sh h=>by cases h)
 refine ⟨E', μ,?_,h1,h2,fun i v x hv hx=>((h3 i v x hv hx).chg c1).chg c2⟩
 refine hm'.step c2 (hm'.dom nm _ hb') (fun _ _=>rfl) B (fun C e h=>by rw [e1] at h;cases h;rfl) (.inl ⟨_,cap,hb',rfl,e1⟩) (fun _ _ _=>rfl) (Nat.le_refl _) rfl rfl rfl (fun _ _ _=>rfl) (fun _=>rfl) ?_ ?_
 ·intro o' v' hv'
  rw [f5 o'] at hv';cases hv'
 ·refine ⟨B,cap,c',e1,e2,by rw [e3,List.length_map,hl],fun i v x hv hx=>?_,f5⟩
  simp only [List.getElem?_map,Option.map_eq_some_iff] at hx
  obtain ⟨q,hq,rfl⟩:=hx
  exact .p _ _ (hr i v q (by simpa using hv) hq)
theorem wpA_dataCells {R:Ex→St→Prop} {c:Code} {nm:Nat} {cs:List V} {ps:List P} {b':Blks} (hb:getB S.b nm=some (.cells cs)) (hp:toPs S.b cs=some (ps,b')) (hb':getB b' nm=some (.cells cs))
  (h:wpA cfg base Q c R ⟨S.t,setB b' nm (.cells (ps.map .p)),S.u⟩):wpA cfg base Q c R S:=fun a w hcon=>h a w (hcon.dataCells hb hp hb')
def rebase (base:Base) (w:World) (E:Env) (b:Blks) (μ:Places) (nm r:Nat):Base:=⟨w,ownL b μ,E,fun n=>if n=nm then some (r,0) else base.pin n⟩
theorem Mem.rebase {E:Env} {μ:Places} {b:Blks} {u:List Nat} {nm r:Nat} (hm:Mem cfg base E μ b u w) (h1:nm ∈ u) (h2:∀ sz es sh,getB b nm ≠ some (.arr sz es sh)) (h3:1000 ≤ nm) (h4:μ nm=some (r,0)):Mem cfg (rebase base w E b μ nm r) E μ b u w:=
 ⟨hm.dom,hm.blk,hm.inj,fun n k B c hk hkm hB=>.inr ⟨n,k,c,hk,hkm,hB⟩,hm.cell,hm.obj,Env.le_refl E,fun _ _ _ h=>.inl h,fun _ _ h=>.inl h,rfl,rfl,rfl,Nat.le_refl _,fun _ _ _=>rfl,hm.mp,fun _ _ h=>.inl h,by
  intro n B hn
  by_cases e:n=nm
  ·subst e
   have:B=(r,0):=by simpa [Abs.rebase] using hn.symm
   subst this
   exact ⟨h1,h2,h3,h4⟩
  ·have:base.pin n=some B:=by simpa [Abs.rebase,e] using hn
   exact hm.pin n B this⟩
theorem Mem.back {E E':Env} {μ μ':Places} {b b':Blks} {u u':List Nat} {w':World} {nm r:Nat} (hm:Mem cfg base E μ b u w) (hpin:base.pin nm=none) (h:Mem cfg (Abs.rebase base w E b μ nm r) E' μ' b' u' w'):Mem cfg base E' μ' b' u' w':=by
 have hL:∀ A,ownL b μ A→base.w.heap.size ≤ A ∨ base.L A:=fun A ⟨n,k,c,g1,g2,g3⟩=>hm.live n k A c g1 g2 g3
 have hnew:∀ A,(w.heap.size ≤ A ∨ ownL b μ A)→base.w.heap.size ≤ A ∨ base.L A:=fun A h=>h.elim (fun h=>.inl (Nat.le_trans hm.size h)) (hL A)
 refine ⟨h.dom,h.blk,h.inj,fun n k B c hk hkm hB=>hnew B (h.live n k B c hk hkm hB),h.cell,h.obj,hm.le.trans h.le,?_,?_,h.os.trans hm.os,h.tape.trans hm.tape,h.output.trans hm.output,Nat.le_trans hm.size h.size,?_,h.mp,?_,?_⟩
 ·intro B o v hv
  rcases h.cnew B o v hv with g | g
  ·exact hm.cnew B o v g
  ·exact .inr (hnew B g)
 ·intro B x hx
  rcases h.onew B x hx with g | g
  ·exact hm.onew B x g
  ·exact .inr (hnew B g)
 ·intro k hk hLk
  rw [h.keep k (Nat.lt_of_lt_of_le hk hm.size) (fun g=>by
   rcases hL k g with g | g
   ·omega
   ·exact hLk g)]
  exact hm.keep k hk hLk
 ·intro B x hx
  rcases h.mnew B x hx with g | g
  ·exact hm.mnew B x g
  ·exact .inr (hnew B g)
 ·intro n B hn
  refine h.pin n B ?_
  have:n ≠ nm:=fun e=>by rw [e,hpin] at hn;cases hn
  simpa [Abs.rebase,this] using hn
theorem Mem.beside {E:Env} {μ:Places} {b:Blks} {u:List Nat} {w':World} {r:Nat} (hm:Mem cfg base E μ b u w) (hr:base.w.heap.size ≤ r) (hfree:∀ n k c,getB b n=some k→k.mut=true→μ n ≠ some (r,c)) (hnoc:∀ o,E.cell r o=none) (hnom:E.mp r=none)
  (hw:∀ j,j ≠ r→j < w.heap.size→w'.heap[j]? = w.heap[j]?) (hsz:w.heap.size ≤ w'.heap.size) (hos:w'.os=w.os) (htape:w'.tape=w.tape) (hout:w'.output=w.output):Mem cfg base E μ b u w':=by
 have hc:=Chg.refl E μ b u
 refine ⟨hm.dom,fun n k hk=>?_,hm.inj,hm.live,fun B o v hv=>?_,hm.obj,hm.le,hm.cnew,hm.onew,hos.trans hm.os,htape.trans hm.tape,hout.trans hm.output,Nat.le_trans hm.size hsz,?_,?_,hm.mnew,hm.pin⟩
 ·refine BlkOk.other hm hc hk rfl (fun B c hkm hB=>⟨hw B ?_ ?_,fun _=>rfl⟩) (fun _ _ _ _=>rfl)
  ·rintro rfl
   exact hfree n k c hk hkm hB
  ·have hb:=hm.blk n k hk
   cases k with
   | cells cs=>obtain ⟨B',cap,c,h1,h2,_⟩:=hb;rw [hB] at h1;cases h1;exact blockAt_lt h2
   | frz cs=>simp [Blk.mut] at hkm
   | arr sz es sh=>
    obtain ⟨_,hb⟩:=hb
    rcases hb with ⟨h1,_⟩ | ⟨B',cap,c,h1,h2,_⟩
    ·rw [hB] at h1;cases h1
    ·rw [hB] at h1;cases h1;exact blockAt_lt h2
   | map ks vs=>obtain ⟨B',cap,h1,h2,_⟩:=hb;rw [hB] at h1;cases h1;exact h2.lt
   | vmap ks vs=>obtain ⟨B',cap,h1,h2,_⟩:=hb;rw [hB] at h1;cases h1;exact h2.lt
 ·have hv':=hm.cell B o v hv
  rw [← hv']
  refine World.cell?_of_block (hw B ?_ (lt_of_cell hv'))
  rintro rfl
  rw [hnoc o] at hv;cases hv
 ·intro k hk hL
  rw [hw k (by omega) (Nat.lt_of_lt_of_le hk hm.size)]
  exact hm.keep k hk hL
 ·intro B ks vs hB
  have h:=hm.mp B ks vs hB
  refine h.mono (Env.le_refl E) (hw B ?_ h.lt)
  rintro rfl
  rw [hnom] at hB;cases hB
theorem reg_first (hc:CfgOk cfg Q) {R:Ex→St→Prop} {id:Nat} {ops:Array Oper} {o:Oper} {r:List Oper} {cv:Value} {S':St} {w':World} (ho:ops.toList=o :: r) (hg:o.guard=none) (hx:(execOp a.eval o).run Q w = .ok (.value cv) w') (hcon:Con cfg base S' (a.put o.dst cv) w')
  (h:runK cfg Q ops false r S' [] (fun S _=>R .normal S)):(Code.region id ops false).wp Q (lift cfg base R) a w:=by
 have hsz:ops.size=r.length + 1:=by have:=congrArg List.length ho;simpa using this
 have h0:ops[0]? = some o:=by rw [← Array.getElem?_toList,ho];rfl
 refine wp_mono (wp_region (Q:=postSt cfg base fun S=>∃ fs:List Foot,R .normal S) ?_) ?_
 ·rw [hsz,List.range_succ_eq_map]
  simp only [wpOps,h0]
  rw [if_pos (by simp [Region.wanted,hg])]
  left
  simp only [Oper.wp,hx,Oper.upon]
  refine runK_soundO hc h ((List.range r.length).map Nat.succ) ?_ hcon
  apply List.ext_getElem?
  intro i
  simp only [List.getElem?_map]
  by_cases hi:i < r.length
  ·have e:ops[i + 1]? = r[i]?:=by rw [← Array.getElem?_toList,ho];rfl
   simp [List.getElem?_range hi,hi,e]
  ·simp [hi,List.getElem?_eq_none]
 ·intro e a w h
  cases e <;> simp only [postSt] at h
  obtain ⟨S,⟨_,h1⟩,h2⟩:=h
  exact ⟨.normal,S,rfl,h1,h2⟩
end
end Go.Abs
namespace Go.Abs
open Go.RowKit
open Go.ChangeMaps (setBlock)
structure RngAt (cfg:Cfg) (base:Base) (H:St) (nm r bm since:Nat) (es:Array MapEntry) (clock:Nat) (ks vs:List P) (seen:Array Nat) (E:Env) (μ:Places) (a:Act) (w:World):Prop where
 mem:Mem cfg base E μ H.b H.u w
 tm:Tm E μ H a
 at_:μ nm=some (r,0)
 it:∃ c0,w.heap[r]? = some (.mapIter (some bm) since seen c0)∧since ≤ c0
 mp:w.heap[bm]? = some (.map es clock)
 cell:∀ o,E.cell r o=none
 emp:E.mp bm=some (ks,vs)
 free:∀ n k c,getB H.b n=some k→k.mut=true→μ n ≠ some (r,c)
 new:base.w.heap.size ≤ r
theorem not_own {cfg:Cfg} {base:Base} {E:Env} {μ:Places} {b:Blks} {u:List Nat} {w:World} (hm:Mem cfg base E μ b u w) {bm:Nat} {ks vs:List P} (he:E.mp bm=some (ks,vs)):¬ ownL b μ bm:=by
 rintro ⟨n,k,c,h1,h2,h3⟩
 have hma:=hm.mp bm ks vs he
 obtain ⟨es,clock,hes,_⟩:=hma
 have hb:=hm.blk n k h1
 cases k with
 | cells cs=>obtain ⟨B',cap,c,g1,⟨t,g2⟩,_⟩:=hb;rw [h3] at g1;cases g1;rw [hes] at g2;cases g2
 | frz cs=>simp [Blk.mut] at h2
 | arr sz es sh=>
  obtain ⟨_,hb⟩:=hb
  rcases hb with ⟨g1,_⟩ | ⟨B',cap,c,g1,⟨t,g2⟩,_⟩
  ·rw [h3] at g1;cases g1
  ·rw [h3] at g1;cases g1;rw [hes] at g2;cases g2
 | map ks vs=>obtain ⟨B',cap,g1,_,_,g4⟩:=hb;rw [h3] at g1;cases g1;rw [he] at g4;cases g4
 | vmap ks vs=>obtain ⟨B',cap,g1,_,_,g4⟩:=hb;rw [h3] at g1;cases g1;rw [he] at g4;cases g4
def nextV (q:Bool):V:=match q with | true=>.tup [.p (.bool true),.any,.any] | false=>.tup [.p (.bool false)]
section
variable {cfg:Cfg} {base:Base} {Q:Program} {R:Ex→St→Prop} {H:St} {nm ti:Nat} {ks vs:List P} {G:Nat→Prop}
 {i14 i15 lb bb:Nat} {ops14 ops15:Array Oper} {o14 o15:Oper} {r14 r15:List Oper} {c:Operand} {body:Code} {N:Bool→St} {M:P→St}
theorem wp_rangeLoop (hc:CfgOk cfg Q) (h14:ops14.toList=o14 :: r14) (g14:o14.guard=none) (p14:o14.op = .next (.tmp ti) false)
  (h15:ops15.toList=o15 :: r15) (g15:o15.guard=none) (p15:o15.op = .entry (.tmp ti))
  (hti:H.t[ti]? = some (.ref nm 0)) (hnm:1000 ≤ nm) (hnu:nm ∈ H.u) (hna:∀ sz es sh,getB H.b nm ≠ some (.arr sz es sh)) (hpin:base.pin nm=none)
  (x14:∀ q:Bool,runK cfg Q ops14 false r14 (H.put o14.dst (nextV q) H.b H.u) [] (fun S _=>S=N q)) (hcond:∀ q,opnd (N q).t c = .p (.bool q)) (hN:∀ q,(N q).b=H.b∧(N q).u=H.u∧(N q).t[ti]? = some (.ref nm 0))
  (x15:∀ v,runK cfg Q ops15 false r15 ((N true).put o15.dst (.tup [.any,.p v]) H.b H.u) [] (fun S _=>S=M v))
  (hb:∀ base j v,vs[j]? = some v→wpA cfg base Q body (blockR bb (thenR (fun S'=>G j∧St.le [] S' H) R)) (M v))
  (hend:(∀ j,j < vs.length→G j)→R (.exit lb) (N false))
  {r bm since clock:Nat} {es:Array MapEntry} (hold:∀ x ∈ es.toList,x.born < since) (hck:since ≤ clock) {E:Env} {μ:Places} {a:Act} {w:World} (h0:RngAt cfg base H nm r bm since es clock ks vs #[] E μ a w) :
  (Code.loop (.seq (.region i14 ops14 false) (.seq (.cond c .skip (.exit lb)) (.block bb (.seq (.region i15 ops15 false) body))))).wp Q (lift cfg base R) a w:=by
 refine wp_loop (fun a w=>∃ seen E μ,RngAt cfg base H nm r bm since es clock ks vs seen E μ a w∧∀ j e,es[j]? = some e→seen.contains e.born=true→G j)
  (fun a w=>match w.heap[r]? with | some (.mapIter _ _ seen _)=>(leftOf es seen).size | _=>0) ⟨#[],E, μ,h0,fun j e _ h=>by simp at h⟩ ?_
 clear h0 E μ a w
 rintro a w ⟨seen,E, μ,h,hG⟩
 obtain ⟨c0,hit,hsc⟩:=h.it
 have hlt:r < w.heap.size:=(Array.getElem?_eq_some_iff.1 hit).1
 have hbl:bm < w.heap.size:=(Array.getElem?_eq_some_iff.1 h.mp).1
 have hne:bm ≠ r:=by
  rintro rfl
  have hmp:=h.mp
  rw [hit] at hmp;cases hmp
 have hev:a.eval (.tmp ti) = .pointer (some ⟨r,0,none⟩):=by
  have hr:=rep_opnd h.tm (.tmp ti)
  have:opnd H.t (.tmp ti) = .ref nm 0:=by simp [opnd,List.getD,hti]
  rw [this] at hr
  generalize a.eval (.tmp ti)=v at hr
  cases hr with
  | ref _ _ B cap hu hB _=>rw [h.at_] at hB;cases hB;rfl
 have hrow:=h.mem.mp bm ks vs h.emp
 obtain ⟨es',clock',m1,m2,m3,m4,m5⟩:=hrow
 rw [h.mp] at m1
 cases m1
 have hnor:E.mp r=none:=by
  cases e:E.mp r with
  | none=>rfl
  | some x=>
   obtain ⟨_,_,g,_⟩:=h.mem.mp r x.1 x.2 e
   rw [hit] at g;cases g
 refine wp_seq ?_
 rcases run_next_at (P:=Q) w o14.type r bm since c0 seen es clock hit h.mp hold hsc with ⟨h1,hrun⟩ | ⟨e,he,w1,hw1,hrun⟩
 ·
  have hcon:Con cfg base (H.put o14.dst (nextV false) H.b H.u) (a.put o14.dst (.tuple #[.bool false])) w:=by
   refine ⟨E, μ,?_,h.tm.put (Chg.refl _ _ _ _) (.tup [.bool false] [.p (.bool false)] rfl fun i v x hv hx=>?_) _⟩
   ·cases o14.dst <;> exact h.mem
   ·cases i with
    | zero=>simp at hv hx;subst hv;subst hx;exact .p _ _ (.bool _)
    | succ i=>simp at hv
  refine wp_mono (reg_first hc (R:=thenR (fun S=>S=N false) fun _ _=>False) h14 g14 (by simp only [execOp,p14,hev,hrun,Sem.run_bind,Result.andThen_ok];rfl) hcon (x14 false)) ?_
  intro ex a' w' ⟨x,S,q1,q2,q3⟩
  cases ex <;> simp only [Ex.of,Option.some.injEq,reduceCtorEq] at q1 <;> subst q1 <;> simp only [thenR] at q2
  subst q2
  refine wp_seq (wp_cond (t:=false) ?_ ?_)
  ·obtain ⟨E', μ',_,ht'⟩:=q3
   have:=rep_opnd ht' c
   rw [hcond] at this
   have h4:=this.inv_p
   cases hh:a'.eval c <;> rw [hh] at h4 <;> cases h4
   rfl
  ·refine wp_exit ⟨.exit lb,N false,rfl,hend fun j hj=>?_,q3⟩
   have hj':j < es.size:=by omega
   exact hG j es[j] (by simp [hj']) (all_seen es seen h1 es[j] (by simp))
 ·
  obtain ⟨hem,hes⟩:=mem_left he
  have hheap:∀ j:Nat,w1.heap[j]? = w.heap[j]?:=by rcases hw1 with rfl | rfl <;> intro j <;> rfl
  have hr1:w1.heap[r]? = some (.mapIter (some bm) since seen c0):=(hheap r).trans hit
  have hset:=MapKept.heap_set (o':=.mapIter (some bm) since (seen.push e.born) clock) hr1
  obtain ⟨w2,hw2⟩:∃ w2,setBlock w1 r (.mapIter (some bm) since (seen.push e.born) clock)=w2:=⟨_,rfl⟩
  have hset1:w2.heap[r]? = some (.mapIter (some bm) since (seen.push e.born) clock):=by rw [← hw2];exact hset.1
  have hset2:∀ j:Nat,j ≠ r→w2.heap[j]? = w.heap[j]?:=fun j hj=>by rw [← hw2];exact (hset.2 j hj).trans (hheap j)
  have hsize:w2.heap.size=w.heap.size:=by
   rw [← hw2]
   show (w1.heap.setIfInBounds _ _).size=_
   rw [Array.size_setIfInBounds]
   rcases hw1 with rfl | rfl <;> rfl
  have hm2:Mem cfg base E μ H.b H.u w2:=h.mem.beside h.new h.free h.cell hnor (fun j hj _=>hset2 j hj) (by omega) (by rw [← hw2];rcases hw1 with rfl | rfl <;> rfl) (by rw [← hw2];rcases hw1 with rfl | rfl <;> rfl) (by rw [← hw2];rcases hw1 with rfl | rfl <;> rfl)
  have hm3:=hm2.rebase hnu hna hnm h.at_
  have hb2:w2.heap[bm]? = some (.map es clock):=(hset2 bm hne).trans h.mp
  rw [hw2] at hrun
  obtain ⟨base1,hbase1⟩:∃ base1,Abs.rebase base w2 E H.b μ nm r=base1:=⟨_,rfl⟩
  rw [hbase1] at hm3
  have hcon:Con cfg base1 (H.put o14.dst (nextV true) H.b H.u) (a.put o14.dst (.tuple #[.bool true,e.key,e.val])) w2:=by
   refine ⟨E, μ,?_,h.tm.put (Chg.refl _ _ _ _) (.tup [.bool true,e.key,e.val] [.p (.bool true),.any,.any] rfl fun i v x hv hx=>?_) _⟩
   ·cases o14.dst <;> exact hm3
   ·match i with
    | 0=>simp at hv hx;subst hv;subst hx;exact .p _ _ (.bool _)
    | 1=>simp at hx;subst hx;exact .any _
    | 2=>simp at hx;subst hx;exact .any _
    | i + 3=>simp at hv
  have hback:∀ {S:St} {a:Act} {w:World},Con cfg base1 S a w→Con cfg base S a w:=fun ⟨E', μ',g1,g2⟩=>⟨E', μ',hm2.back hpin (by rw [hbase1];exact g1),g2⟩
  have hnoown:¬ ownL H.b μ r:=fun ⟨n,k,c,g1,g2,g3⟩=>h.free n k c g1 g2 g3
  have hnoownb:¬ ownL H.b μ bm:=not_own h.mem h.emp
  have hkeep:∀ {E':Env} {μ':Places} {b':Blks} {u':List Nat} {w':World},Mem cfg base1 E' μ' b' u' w'→w'.heap[r]? = some (.mapIter (some bm) since (seen.push e.born) clock)∧w'.heap[bm]? = some (.map es clock)∧μ' nm=some (r,0)∧E'.mp bm=some (ks,vs)∧(∀ o,E'.cell r o=none) ∧
    ∀ n k c,getB b' n=some k→k.mut=true→μ' n ≠ some (r,c):=by
   intro E' μ' b' u' w' g
   subst hbase1
   refine ⟨(g.keep r (show r < w2.heap.size by omega) hnoown).trans hset1,(g.keep bm (show bm < w2.heap.size by omega) hnoownb).trans hb2,(g.pin nm (r,0) (by simp [Abs.rebase])).2.2.2,g.le.mp _ _ h.emp,fun o=>?_,fun n k c g1 g2 g3=>?_⟩
   ·cases hc':E'.cell r o with
    | none=>rfl
    | some v=>
     rcases g.cnew r o v hc' with q | q | q
     ·have q':E.cell r o=some v:=q
      rw [h.cell o] at q';cases q'
     ·have q':w2.heap.size ≤ r:=q
      omega
     ·exact (hnoown q).elim
   ·rcases g.live n k r c g1 g2 g3 with q | q
    ·have q':w2.heap.size ≤ r:=q
     omega
    ·exact hnoown q
  obtain ⟨j,hj⟩:=List.getElem?_of_mem hem
  have hj':es[j]? = some e:=by simpa using hj
  have hjlt:j < vs.length:=by
   have:=(Array.getElem?_eq_some_iff.1 hj').1
   omega
  have hvj:vs[j]? = some vs[j]:=by simp [hjlt]
  have hrep:=(m4 j e hj').2 vs[j] hvj
  refine wp_mono (reg_first hc (R:=thenR (fun S=>S=N true) fun _ _=>False) h14 g14 (by simp only [execOp,p14,hev,hrun,Sem.run_bind,Result.andThen];rfl) hcon (x14 true)) ?_
  intro ex a' w' ⟨x,S,q1,q2,q3⟩
  cases ex <;> simp only [Ex.of,Option.some.injEq,reduceCtorEq] at q1 <;> subst q1 <;> simp only [thenR] at q2
  subst q2
  obtain ⟨E', μ',hm',ht'⟩:=q3
  obtain ⟨k1,k2,k3,k4,k5,k6⟩:=hkeep hm'
  refine wp_seq (wp_cond (t:=true) ?_ ?_)
  ·have:=rep_opnd ht' c
   rw [hcond] at this
   have h4:=this.inv_p
   cases hh:a'.eval c <;> rw [hh] at h4 <;> cases h4
   rfl
  refine wp_skip (wp_block (wp_seq ?_))
  have hev':a'.eval (.tmp ti) = .pointer (some ⟨r,0,none⟩):=by
   have hr:=rep_opnd ht' (.tmp ti)
   have:opnd (N true).t (.tmp ti) = .ref nm 0:=by simp [opnd,List.getD,(hN true).2.2]
   rw [this] at hr
   generalize a'.eval (.tmp ti)=v at hr
   cases hr with
   | ref _ _ B cap hu hB _=>rw [k3] at hB;cases hB;rfl
  have hrun':=run_entry_at (P:=Q) w' r bm since seen es clock e k1 k2 hem m5.2
  obtain ⟨n1,n2,_⟩:=hN true
  have hcon':Con cfg base1 ((N true).put o15.dst (.tup [.any,.p vs[j]]) H.b H.u) (a'.put o15.dst (.tuple #[e.key,e.val])) w':=by
   have hle:E.le E':=by subst hbase1;exact hm'.le
   have hput:=ht'.put (Chg.refl E' μ' (N true).b (N true).u) (cv:=.tuple #[e.key,e.val]) (v:=.tup [.any,.p vs[j]]) (.tup [e.key,e.val] [.any,.p vs[j]] rfl fun i v x hv hx=>by
    match i with
    | 0=>simp at hx;subst hx;exact .any _
    | 1=>simp at hv hx;subst hv;subst hx;exact .p _ _ (hrep.mono hle)
    | i + 2=>simp at hv) o15.dst
   rw [n1,n2] at hput hm'
   refine ⟨E', μ',?_,hput⟩
   cases o15.dst <;> exact hm'
  refine wp_mono (reg_first hc (R:=thenR (fun S=>S=M vs[j]) fun _ _=>False) h15 g15 (by simp only [execOp,p15,hev',hrun',Sem.run_bind,Result.andThen];rfl) hcon' (x15 vs[j])) ?_
  intro ex a2 w3 ⟨x,S,q1,q2,q3⟩
  cases ex <;> simp only [Ex.of,Option.some.injEq,reduceCtorEq] at q1 <;> subst q1 <;> simp only [thenR] at q2
  subst q2
  have hnext:∀ (S':St) (a3:Act) (w4:World),G j→St.le [] S' H→Con cfg base1 S' a3 w4→(∃ seen E μ,RngAt cfg base H nm r bm since es clock ks vs seen E μ a3 w4∧∀ j e,es[j]? = some e→seen.contains e.born=true→G j) ∧
    (match w4.heap[r]? with | some (.mapIter _ _ seen _)=>(leftOf es seen).size | _=>0) < (match w.heap[r]? with | some (.mapIter _ _ seen _)=>(leftOf es seen).size | _=>0):=by
   rintro S' a3 w4 hg hle ⟨E2, μ2,f1,f2⟩
   obtain ⟨f1,f2⟩:=Con.le' hle f1 f2
   simp only [List.not_mem_nil,if_false] at f1 f2
   obtain ⟨p1,p2,p3,p4,p5,p6⟩:=hkeep f1
   refine ⟨⟨seen.push e.born,E2, μ2,⟨hm2.back hpin (by rw [hbase1];exact f1),f2,p3,⟨clock,p1,?_⟩,p2,p5,p4,p6,h.new⟩,?_⟩,?_⟩
   ·exact hck
   ·intro i x hx hs
    simp only [Array.contains_push,Bool.or_eq_true,beq_iff_eq] at hs
    rcases hs with hs | hs
    ·exact hG i x hx hs
    ·have hxe:x=e:=by
      have hnd:=m5.2
      have hxm:x ∈ es.toList:=by
       have:es.toList[i]? = some x:=by simpa using hx
       exact List.mem_of_getElem? this
      exact born_inj hnd hxm hem hs
     subst hxe
     have:i=j:=by
      have e1:(es.toList.map (·.born))[i]? = some x.born:=by simp [hx]
      have e2:(es.toList.map (·.born))[j]? = some x.born:=by simp [hj']
      exact (List.getElem?_inj (List.getElem?_eq_some_iff.1 e1).1 m5.2).1 (e1.trans e2.symm)
     rw [this];exact hg
   ·rw [p1,hit]
    exact left_shrinks es seen e he
  refine wp_mono (hb base1 j vs[j] hvj a2 w3 q3) ?_
  intro ex a3 w4 ⟨x,S,q1,q2,q3⟩
  cases ex <;> simp only [Ex.of,Option.some.injEq,reduceCtorEq] at q1 <;> subst q1
  ·exact hnext S a3 w4 q2.1 q2.2 q3
  ·rename_i n
   simp only [blockR] at q2
   simp only [Exit.inBlock]
   split
   ·rename_i en
    rw [if_pos en] at q2
    exact hnext S a3 w4 q2.1 q2.2 q3
   ·rename_i en
    rw [if_neg en] at q2
    exact ⟨_,S,rfl,q2,hback q3⟩
  ·exact ⟨_,S,rfl,q2,hback q3⟩
end
end Go.Abs
namespace Go.Abs
open Go.RowKit
open Go.ChangeMaps (setBlock)
section
variable {cfg:Cfg} {base:Base} {Q:Program}
theorem Mem.lt {E:Env} {μ:Places} {b:Blks} {u:List Nat} {w:World} (hm:Mem cfg base E μ b u w) {n:Nat} {k:Blk} {B c:Nat} (hk:getB b n=some k) (hkm:k.mut=true) (hB:μ n=some (B,c)):B < w.heap.size:=by
 have hb:=hm.blk n k hk
 cases k with
 | cells cs=>obtain ⟨B',cap,c,h1,h2,_⟩:=hb;rw [hB] at h1;cases h1;exact blockAt_lt h2
 | frz cs=>simp [Blk.mut] at hkm
 | arr sz es sh=>
  obtain ⟨_,hb⟩:=hb
  rcases hb with ⟨h1,_⟩ | ⟨B',cap,c,h1,h2,_⟩
  ·rw [hB] at h1;cases h1
  ·rw [hB] at h1;cases h1;exact blockAt_lt h2
 | map ks vs=>obtain ⟨B',cap,h1,h2,_⟩:=hb;rw [hB] at h1;cases h1;exact h2.lt
 | vmap ks vs=>obtain ⟨B',cap,h1,h2,_⟩:=hb;rw [hB] at h1;cases h1;exact h2.lt
theorem Mem.addName {E:Env} {μ:Places} {b:Blks} {u:List Nat} {w:World} (hm:Mem cfg base E μ b u w) {nm:Nat} (hn:nm ∉ u) (o:Obj) :
  Chg E E μ (fun n=>if n=nm then some (w.heap.size,0) else μ n) b b u (nm :: u)∧Mem cfg base E (fun n=>if n=nm then some (w.heap.size,0) else μ n) b (nm :: u) (w.alloc o):=by
 have hne:∀ n,n ∈ u→n ≠ nm:=fun n h e=>hn (e ▸ h)
 have hc:Chg E E μ (fun n=>if n=nm then some (w.heap.size,0) else μ n) b b u (nm :: u):=
  ⟨Env.le_refl E,fun n h=>List.mem_cons_of_mem _ h,fun n h sz es sh e=>⟨es,sh,e,Nat.le_refl _,fun _=>by simp [hne n h]⟩,fun n h e=>⟨by simp [hne n h],e⟩⟩
 have hμ:∀ n k,getB b n=some k→(if n=nm then some (w.heap.size,0) else μ n) = μ n:=fun n k h=>by simp [hne n (hm.dom n k h)]
 have hw:∀ j,j < w.heap.size→(w.alloc o).heap[j]? = w.heap[j]?:=fun j hj=>Below.heap_alloc w o j hj
 have hs:w.heap.size ≤ (w.alloc o).heap.size:=by
  show _ ≤ (w.heap.push o).size
  simp
 refine ⟨hc,⟨fun n k h=>List.mem_cons_of_mem _ (hm.dom n k h),fun n k hk=>?_,fun n m k l B C c d hk hl hkm hlm hB hC hnm=>?_,fun n k B c hk hkm hB=>?_,fun B o' v hv=>?_,hm.obj,hm.le,hm.cnew,hm.onew,hm.os,hm.tape,hm.output,Nat.le_trans hm.size hs,?_,?_,hm.mnew,pin_chg hm hc⟩⟩
 ·exact BlkOk.other hm hc hk (hμ n k hk) (fun B c hkm hB=>⟨hw B (hm.lt hk hkm hB),fun _=>rfl⟩) (fun _ _ _ _=>rfl)
 ·rw [hμ n k hk] at hB
  rw [hμ m l hl] at hC
  exact hm.inj n m k l B C c d hk hl hkm hlm hB hC hnm
 ·rw [hμ n k hk] at hB
  exact hm.live n k B c hk hkm hB
 ·have hv':=hm.cell B o' v hv
  rw [← hv']
  exact World.cell?_of_block (hw B (lt_of_cell hv'))
 ·intro k hk hL
  rw [hw k (Nat.lt_of_lt_of_le hk hm.size)]
  exact hm.keep k hk hL
 ·intro B ks vs hB
  have h:=hm.mp B ks vs hB
  exact h.mono (Env.le_refl E) (hw B h.lt)
variable {R:Ex→St→Prop} {S S1:St} {nm ti:Nat} {ks vs:List P} {G:Nat→Prop}
 {i13 i14 i15 lb bb:Nat} {ops13 ops14 ops15:Array Oper} {o13 o14 o15:Oper} {r13 r14 r15:List Oper} {m c:Operand} {body:Code} {N:Bool→St} {M:P→St} {t kt et:TypeId} {ts tb:Nat} {tz:List V} {te:List TK}
def rngH (S1:St) (ti nm:Nat):St:=⟨S1.t.set ti (.ref nm 0),S1.b,nm :: S1.u⟩
theorem wpA_range (hc:CfgOk cfg Q) (h13:ops13.toList=r13 ++ [o13]) (x13:runK cfg Q ops13 false r13 S [] (fun S' _=>S'=S1)) (g13:o13.guard=none) (p13:o13.op = .range t m) (d13:o13.dst=some ti) (hty:cfg.ty t=some ⟨.map kt et,ts,tb,tz,te⟩) (hmap:opnd S1.t m = .p (.imap ks vs))
  (hti:ti < S1.t.length) (hnm:1000 ≤ nm) (hnu:nm ∉ S1.u) (hnb:getB S1.b nm=none)
  (h14:ops14.toList=o14 :: r14) (g14:o14.guard=none) (p14:o14.op = .next (.tmp ti) false)
  (h15:ops15.toList=o15 :: r15) (g15:o15.guard=none) (p15:o15.op = .entry (.tmp ti))
  (x14:∀ q:Bool,runK cfg Q ops14 false r14 ((rngH S1 ti nm).put o14.dst (nextV q) S1.b (nm :: S1.u)) [] (fun S _=>S=N q)) (hcond:∀ q,opnd (N q).t c = .p (.bool q)) (hN:∀ q,(N q).b=S1.b∧(N q).u=nm :: S1.u∧(N q).t[ti]? = some (.ref nm 0))
  (x15:∀ v,runK cfg Q ops15 false r15 ((N true).put o15.dst (.tup [.any,.p v]) S1.b (nm :: S1.u)) [] (fun S _=>S=M v))
  (hb:∀ base j v,vs[j]? = some v→wpA cfg base Q body (blockR bb (thenR (fun S'=>G j∧St.le [] S' (rngH S1 ti nm)) (blockR lb R))) (M v))
  (hend:(∀ j,j < vs.length→G j)→R .normal (N false)) :
  wpA cfg base Q (.seq (.region i13 ops13 false) (.block lb (.loop (.seq (.region i14 ops14 false) (.seq (.cond c .skip (.exit lb)) (.block bb (.seq (.region i15 ops15 false) body))))))) R S:=by
 intro a w hcon
 have hsz:ops13.size=r13.length + 1:=by have:=congrArg List.length h13;simpa using this
 have hlast:ops13[r13.length]? = some o13:=by rw [← Array.getElem?_toList,h13];simp
 have htk:ops13.toList.take r13.length=r13:=by rw [h13];simp
 refine wp_seq (wp_region ?_)
 rw [hsz,List.range_succ]
 refine runK_soundP hc (K:=fun S' _=>S'=S1) ?_ x13 (List.range r13.length) (by have:=take_some ops13 r13.length (by omega);rw [htk] at this;exact this) hcon
 rintro S' _ a w rfl ⟨E, μ,hm,ht⟩
 simp only [wpOps,hlast]
 rw [if_pos (by simp [Region.wanted,g13])]
 left
 have hme:=rep_opnd ht m
 rw [hmap] at hme
 generalize hev:a.eval m=mv at hme
 have hme':=hme.inv_p
 cases hme' with
 | imap bm _ _ hemp=>
 obtain ⟨es,clock,m1,m2,m3,m4,m5⟩:=hm.mp bm ks vs hemp
 obtain ⟨dt,e1,e2⟩:=hc.run_underlying (w:=w) hty
 have e3:dt = .map kt et:=by cases dt <;> simp [kindB] at e2;obtain ⟨rfl,rfl⟩:=e2;rfl
 subst e3
 have hrun:(Instr.range t (.map (some bm))).run Q w = .ok (.pointer (some ⟨w.heap.size,0,none⟩)) (w.alloc (.mapIter (some bm) clock #[] clock)):=by
  simp [Instr.range,e1,MapKept.run_getObj_map m1]
 simp only [Oper.wp,execOp,p13,hev,hrun,Sem.run_bind,Result.andThen]
 simp only [Oper.upon,Sem.run_pure]
 obtain ⟨c1,hm2⟩:=hm.addName hnu (.mapIter (some bm) clock #[] clock)
 have hpin:base.pin nm=none:=by
  cases hp:base.pin nm with
  | none=>rfl
  | some B=>exact (hnu (hm.pin nm B hp).1).elim
 have hcellnew:∀ o,E.cell w.heap.size o=none:=by
  intro o
  cases h:E.cell w.heap.size o with
  | none=>rfl
  | some v'=>exact (Nat.lt_irrefl _ (lt_of_cell (hm.cell _ _ _ h))).elim
 have hput:=ht.put c1 (cv:=.pointer (some ⟨w.heap.size,0,none⟩)) (v:=.ref nm 0) (.ref nm 0 w.heap.size 0 (by simp) (by simp) (fun sz es sh h=>by rw [hnb] at h;cases h)) o13.dst
 rw [d13] at hput ⊢
 have hbml:bm < w.heap.size:=(Array.getElem?_eq_some_iff.1 m1).1
 have h0:RngAt cfg base (rngH S' ti nm) nm w.heap.size bm clock es clock ks vs #[] E (fun n=>if n=nm then some (w.heap.size,0) else μ n) (a.put (some ti) (.pointer (some ⟨w.heap.size,0,none⟩))) (w.alloc (.mapIter (some bm) clock #[] clock)):=by
  refine ⟨hm2,hput,by simp,⟨clock,?_,Nat.le_refl _⟩,(Below.heap_alloc w _ bm hbml).trans m1,hcellnew,hemp,fun n k c hk hkm hB=>?_,hm.size⟩
  ·show (w.heap.push _)[w.heap.size]? = _
   simp
  ·have hne:n ≠ nm:=fun e=>hnu (e ▸ hm.dom n k hk)
   simp only [hne,if_false] at hB
   exact Nat.lt_irrefl _ (hm.lt hk hkm hB)
 refine wp_block (wp_mono (wp_rangeLoop hc (R:=blockR lb R) (H:=rngH S' ti nm) h14 g14 p14 h15 g15 p15 (by simp [rngH,hti]) hnm (by simp [rngH]) (fun sz es sh h=>by
   have:getB S'.b nm=some (.arr sz es sh):=h
   rw [hnb] at this;cases this) hpin x14 hcond hN x15 hb (fun hG=>blockR_same (hend hG)) m5.1 (Nat.le_refl _) h0) ?_)
 intro e a w ⟨x,S,h1,h2,h3⟩
 cases e <;> simp only [Ex.of,Option.some.injEq,reduceCtorEq] at h1 <;> subst h1
 ·exact ⟨_,S,rfl,h2,h3⟩
 ·rename_i n
  simp only [blockR] at h2
  simp only [Exit.inBlock]
  split
  ·rename_i e;rw [if_pos e] at h2;exact ⟨_,S,rfl,h2,h3⟩
  ·rename_i e;rw [if_neg e] at h2;exact ⟨_,S,rfl,h2,h3⟩
 ·exact ⟨_,S,rfl,h2,h3⟩
end
end Go.Abs
