/- Part of a proof: Q6 Q7 Q8 Q9 Maps2 F1 F2 F3. -/
import Derived.Test.YtgiedlcjlalpcaaGreatPb06
import Derived.Test.YtgiedlcjlalpcaaGreatPb08
import Derived.Test.YtgiedlcjlalpcaaGreatPb12
set_option linter.all false
namespace Go.Proofs.YtgiedlcjlalpcaaGreat
open Go.Abs
section
variable {cols:List Col}
theorem isV_op {a:Expr} {v:Val} (h:isV a v=true):a.op=3∧a.lit=v:=by
 simpa [isV] using h
theorem isNull_op {a:Expr} (h:isNull a=true):a.op=3∧a.lit.kind=0:=by
 simpa [isNull] using h
theorem compared_has {e a b:Expr} {kk:Int} (h1:12 ≤ e.op) (h2:e.op ≤ 17) (ha:Has cols a kk) (hb:Has cols b kk) (hs:(comparedE e cols a b).2=true):Has cols (comparedE e cols a b).1 2:=by
 have litk:∀ x:Bool,isV b (boolW x)=true→kk=2:=by
  intro x hx
  obtain ⟨h3,hl⟩:=isV_op hx
  have hbl:=has_isLit hb h3
  have:=hbl.kinds
  rw [hl] at this
  rcases this with h | h
  ·cases h
  ·exact h.symm
 unfold comparedE at hs ⊢
 split
 ·have:=exchanged_range h1 h2
  exact has_cmp this.1 (by omega) hb ha
 ·rename_i n1
  rw [if_neg n1] at hs
  split
  ·rename_i hc
   simp only [Bool.and_eq_true] at hc
   have:=litk _ hc.2
   subst this
   exact ha
  ·rename_i n2
   rw [if_neg n2] at hs
   split
   ·rename_i hc
    simp only [Bool.and_eq_true] at hc
    have:=litk _ hc.2
    subst this
    exact has_not ha
   ·rename_i n3
    rw [if_neg n3] at hs
    split
    ·exact has_truth cols _
    ·rename_i n4
     rw [if_neg n4] at hs;cases hs
theorem sameStep_has {a b:Expr} {kk:Int} (ha:Has cols a kk) (hb:Has cols b kk) (hs:(sameStepE cols a b).2=true):Has cols (sameStepE cols a b).1 2:=by
 unfold sameStepE at hs ⊢
 split
 ·exact has_truth cols _
 ·split
  ·exact has_isnull hb
  ·split
   ·exact has_isnull ha
   ·exact has_cmp (by decide) (by decide) ha hb
theorem sig_num {op k:Int} {ks:List Int} (h:op=4 ∨ op=5 ∨ op=6 ∨ op=7 ∨ op=8 ∨ op=9):sig op ks k=(allK1 1 ks && k == 1):=by
 rcases h with h | h | h | h | h | h <;> simp [sig,h]
theorem computed_has {e:Expr} {k:Int} (h:Has cols e k) (h4:4 ≤ e.op) (h11:e.op ≤ 11) (hs:(computedE e cols).2=true):Has cols (computedE e cols).1 k:=by
 have hi:=nodeR_inner (wf_node h.wf) (by omega) (by omega) (by omega)
 obtain ⟨ha,hsg⟩:=has_elim h h4
 have key:e.op=4 ∨ e.op=5 ∨ e.op=6 ∨ e.op=7 ∨ e.op=10→Has cols (hdE e.args) k∧Has cols (lastE e.args) k∧(e.op ≠ 10→k=1):=by
  intro ho
  obtain ⟨a,b,hab⟩:=args2 hi (by omega) (by omega) (by omega)
  have e1:hdE e.args=a:=by rw [hab];rfl
  have e2:lastE e.args=b:=by rw [hab];rfl
  rw [e1,e2]
  have hA:=ha a (by simp [hab])
  have hB:=ha b (by simp [hab])
  by_cases h10:e.op=10
  ·simp [sig,h10,hab,allK1] at hsg
   obtain ⟨⟨h1,h2⟩,rfl⟩:=hsg
   exact ⟨⟨hA.wf,hA.ok,h1⟩,⟨hB.wf,hB.ok,h2⟩,fun h=>absurd h10 h⟩
  ·rw [sig_num (by omega),hab] at hsg
   simp [allK1] at hsg
   obtain ⟨⟨h1,h2⟩,rfl⟩:=hsg
   exact ⟨⟨hA.wf,hA.ok,h1⟩,⟨hB.wf,hB.ok,h2⟩,fun _=>rfl⟩
 unfold computedE at hs ⊢
 dsimp only at hs ⊢
 split
 ·rename_i hc
  simp only [Bool.or_eq_true,Bool.and_eq_true,beq_iff_eq] at hc
  exact (key (by omega)).1
 ·rename_i n1
  rw [if_neg n1] at hs
  split
  ·rename_i hc
   simp only [Bool.or_eq_true,Bool.and_eq_true,beq_iff_eq] at hc
   exact (key (by omega)).2.1
  ·rename_i n2
   rw [if_neg n2] at hs
   split
   ·rename_i hc
    simp only [Bool.or_eq_true,Bool.and_eq_true,beq_iff_eq] at hc
    have:=(key (by omega)).2.2 (by omega)
    subst this
    exact has_lit rfl (right_int 0) (.inr rfl)
   ·rename_i n3
    rw [if_neg n3] at hs;cases hs
theorem real_sig {e:Expr} {k:Int} (h:Has cols e k) (h4:4 ≤ e.op) (h17:e.op ≤ 17):real k=true:=by
 obtain ⟨ha,hs⟩:=has_elim h h4
 by_cases h12:12 ≤ e.op
 ·rw [sig_cmp h12 (by omega)] at hs
  simp at hs
  rw [hs.2];rfl
 ·by_cases h10:e.op=10
  ·simp [sig,h10] at hs
   rw [hs.2];rfl
  ·by_cases h11:e.op=11
   ·simp [sig,h11] at hs
    rw [hs.2];rfl
   ·rw [sig_num (by omega)] at hs
    simp at hs
    rw [hs.2];rfl
theorem strict_has {e:Expr} {k:Int} (h:Has cols e k) (h4:4 ≤ e.op) (h17:e.op ≤ 17):∀ (l:List Expr),(strictL e cols l).2=true→Has cols (strictL e cols l).1 k
 | [],hs=>by
  simp only [strictL] at hs ⊢
  split
  ·rename_i hc
   simp only [Bool.and_eq_true,decide_eq_true_eq] at hc
   rw [if_pos (by simp [hc])] at hs
   obtain ⟨rfl,a,b,kk,hab,ha,hb⟩:=cmp_elim h (by omega) (by omega)
   have e1:hdE e.args=a:=by rw [hab];rfl
   have e2:lastE e.args=b:=by rw [hab];rfl
   rw [e1,e2] at hs ⊢
   exact compared_has hc.1 hc.2 ha hb hs
  ·rename_i hc
   rw [if_neg hc] at hs
   simp only [Bool.and_eq_true,decide_eq_true_eq] at hc
   exact computed_has h h4 (by omega) hs
 | a :: r,hs=>by
  simp only [strictL] at hs ⊢
  split
  ·have hk:(kindE cols e).1.kind=k:=h.kind
   rw [hk]
   exact has_lit (real_sig h h4 h17) right_null (.inl rfl)
  ·rename_i hn
   rw [if_neg hn] at hs
   exact strict_has h h4 h17 r hs
theorem sig_coal {k:Int} {ks:List Int}:sig 25 ks k=allK1 k ks:=by simp [sig]
theorem first2_has {e:Expr} {k:Int} (h:Has cols e k) (ho:e.op=25) (hall:∀ a ∈ e.args,Has cols a k) (n:Nat) (hn:n + 1=e.args.length):∀ (d i:Nat),n - i=d→(first2 e cols n i).2=true→Has cols (first2 e cols n i).1 k:=by
 have hi:=nodeR_inner (wf_node h.wf) (by omega) (by omega) (by omega)
 have hlen:=args_list hi (by omega)
 intro d
 induction d with
 | zero=>
  intro i hd hs
  rw [first2,dif_neg (by omega)] at hs;cases hs
 | succ d ih=>
  intro i hd hs
  have hlt:i < n:=by omega
  rw [first2,dif_pos hlt] at hs ⊢
  split
  ·rename_i hc
   rw [if_pos hc] at hs
   exact ih (i + 1) (by omega) hs
  ·dsimp only
   by_cases h0:i=0
   ·rw [if_pos h0]
    obtain ⟨a,r,hab⟩:∃ a r,e.args=a :: r:=by
     match hh:e.args with
     | []=>rw [hh] at hlen;simp at hlen
     | a :: r=>exact ⟨a,r,rfl⟩
    rw [hab]
    exact hall a (by simp [hab])
   ·rw [if_neg h0]
    have hl:(e.args.take (i + 1)).length=i + 1:=by simp;omega
    refine has_set h.wf hi.lo (many_list (by omega) (by rw [hl];omega) (by rw [hl];omega)) (fun a hm=>has_self (hall a (List.mem_of_mem_take hm))) ?_
    rw [ho,sig_coal]
    exact allK1_iff.2 fun a hm=>(hall a (List.mem_of_mem_take hm)).kind
theorem first_has {e:Expr} {k:Int} (h:Has cols e k) (ho:e.op=25) (hs:(firstE e cols).2=true):Has cols (firstE e cols).1 k:=by
 have hi:=nodeR_inner (wf_node h.wf) (by omega) (by omega) (by omega)
 have hlen:=args_list hi (by omega)
 obtain ⟨ha,hsg⟩:=has_elim h hi.lo
 rw [ho,sig_coal] at hsg
 have hk:=allK1_iff.1 hsg
 have hall:∀ a ∈ e.args,Has cols a k:=fun a hm=>⟨(ha a hm).wf,(ha a hm).ok,hk a hm⟩
 have r1:∀ (l:List Expr) (i:Nat),l=e.args.drop i→(first1 e cols l i).2=true→Has cols (first1 e cols l i).1 k:=by
  intro l
  induction l with
  | nil=>
   intro i _ hs
   exact first2_has h ho hall (e.args.length - 1) (by omega) _ 0 rfl hs
  | cons a r ih=>
   intro i hl hs
   have hi':i < e.args.length:=by
    rcases Nat.lt_or_ge i e.args.length with h' | h'
    ·exact h'
    ·rw [List.drop_eq_nil_of_le h'] at hl;cases hl
   rw [List.drop_eq_getElem_cons hi'] at hl
   obtain ⟨hae,hr⟩:=List.cons.inj hl
   simp only [first1] at hs ⊢
   split
   ·exact without_has h hi (by omega) hall (fun l hl=>by rw [ho,sig_coal];exact allK1_iff.2 hl) hi'
   ·rename_i hn
    rw [if_neg hn] at hs
    exact ih (i + 1) hr hs
 exact r1 e.args 0 rfl hs
theorem caseOK_cut (k:Int):∀ (m:Nat) (l:List Int),caseOK k l=true→2 * m + 1 < l.length →
  caseOK k (l.take (2 * m) ++ [l.getD (2 * m + 1) 0])=true∧caseOK k (l.take (2 * m) ++ l.drop (2 * m + 2))=true
 | 0,l,h,hl=>by
  match l,hl with
  | t :: v :: r,_=>
   have h':(t == 2 && v == k && caseOK k r)=true:=by
    cases r with
    | nil=>simp [caseOK] at h
    | cons c r=>exact h
   simp only [Bool.and_eq_true] at h'
   refine ⟨?_,by simpa using h'.2⟩
   simpa [caseOK] using h'.1.2
 | m + 1,l,h,hl=>by
  match l,hl with
  | t :: v :: r,hl=>
   have h':(t == 2 && v == k && caseOK k r)=true:=by
    cases r with
    | nil=>simp [caseOK] at h
    | cons c r=>exact h
   simp only [Bool.and_eq_true] at h'
   have hlr:2 * m + 1 < r.length:=by simp at hl;omega
   obtain ⟨i1,i2⟩:=caseOK_cut k m r h'.2 hlr
   have e1:2 * (m + 1)=2 * m + 1 + 1:=by omega
   constructor
   ·have e3:(t :: v :: r).take (2 * (m + 1)) ++ [(t :: v :: r).getD (2 * (m + 1) + 1) 0]=t :: v :: (r.take (2 * m) ++ [r.getD (2 * m + 1) 0]):=by
     rw [e1];simp
    rw [e3]
    obtain ⟨c,q,hq⟩:∃ c q,r.take (2 * m) ++ [r.getD (2 * m + 1) 0]=c :: q:=by
     match hh:r.take (2 * m) ++ [r.getD (2 * m + 1) 0] with
     | []=>simp at hh
     | c :: q=>exact ⟨c,q,rfl⟩
    rw [hq] at i1 ⊢
    show (t == 2 && v == k && caseOK k (c :: q))=true
    rw [i1];simp [h'.1]
   ·have e3:(t :: v :: r).take (2 * (m + 1)) ++ (t :: v :: r).drop (2 * (m + 1) + 2)=t :: v :: (r.take (2 * m) ++ r.drop (2 * m + 2)):=by
     rw [e1];simp
    rw [e3]
    obtain ⟨c,q,hq⟩:∃ c q,r.take (2 * m) ++ r.drop (2 * m + 2)=c :: q:=by
     match hh:r.take (2 * m) ++ r.drop (2 * m + 2) with
     | []=>rw [hh] at i2;simp [caseOK] at i2
     | c :: q=>exact ⟨c,q,rfl⟩
    rw [hq] at i2 ⊢
    show (t == 2 && v == k && caseOK k (c :: q))=true
    rw [i2];simp [h'.1]
theorem case2_has {e:Expr} {k:Int} (hlast:Has cols (lastE e.args) k) (n:Nat):∀ (d i:Nat),n - i ≤ d→(case2 e n i).2=true→Has cols (case2 e n i).1 k:=by
 intro d
 induction d with
 | zero=>intro i hd _;rw [case2,dif_neg (by omega)];exact hlast
 | succ d ih=>
  intro i hd hs
  rw [case2] at hs ⊢
  split
  ·rename_i h
   rw [dif_pos h] at hs
   split
   ·rename_i hc
    rw [if_pos hc] at hs
    exact ih (i + 2) (by omega) hs
   ·rename_i hc
    rw [if_neg hc] at hs;cases hs
  ·exact hlast
theorem many_case {n:Int} (h1:3 ≤ n) (h2:n.tmod 2=1) (h3:n ≤ 16):many 24 n=true:=by
 simp [many,h1,h2,h3]
theorem caseOK_lastE {k:Int}:∀ (l:List Expr),caseOK k (l.map (kd cols))=true→kd cols (lastE l)=k∧lastE l ∈ l
 | [],h=>by simp [caseOK] at h
 | [v],h=>⟨by show kd cols v=k;simpa [caseOK] using h,by simp [lastE]⟩
 | t :: v :: [],h=>by
  have hc':(kd cols t == 2 && kd cols v == k && caseOK k [])=true:=h
  simp [caseOK] at hc'
 | t :: v :: c :: r,h=>by
  have hc':(kd cols t == 2 && kd cols v == k && caseOK k ((c :: r).map (kd cols)))=true:=h
  simp only [Bool.and_eq_true] at hc'
  obtain ⟨h1,h2⟩:=caseOK_lastE (c :: r) hc'.2
  have e:lastE (t :: v :: c :: r)=lastE (c :: r):=rfl
  rw [e]
  exact ⟨h1,by simp at h2 ⊢;exact .inr (.inr h2)⟩
theorem case1_has {e:Expr} {k:Int} (h:Has cols e k) (ho:e.op=24) (n:Nat) (hn:n + 1=e.args.length):∀ (d m:Nat),n - 2 * m ≤ d→(case1 e n (2 * m)).2=true→Has cols (case1 e n (2 * m)).1 k:=by
 have hi:=nodeR_inner (wf_node h.wf) (by omega) (by omega) (by omega)
 obtain ⟨ha,hsg⟩:=has_elim h hi.lo
 have hc:caseOK k (e.args.map (kd cols))=true:=by simpa [sig,ho] using hsg
 have hlen:=args_case hi ho
 have h16:=many_le hi.many
 obtain ⟨l1,l2⟩:=caseOK_lastE e.args hc
 have hlast:Has cols (lastE e.args) k:=⟨(ha _ l2).wf,(ha _ l2).ok,l1⟩
 intro d
 induction d with
 | zero=>intro m hd hs;rw [case1,dif_neg (by omega)] at hs ⊢;exact case2_has hlast n _ 1 (Nat.le_refl _) hs
 | succ d ih=>
  intro m hd hs
  rw [case1] at hs ⊢
  split
  ·rename_i hlt
   rw [dif_pos hlt] at hs
   split
   ·
    have hm:2 * m + 1 < e.args.length:=by omega
    have hcut:=caseOK_cut k m (e.args.map (kd cols)) hc (by simpa using hm)
    have hget:e.args.getD (2 * m + 1) zeroE=e.args[2 * m + 1]:=getD_E _ _ hm
    have c1:caseOK k ((e.args.take (2 * m) ++ [e.args.getD (2 * m + 1) zeroE]).map (kd cols))=true:=by
     rw [hget]
     have:=hcut.1
     simpa [List.map_take,List.getD_eq_getElem?_getD,hm] using this
    have c2:caseOK k ((e.args.take (2 * m) ++ e.args.drop (2 * m + 2)).map (kd cols))=true:=by
     simpa [List.map_take,List.map_drop] using hcut.2
    have gen:∀ l:List Expr,(∀ a ∈ l,a ∈ e.args)→caseOK k (l.map (kd cols))=true→l.length % 2=1→l.length ≤ 16→Has cols (oneOr e l) k:=by
     intro l hmem hcl hodd hle
     refine oneOr_has h.wf hi.lo ?_ ?_ ?_
     ·rintro rfl;simp at hodd
     ·rintro _ a rfl
      have hA:=ha a (hmem a (by simp))
      exact ⟨hA.wf,hA.ok,by simpa [caseOK] using hcl⟩
     ·intro hne
      refine has_set h.wf hi.lo ?_ (fun a hm=>ha a (hmem a hm)) (by rw [ho];simpa [sig] using hcl)
      rw [ho]
      have ht:((l.length:Int)).tmod 2=((l.length % 2:Nat):Int):=rfl
      exact many_case (by omega) (by rw [ht,hodd];rfl) (by omega)
    split
    ·refine gen _ (fun a hm'=>?_) c1 (by simp;omega) (by simp;omega)
     rw [hget] at hm'
     simp at hm'
     rcases hm' with hm' | rfl
     ·exact List.mem_of_mem_take hm'
     ·exact List.getElem_mem hm
    ·exact gen _ (fun a hm'=>mem_cut hm') c2 (by simp;omega) (by simp;omega)
   ·rename_i hl
    rw [if_neg hl] at hs
    have:=ih (m + 1) (by omega)
    rw [show 2 * (m + 1)=2 * m + 2 by omega] at this
    exact this hs
  ·rename_i hlt
   rw [dif_neg hlt] at hs
   exact case2_has hlast n _ 1 (Nat.le_refl _) hs
theorem step_has {e:Expr} {k:Int} (h:Has cols e k) (hs:(stepE e cols).2=true):Has cols (stepE e cols).1 k:=by
 have hw:=wf_node h.wf
 unfold stepE at hs ⊢
 split
 ·rename_i h0;rw [if_pos h0] at hs;cases hs
 rename_i h0
 rw [if_neg h0] at hs
 have hne:e.args ≠ []:=by intro h;rw [h] at h0;simp at h0
 have hi:Inner e:=nodeR_inner hw (fun h=>hne (nodeR_leaf hw (.inl h))) (fun h=>hne (nodeR_leaf hw (.inr h))) (fun h=>hne (nodeR_lit hw h).2.2.2.2.2.1)
 have hlo:=hi.lo
 have hhi:=hi.hi
 obtain ⟨ha,hsg⟩:=has_elim h hlo
 split
 ·rename_i hc;exact constant_has h hlo hc
 rename_i hc
 rw [if_neg hc] at hs
 split
 ·rename_i ho
  rw [if_pos ho] at hs
  exact listed_has h (.inl (by simpa using ho)) true hs
 rename_i n19
 rw [if_neg n19] at hs
 split
 ·rename_i ho
  rw [if_pos ho] at hs
  exact listed_has h (.inr (by simpa using ho)) false hs
 rename_i n20
 rw [if_neg n20] at hs
 split
 ·rename_i ho
  rw [if_pos ho] at hs
  have ho:e.op=21:=by simpa using ho
  obtain ⟨a,hab⟩:=args1 hi (by omega)
  simp [sig,ho,hab,allK1] at hsg
  obtain ⟨hk,rfl⟩:=hsg
  have hA:=ha a (by simp [hab])
  rw [hab] at hs ⊢
  exact not_has ⟨hA.wf,hA.ok,hk⟩ hs
 rename_i n21
 rw [if_neg n21] at hs
 split
 ·rename_i ho
  have ho:e.op=22:=by simpa using ho
  have hk:k=2:=by simpa [sig,ho] using hsg
  subst hk
  exact has_truth cols _
 rename_i n22
 rw [if_neg n22] at hs
 split
 ·rename_i ho
  have ho:e.op=23:=by simpa using ho
  obtain ⟨a,hab⟩:=args1 hi (by omega)
  simp [sig,ho,hab,allK1] at hsg
  obtain ⟨hk,rfl⟩:=hsg
  have hA:=ha a (by simp [hab])
  rw [hab]
  exact ⟨hA.wf,hA.ok,hk⟩
 rename_i n23
 rw [if_neg n23] at hs
 split
 ·rename_i ho
  rw [if_pos ho] at hs
  have ho:e.op=18:=by simpa using ho
  obtain ⟨rfl,a,b,kk,hab,h1,h2⟩:=cmp_elim h (by omega) (by omega)
  have e1:hdE e.args=a:=by rw [hab];rfl
  have e2:lastE e.args=b:=by rw [hab];rfl
  rw [e1,e2] at hs ⊢
  exact sameStep_has h1 h2 hs
 rename_i n18
 rw [if_neg n18] at hs
 split
 ·rename_i ho
  rw [if_pos ho] at hs
  have ho:e.op=24:=by simpa using ho
  have:=args_case hi ho
  exact case1_has h ho (e.args.length - 1) (by omega) _ 0 (Nat.le_refl _) hs
 rename_i n24
 rw [if_neg n24] at hs
 split
 ·rename_i ho
  rw [if_pos ho] at hs
  exact first_has h (by simpa using ho) hs
 rename_i n25
 rw [if_neg n25] at hs
 simp only [beq_iff_eq] at n19 n20 n21 n22 n23 n18 n24 n25
 exact strict_has h hlo (by omega) e.args hs
theorem has_args {e:Expr} {k:Int} (h:Has cols e k) {xs:List Expr} (hl:e.args.length=xs.length) (hx:∀ (i:Nat) (h1:i < e.args.length) (h2:i < xs.length),Has cols xs[i] (kd cols e.args[i])):Has cols (setA e xs) k:=by
 have hxs:∀ a ∈ xs,Has cols a (kd cols a):=by
  intro a ha
  obtain ⟨i,hi,rfl⟩:=List.getElem_of_mem ha
  exact has_self (hx i (by omega) hi)
 by_cases h4:4 ≤ e.op
 ·have hi:=nodeR_inner (wf_node h.wf) (by omega) (by omega) (by omega)
  obtain ⟨_,hsg⟩:=has_elim h h4
  refine has_set h.wf h4 (by rw [← hl];exact hi.many) hxs ?_
  rw [show xs.map (kd cols)=e.args.map (kd cols) from ?_]
  ·exact hsg
  ·apply List.ext_getElem (by simp [hl])
   intro i h1 h2
   simp at h1 h2
   simp [(hx i h2 h1).kind]
 ·have hleaf:e.args=[]:=by
   have hw:=wf_node h.wf
   by_cases h1:e.op=1
   ·exact nodeR_leaf hw (.inl h1)
   ·by_cases h2:e.op=2
    ·exact nodeR_leaf hw (.inr h2)
    ·by_cases h3:e.op=3
     ·exact (nodeR_lit hw h3).2.2.2.2.2.1
     ·exact absurd (nodeR_inner hw h1 h2 h3).lo h4
  have hx0:xs=[]:=by rw [hleaf] at hl;exact List.eq_nil_of_length_eq_zero hl.symm
  have:setA e xs=e:=by
   cases e
   simp only [Expr.args] at hleaf
   subst hleaf;subst hx0
   rfl
  rw [this];exact h
theorem simp_has {e y:Expr} (hsim:Simp cols e y):∀ {k:Int},Has cols e k→Has cols y k:=by
 induction hsim with
 | stay e xs hl h hs ih=>
  intro k hk
  refine has_args hk hl fun i h1 h2=>ih i h1 h2 ?_
  by_cases h4:4 ≤ e.op
  ·exact (has_elim hk h4).1 _ (List.getElem_mem h1)
  ·have hw:=wf_node hk.wf
   have:e.args=[]:=by
    by_cases h1:e.op=1
    ·exact nodeR_leaf hw (.inl h1)
    ·by_cases h2:e.op=2
     ·exact nodeR_leaf hw (.inr h2)
     ·by_cases h3:e.op=3
      ·exact (nodeR_lit hw h3).2.2.2.2.2.1
      ·exact absurd (nodeR_inner hw h1 h2 h3).lo h4
   rw [this] at h1;simp at h1
 | go e xs y hl h hs hy ih ihy=>
  intro k hk
  refine ihy (step_has (has_args hk hl fun i h1 h2=>ih i h1 h2 ?_) hs)
  by_cases h4:4 ≤ e.op
  ·exact (has_elim hk h4).1 _ (List.getElem_mem h1)
  ·have hw:=wf_node hk.wf
   have:e.args=[]:=by
    by_cases h1:e.op=1
    ·exact nodeR_leaf hw (.inl h1)
    ·by_cases h2:e.op=2
     ·exact nodeR_leaf hw (.inr h2)
     ·by_cases h3:e.op=3
      ·exact (nodeR_lit hw h3).2.2.2.2.2.1
      ·exact absurd (nodeR_inner hw h1 h2 h3).lo h4
   rw [this] at h1;simp at h1
end
end Go.Proofs.YtgiedlcjlalpcaaGreat
namespace Go.Proofs.YtgiedlcjlalpcaaGreat
open Go.Abs
def wtOp (op:Int) (ws:List Nat):Nat:=
 if op == 3 then 1 else if op == 1 || op == 2 then 2
 else if op == 21 then 2 * ws.sum
 else if decide (12 ≤ op) && decide (op ≤ 17) then 2 * ws.getD 0 0 + 3 * ws.getD 1 0
 else if op == 18 then 1 + 2 * ws.getD 0 0 + 3 * ws.getD 1 0
 else 1 + ws.sum
mutual
def wt:Expr→Nat
 | .mk op _ _ _ _ args _=>wtOp op (wts args)
def wts:List Expr→List Nat
 | []=>[]
 | a :: r=>wt a :: wts r
end
theorem wts_map:∀ (l:List Expr),wts l=l.map wt
 | []=>rfl
 | a :: r=>by simp [wts,wts_map r]
theorem wt_eq (e:Expr):wt e=wtOp e.op (e.args.map wt):=by
 cases e
 simp only [wt,wts_map];rfl
theorem wt_lit {e:Expr} (h:e.op=3):wt e=1:=by rw [wt_eq];simp [wtOp,h]
theorem wt_leaf {e:Expr} (h:e.op=1 ∨ e.op=2):wt e=2:=by rw [wt_eq];rcases h with h | h <;> simp [wtOp,h]
theorem wt_not {e:Expr} (h:e.op=21):wt e=2 * (e.args.map wt).sum:=by rw [wt_eq];simp [wtOp,h]
theorem wt_cmp {e a b:Expr} (h1:12 ≤ e.op) (h2:e.op ≤ 17) (hab:e.args=[a,b]):wt e=2 * wt a + 3 * wt b:=by
 rw [wt_eq,hab]
 unfold wtOp
 rw [if_neg (by simp;omega),if_neg (by simp;omega),if_neg (by simp;omega),if_pos (by simp [h1,h2])]
 simp
theorem wt_same {e a b:Expr} (h:e.op=18) (hab:e.args=[a,b]):wt e=1 + 2 * wt a + 3 * wt b:=by
 rw [wt_eq,hab]
 simp [wtOp,h]
theorem wt_sum {e:Expr} (h4:4 ≤ e.op) (h21:e.op ≠ 21) (h:¬ (12 ≤ e.op∧e.op ≤ 18)):wt e=1 + (e.args.map wt).sum:=by
 rw [wt_eq]
 unfold wtOp
 rw [if_neg (by simp;omega),if_neg (by simp;omega),if_neg (by simp;omega),if_neg (by simp;omega),if_neg (by simp;omega)]
theorem sum_mem {l:List Expr} {a:Expr} (h:a ∈ l):wt a ≤ (l.map wt).sum:=by
 induction l with
 | nil=>cases h
 | cons b r ih=>
  simp only [List.map_cons,List.sum_cons]
  cases h with
  | head=>omega
  | tail _ h=>have:=ih h;omega
theorem wt_pos:∀ (n:Nat) (e:Expr),e.size ≤ n→wf e=true→1 ≤ wt e∧(e.op ≠ 3→2 ≤ wt e)
 | 0,e,hn,_=>by cases e;simp [Expr.size] at hn
 | n + 1,e,hn,hw=>by
  have ih:∀ a ∈ e.args,1 ≤ wt a:=fun a ha=>(wt_pos n a (by have:=Expr.size_arg ha;omega) (wf_arg hw a ha)).1
  by_cases h3:e.op=3
  ·rw [wt_lit h3];exact ⟨Nat.le_refl _,fun h=>absurd h3 h⟩
  by_cases h12:e.op=1 ∨ e.op=2
  ·rw [wt_leaf h12];exact ⟨by omega,fun _=>by omega⟩
  have hi:=nodeR_inner (wf_node hw) (by omega) (by omega) h3
  have hpos:=many_pos hi.many
  obtain ⟨a,r,hab⟩:∃ a r,e.args=a :: r:=by
   match hh:e.args with
   | []=>rw [hh] at hpos;simp at hpos
   | a :: r=>exact ⟨a,r,rfl⟩
  have ha:=ih a (by simp [hab])
  have hs:=sum_mem (l:=e.args) (a:=a) (by simp [hab])
  suffices h:2 ≤ wt e by exact ⟨by omega,fun _=>h⟩
  by_cases h21:e.op=21
  ·rw [wt_not h21];omega
  ·by_cases hc:12 ≤ e.op∧e.op ≤ 18
   ·obtain ⟨a,b,hab⟩:=args2 hi hc.2 (by omega) (by omega)
    have h1:=ih a (by simp [hab])
    have h2:=ih b (by simp [hab])
    by_cases h18:e.op=18
    ·rw [wt_same h18 hab];omega
    ·rw [wt_cmp hc.1 (by omega) hab];omega
   ·rw [wt_sum hi.lo h21 hc];omega
theorem wt_one {e:Expr} (hw:wf e=true):1 ≤ wt e:=(wt_pos e.size e (Nat.le_refl _) hw).1
theorem wt_two {e:Expr} (hw:wf e=true) (h:e.op ≠ 3):2 ≤ wt e:=(wt_pos e.size e (Nat.le_refl _) hw).2 h
theorem arg_lt {e a:Expr} (hw:wf e=true) (ha:a ∈ e.args):wt a < wt e:=by
 have h1:=fun b hb=>wt_one (wf_arg hw b hb)
 have hne:e.args ≠ []:=by intro h;rw [h] at ha;cases ha
 have hn:=wf_node hw
 have hi:Inner e:=nodeR_inner hn (fun h=>hne (nodeR_leaf hn (.inl h))) (fun h=>hne (nodeR_leaf hn (.inr h))) (fun h=>hne (nodeR_lit hn h).2.2.2.2.2.1)
 have hs:=sum_mem ha
 have ha1:=h1 a ha
 by_cases h21:e.op=21
 ·rw [wt_not h21];omega
 ·by_cases hc:12 ≤ e.op∧e.op ≤ 18
  ·obtain ⟨x,y,hab⟩:=args2 hi hc.2 (by omega) (by omega)
   have hx:=h1 x (by simp [hab])
   have hy:=h1 y (by simp [hab])
   have hm:a=x ∨ a=y:=by rw [hab] at ha;simpa using ha
   have:wt a=wt x ∨ wt a=wt y:=by rcases hm with rfl | rfl <;> simp
   by_cases h18:e.op=18
   ·rw [wt_same h18 hab];omega
   ·rw [wt_cmp hc.1 (by omega) hab];omega
  ·rw [wt_sum hi.lo h21 hc];omega
theorem wt_setA {e:Expr} {xs:List Expr} (hl:e.args.length=xs.length) (hx:∀ (i:Nat) (h1:i < e.args.length) (h2:i < xs.length),wt xs[i] ≤ wt e.args[i]):wt (setA e xs) ≤ wt e:=by
 rw [wt_eq e,wt_eq (setA e xs)]
 have e1:(setA e xs).op=e.op:=by cases e;rfl
 have e2:(setA e xs).args=xs:=by cases e;rfl
 rw [e1,e2]
 generalize hA:e.args=l at hl hx
 clear hA e1 e2
 have hsum:∀ (l xs:List Expr),l.length=xs.length→(∀ (i:Nat) (h1:i < l.length) (h2:i < xs.length),wt xs[i] ≤ wt l[i])→(xs.map wt).sum ≤ (l.map wt).sum:=by
  intro l
  induction l with
  | nil=>intro xs hl _;rw [List.eq_nil_of_length_eq_zero hl.symm];simp
  | cons a r ih=>
   intro xs hl hx
   match xs,hl with
   | b :: s,hl=>
    have h0:=hx 0 (by simp) (by simp)
    have h1:=ih s (by simpa using hl) fun i h1 h2=>by
     have:=hx (i + 1) (by simp;omega) (by simp;omega)
     simpa using this
    simp at h0
    simp only [List.map_cons,List.sum_cons]
    omega
 have hg:∀ i:Nat,(xs.map wt).getD i 0 ≤ (l.map wt).getD i 0:=by
  intro i
  simp only [List.getD_eq_getElem?_getD,List.getElem?_map]
  by_cases h:i < xs.length
  ·have h':i < l.length:=by omega
   have:=hx i h' h
   simpa [h,h'] using this
  ·rw [List.getElem?_eq_none (by omega)];simp
 have h0:=hg 0
 have h1:=hg 1
 have hs:=hsum l xs hl hx
 unfold wtOp
 split
 ·exact Nat.le_refl _
 ·split
  ·exact Nat.le_refl _
  ·split
   ·omega
   ·split
    ·omega
    ·split
     ·omega
     ·omega
theorem wt_litE (k:Int) (v:Val):wt (litE k v)=1:=wt_lit rfl
theorem sum_app (l m:List Expr):((l ++ m).map wt).sum=(l.map wt).sum + (m.map wt).sum:=by simp
theorem sum_cut (l:List Expr) (i:Nat) (h:i < l.length):((l.take i ++ l.drop (i + 1)).map wt).sum + wt l[i]=(l.map wt).sum:=by
 have h1:l=l.take i ++ (l[i] :: l.drop (i + 1)):=by
  rw [← List.drop_eq_getElem_cons h];exact (List.take_append_drop i l).symm
 have h2:(l.map wt).sum=((l.take i).map wt).sum + (wt l[i] + ((l.drop (i + 1)).map wt).sum):=by
  have h3:(l.map wt).sum=((l.take i ++ (l[i] :: l.drop (i + 1))).map wt).sum:=congrArg (fun x=>(x.map wt).sum) h1
  rw [h3,sum_app,List.map_cons,List.sum_cons]
 rw [h2,sum_app];omega
theorem setA_op (e:Expr) (l:List Expr):(setA e l).op=e.op:=by cases e;rfl
theorem setA_args (e:Expr) (l:List Expr):(setA e l).args=l:=by cases e;rfl
def Plus (e:Expr):Prop:=4 ≤ e.op∧e.op ≠ 21∧¬ (12 ≤ e.op∧e.op ≤ 18)
theorem wt_plus {e:Expr} (h:Plus e):wt e=1 + (e.args.map wt).sum:=wt_sum h.1 h.2.1 h.2.2
theorem wt_plus_set {e:Expr} (h:Plus e) (l:List Expr):wt (setA e l)=1 + (l.map wt).sum:=by
 have:=wt_sum (e:=setA e l) (by rw [setA_op];exact h.1) (by rw [setA_op];exact h.2.1) (by rw [setA_op];exact h.2.2)
 rw [this,setA_args]
theorem oneOr_wt {e:Expr} (h:Plus e) {l:List Expr} (hlt:(l.map wt).sum < (e.args.map wt).sum):wt (oneOr e l) < wt e:=by
 rw [wt_plus h]
 unfold oneOr
 split
 ·rename_i h1
  have h1:l.length=1:=by simp at h1;omega
  match l,h1 with
  | [a],_=>
   simp at hlt
   show wt a < _
   omega
 ·rw [wt_plus_set h];omega
end Go.Proofs.YtgiedlcjlalpcaaGreat
namespace Go.Proofs.YtgiedlcjlalpcaaGreat
open Go.Abs
section
variable {cols:List Col}
theorem plus_of {e:Expr} (hi:Inner e) (h:e.op=4 ∨ e.op=5 ∨ e.op=6 ∨ e.op=7 ∨ e.op=8 ∨ e.op=9 ∨ e.op=10 ∨ e.op=11 ∨ e.op=19 ∨ e.op=20 ∨ e.op=22 ∨ e.op=23 ∨ e.op=24 ∨ e.op=25):Plus e:=
 ⟨hi.lo,by omega,by omega⟩
theorem without_wt {e:Expr} (hw:wf e=true) (hp:Plus e) {i:Nat} (hi:i < e.args.length):wt (withoutE e i) < wt e:=by
 refine oneOr_wt hp ?_
 have:=sum_cut e.args i hi
 have h1:=wt_one (wf_get hw hi)
 omega
theorem inner_two {e:Expr} (hw:wf e=true) (h:4 ≤ e.op):2 ≤ wt e:=wt_two hw (by omega)
theorem list3_wt {e:Expr} (hw:wf e=true) (h4:4 ≤ e.op) (and:Bool):∀ (l:List Expr),(list3 e and l).2=true→wt (list3 e and l).1 < wt e
 | [],h=>by cases h
 | a :: r,h=>by
  simp only [list3] at h ⊢
  split
  ·have:=inner_two hw h4
   show wt (truthE (!and)) < _
   rw [truthE,wt_litE];omega
  ·rename_i hn;rw [if_neg hn] at h;exact list3_wt hw h4 and r h
theorem listed_wt {e:Expr} (hw:wf e=true) (ho:e.op=19 ∨ e.op=20) (and:Bool) (hs:(listedE e and).2=true):wt (listedE e and).1 < wt e:=by
 have hi:=nodeR_inner (wf_node hw) (by omega) (by omega) (by omega)
 have hp:Plus e:=plus_of hi (by omega)
 have r2:∀ (l:List Expr) (i:Nat),l=e.args.drop i→(list2 e and l i).2=true→wt (list2 e and l i).1 < wt e:=by
  intro l
  induction l with
  | nil=>intro i _ hs;exact list3_wt hw hi.lo and e.args hs
  | cons a r ih=>
   intro i hl hs
   have hi':i < e.args.length:=by
    rcases Nat.lt_or_ge i e.args.length with h' | h'
    ·exact h'
    ·rw [List.drop_eq_nil_of_le h'] at hl;cases hl
   simp only [list2] at hs ⊢
   split
   ·exact without_wt hw hp hi'
   ·rename_i hn
    rw [if_neg hn] at hs
    refine ih (i + 1) ?_ hs
    rw [List.drop_eq_getElem_cons hi'] at hl
    exact (List.cons.inj hl).2
 have r1:∀ (l:List Expr) (i:Nat),l=e.args.drop i→(list1 e and l i).2=true→wt (list1 e and l i).1 < wt e:=by
  intro l
  induction l with
  | nil=>intro i _ hs;exact r2 e.args 0 rfl hs
  | cons a r ih=>
   intro i hl hs
   have hi':i < e.args.length:=by
    rcases Nat.lt_or_ge i e.args.length with h' | h'
    ·exact h'
    ·rw [List.drop_eq_nil_of_le h'] at hl;cases hl
   rw [List.drop_eq_getElem_cons hi'] at hl
   obtain ⟨hae,hr⟩:=List.cons.inj hl
   simp only [list1] at hs ⊢
   split
   ·rename_i hj
    simp only [joins,Bool.and_eq_true,beq_iff_eq] at hj
    have hwa:wf a=true:=by rw [hae];exact wf_get hw hi'
    have hia:=nodeR_inner (wf_node hwa) (by omega) (by omega) (by omega)
    have hpa:Plus a:=plus_of hia (by omega)
    have hsum:=sum_cut e.args i hi'
    rw [← hae] at hsum
    show wt (spliceE e i a) < _
    rw [wt_plus hp,spliceE,wt_plus_set hp,sum_app,sum_app]
    rw [sum_app,wt_plus hpa] at hsum
    omega
   ·rename_i hn
    rw [if_neg hn] at hs
    exact ih (i + 1) hr hs
 exact r1 e.args 0 rfl hs
theorem wt_cmpop {op:Int} {a b:Expr} (h1:12 ≤ op) (h2:op ≤ 17):wt (opE op [a,b])=2 * wt a + 3 * wt b:=wt_cmp (e:=opE op [a,b]) h1 h2 rfl
theorem wt_notop (a:Expr):wt (opE 21 [a])=2 * wt a:=by rw [wt_not (e:=opE 21 [a]) rfl];simp [opE,Expr.args]
theorem wt_nullop (a:Expr):wt (opE 22 [a])=1 + wt a:=by
 rw [wt_sum (e:=opE 22 [a]) (show (4:Int) ≤ 22 by decide) (show (22:Int) ≠ 21 by decide) (show ¬ ((12:Int) ≤ 22∧(22:Int) ≤ 18) by decide)];simp [opE,Expr.args]
theorem not_wt {a:Expr} (hw:wf a=true) (hs:(notE a).2=true):wt (notE a).1 < 2 * wt a:=by
 have h1:=wt_one hw
 unfold notE at hs ⊢
 split
 ·rename_i h21
  have h21:a.op=21:=by simpa using h21
  have hi:=nodeR_inner (wf_node hw) (by omega) (by omega) (by omega)
  obtain ⟨x,hx⟩:=args1 hi (by omega)
  have:=arg_lt hw (a:=x) (by simp [hx])
  rw [hx]
  show wt x < _
  omega
 ·rename_i n21
  rw [if_neg n21] at hs
  split
  ·rename_i hc
   simp only [Bool.and_eq_true,decide_eq_true_eq] at hc
   have hi:=nodeR_inner (wf_node hw) (by omega) (by omega) (by omega)
   obtain ⟨x,y,hxy⟩:=args2 hi (by omega) (by omega) (by omega)
   have hr:=opposite_range hc.1 hc.2
   rw [wt_cmp hc.1 hc.2 hxy] at h1 ⊢
   rw [hxy]
   show wt (opE (opposite a.op) [x,y]) < _
   rw [wt_cmpop hr.1 hr.2]
   omega
  ·rename_i nc
   rw [if_neg nc] at hs
   split
   ·rename_i hl
    have ho:a.op=19 ∨ a.op=20:=by simpa using hl
    have hi:=nodeR_inner (wf_node hw) (by omega) (by omega) (by omega)
    rw [wt_plus (plus_of hi (by omega))]
    have hsum:∀ l:List Expr,((l.map fun x=>opE 21 [x]).map wt).sum=2 * (l.map wt).sum:=by
     intro l
     induction l with
     | nil=>rfl
     | cons x r ih=>
      simp only [List.map_cons,List.sum_cons,ih,wt_notop];omega
    show wt (opE (39 - a.op) (a.args.map fun x=>opE 21 [x])) < _
    rw [wt_sum (e:=opE (39 - a.op) (a.args.map fun x=>opE 21 [x])) (by show 4 ≤ 39 - a.op;omega) (by show 39 - a.op ≠ 21;omega) (by show ¬ (12 ≤ 39 - a.op∧39 - a.op ≤ 18);omega)]
    show 1 + ((a.args.map fun x=>opE 21 [x]).map wt).sum < _
    rw [hsum];omega
   ·rename_i nl
    rw [if_neg nl] at hs;cases hs
theorem compared_wt {e a b:Expr} (h1:12 ≤ e.op) (h2:e.op ≤ 17) (hab:e.args=[a,b]) (ha:wf a=true) (hb:wf b=true) (hs:(comparedE e cols a b).2=true):wt (comparedE e cols a b).1 < wt e:=by
 have wa:=wt_one ha
 have wb:=wt_one hb
 rw [wt_cmp h1 h2 hab]
 unfold comparedE at hs ⊢
 split
 ·rename_i hc
  simp only [Bool.and_eq_true,Bool.not_eq_true'] at hc
  have hr:=exchanged_range h1 h2
  have a3:a.op=3:=isLit_op.1 hc.1
  have b3:b.op ≠ 3:=by intro h;rw [isLit_op.2 h] at hc;cases hc.2
  have:=wt_two hb b3
  show wt (opE (exchanged e.op) [b,a]) < _
  rw [wt_cmpop hr.1 hr.2,wt_lit a3]
  omega
 ·rename_i n1
  rw [if_neg n1] at hs
  split
  ·show wt a < _;omega
  ·rename_i n2
   rw [if_neg n2] at hs
   split
   ·show wt (opE 21 [a]) < _;rw [wt_notop];omega
   ·rename_i n3
    rw [if_neg n3] at hs
    split
    ·show wt (truthE _) < _;rw [truthE,wt_litE];omega
    ·rename_i n4
     rw [if_neg n4] at hs;cases hs
theorem sameStep_wt {e a b:Expr} (ho:e.op=18) (hab:e.args=[a,b]) (ha:wf a=true) (hb:wf b=true):wt (sameStepE cols a b).1 < wt e:=by
 have wa:=wt_one ha
 have wb:=wt_one hb
 rw [wt_same ho hab]
 unfold sameStepE
 split
 ·show wt (truthE _) < _;rw [truthE,wt_litE];omega
 ·split
  ·show wt (opE 22 [b]) < _;rw [wt_nullop];omega
  ·split
   ·show wt (opE 22 [a]) < _;rw [wt_nullop];omega
   ·show wt (opE 12 [a,b]) < _;rw [wt_cmpop (by decide) (by decide)];omega
theorem hd_mem {l:List Expr} (h:l ≠ []):hdE l ∈ l:=by
 cases l with
 | nil=>exact absurd rfl h
 | cons a r=>simp [hdE]
theorem last_mem:∀ {l:List Expr},l ≠ []→lastE l ∈ l
 | [],h=>absurd rfl h
 | [a],_=>by simp [lastE]
 | a :: b :: r,_=>by
  have:=last_mem (l:=b :: r) (by simp)
  have e:lastE (a :: b :: r)=lastE (b :: r):=rfl
  rw [e]
  exact List.mem_cons_of_mem _ this
theorem computed_wt {e:Expr} (hw:wf e=true) (h4:4 ≤ e.op) (hne:e.args ≠ []) (hs:(computedE e cols).2=true):wt (computedE e cols).1 < wt e:=by
 have h2:=inner_two hw h4
 have ha:=arg_lt hw (hd_mem hne)
 have hb:=arg_lt hw (last_mem hne)
 unfold computedE at hs ⊢
 dsimp only at hs ⊢
 split
 ·exact ha
 ·rename_i n1
  rw [if_neg n1] at hs
  split
  ·exact hb
  ·rename_i n2
   rw [if_neg n2] at hs
   split
   ·show wt (litE 1 (intW 0)) < _;rw [wt_litE];omega
   ·rename_i n3
    rw [if_neg n3] at hs;cases hs
theorem strict_wt {e:Expr} (hw:wf e=true) (h4:4 ≤ e.op) (h17:e.op ≤ 17) (hne:e.args ≠ []):∀ (l:List Expr),(strictL e cols l).2=true→wt (strictL e cols l).1 < wt e
 | [],hs=>by
  simp only [strictL] at hs ⊢
  split
  ·rename_i hc
   simp only [Bool.and_eq_true,decide_eq_true_eq] at hc
   rw [if_pos (by simp [hc])] at hs
   have hi:=nodeR_inner (wf_node hw) (by omega) (by omega) (by omega)
   obtain ⟨a,b,hab⟩:=args2 hi (by omega) (by omega) (by omega)
   have e1:hdE e.args=a:=by rw [hab];rfl
   have e2:lastE e.args=b:=by rw [hab];rfl
   rw [e1,e2] at hs ⊢
   exact compared_wt hc.1 hc.2 hab (wf_arg hw a (by simp [hab])) (wf_arg hw b (by simp [hab])) hs
  ·rename_i hc
   rw [if_neg hc] at hs
   exact computed_wt hw h4 hne hs
 | a :: r,hs=>by
  simp only [strictL] at hs ⊢
  split
  ·have:=inner_two hw h4
   show wt (litE _ nullW) < _;rw [wt_litE];omega
  ·rename_i hn
   rw [if_neg hn] at hs
   exact strict_wt hw h4 h17 hne r hs
theorem sum_take (l:List Expr) (i:Nat) (hw:∀ a ∈ l,1 ≤ wt a) (h:i < l.length):((l.take i).map wt).sum < (l.map wt).sum:=by
 have:=sum_cut l i h
 rw [sum_app] at this
 have h1:=hw l[i] (List.getElem_mem h)
 omega
theorem first2_wt {e:Expr} (hw:wf e=true) (hp:Plus e) (n:Nat) (hn:n + 1=e.args.length):∀ (d i:Nat),n - i=d→(first2 e cols n i).2=true→wt (first2 e cols n i).1 < wt e:=by
 intro d
 induction d with
 | zero=>
  intro i hd hs
  rw [first2,dif_neg (by omega)] at hs;cases hs
 | succ d ih=>
  intro i hd hs
  have hlt:i < n:=by omega
  rw [first2,dif_pos hlt] at hs ⊢
  split
  ·rename_i hc
   rw [if_pos hc] at hs
   exact ih (i + 1) (by omega) hs
  ·dsimp only
   by_cases h0:i=0
   ·rw [if_pos h0]
    exact arg_lt hw (hd_mem (by intro h;rw [h] at hn;simp at hn))
   ·rw [if_neg h0,wt_plus_set hp,wt_plus hp]
    have:=sum_take e.args (i + 1) (fun a ha=>wt_one (wf_arg hw a ha)) (by omega)
    omega
theorem first_wt {e:Expr} (hw:wf e=true) (ho:e.op=25) (hs:(firstE e cols).2=true):wt (firstE e cols).1 < wt e:=by
 have hi:=nodeR_inner (wf_node hw) (by omega) (by omega) (by omega)
 have hlen:=args_list hi (by omega)
 have hp:Plus e:=plus_of hi (by omega)
 have r1:∀ (l:List Expr) (i:Nat),l=e.args.drop i→(first1 e cols l i).2=true→wt (first1 e cols l i).1 < wt e:=by
  intro l
  induction l with
  | nil=>
   intro i _ hs
   exact first2_wt hw hp (e.args.length - 1) (by omega) _ 0 rfl hs
  | cons a r ih=>
   intro i hl hs
   have hi':i < e.args.length:=by
    rcases Nat.lt_or_ge i e.args.length with h' | h'
    ·exact h'
    ·rw [List.drop_eq_nil_of_le h'] at hl;cases hl
   rw [List.drop_eq_getElem_cons hi'] at hl
   obtain ⟨hae,hr⟩:=List.cons.inj hl
   simp only [first1] at hs ⊢
   split
   ·exact without_wt hw hp hi'
   ·rename_i hn
    rw [if_neg hn] at hs
    exact ih (i + 1) hr hs
 exact r1 e.args 0 rfl hs
theorem case2_wt {e:Expr} (hw:wf e=true) (hne:e.args ≠ []) (n:Nat):∀ (d i:Nat),n - i ≤ d→(case2 e n i).2=true→wt (case2 e n i).1 < wt e:=by
 intro d
 induction d with
 | zero=>intro i hd _;rw [case2,dif_neg (by omega)];exact arg_lt hw (last_mem hne)
 | succ d ih=>
  intro i hd hs
  rw [case2] at hs ⊢
  split
  ·rename_i h
   rw [dif_pos h] at hs
   split
   ·rename_i hc
    rw [if_pos hc] at hs
    exact ih (i + 2) (by omega) hs
   ·rename_i hc
    rw [if_neg hc] at hs;cases hs
  ·exact arg_lt hw (last_mem hne)
theorem sum_two (l:List Expr) (i:Nat) (h:i + 1 < l.length):((l.take i).map wt).sum + wt (l[i]'(by omega)) + wt l[i + 1] + ((l.drop (i + 2)).map wt).sum=(l.map wt).sum:=by
 have h1:l=l.take i ++ (l[i]'(by omega) :: l[i + 1] :: l.drop (i + 2)):=by
  rw [← List.drop_eq_getElem_cons h,← List.drop_eq_getElem_cons (by omega)];exact (List.take_append_drop i l).symm
 have h3:(l.map wt).sum=((l.take i ++ (l[i]'(by omega) :: l[i + 1] :: l.drop (i + 2))).map wt).sum:=congrArg (fun x=>(x.map wt).sum) h1
 rw [h3,sum_app,List.map_cons,List.sum_cons,List.map_cons,List.sum_cons]
 omega
theorem case1_wt {e:Expr} (hw:wf e=true) (hp:Plus e) (hne:e.args ≠ []) (n:Nat) (hn:n + 1=e.args.length):∀ (d i:Nat),n - i ≤ d→(case1 e n i).2=true→wt (case1 e n i).1 < wt e:=by
 intro d
 induction d with
 | zero=>intro i hd hs;rw [case1,dif_neg (by omega)] at hs ⊢;exact case2_wt hw hne n _ 1 (Nat.le_refl _) hs
 | succ d ih=>
  intro i hd hs
  rw [case1] at hs ⊢
  split
  ·rename_i hlt
   rw [dif_pos hlt] at hs
   split
   ·have hm:i + 1 < e.args.length:=by omega
    have hs2:=sum_two e.args i hm
    have p1:=wt_one (wf_get hw (i:=i) (by omega))
    have p2:=wt_one (wf_get hw hm)
    refine oneOr_wt hp ?_
    split
    ·rw [sum_app,getD_E _ _ hm]
     simp only [List.map_cons,List.map_nil,List.sum_cons,List.sum_nil]
     omega
    ·rw [sum_app];omega
   ·rename_i hl
    rw [if_neg hl] at hs
    exact ih (i + 2) (by omega) hs
  ·rename_i hlt
   rw [dif_neg hlt] at hs
   exact case2_wt hw hne n _ 1 (Nat.le_refl _) hs
theorem step_wt {e:Expr} (hw:wf e=true) (hs:(stepE e cols).2=true):wt (stepE e cols).1 < wt e:=by
 have hnode:=wf_node hw
 unfold stepE at hs ⊢
 split
 ·rename_i h0;rw [if_pos h0] at hs;cases hs
 rename_i h0
 rw [if_neg h0] at hs
 have hne:e.args ≠ []:=by intro h;rw [h] at h0;simp at h0
 have hi:Inner e:=nodeR_inner hnode (fun h=>hne (nodeR_leaf hnode (.inl h))) (fun h=>hne (nodeR_leaf hnode (.inr h))) (fun h=>hne (nodeR_lit hnode h).2.2.2.2.2.1)
 have hlo:=hi.lo
 have hhi:=hi.hi
 have h2:=inner_two hw hlo
 split
 ·rename_i hc
  unfold constantE at hc ⊢
  rw [constL_eq] at hc ⊢
  split
  ·show wt (litE _ _) < _;rw [wt_litE];omega
  ·rename_i hn;rw [if_neg hn] at hc;cases hc
 rename_i hc
 rw [if_neg hc] at hs
 split
 ·rename_i ho
  rw [if_pos ho] at hs
  exact listed_wt hw (.inl (by simpa using ho)) true hs
 rename_i n19
 rw [if_neg n19] at hs
 split
 ·rename_i ho
  rw [if_pos ho] at hs
  exact listed_wt hw (.inr (by simpa using ho)) false hs
 rename_i n20
 rw [if_neg n20] at hs
 split
 ·rename_i ho
  rw [if_pos ho] at hs
  have ho:e.op=21:=by simpa using ho
  obtain ⟨a,hab⟩:=args1 hi (by omega)
  have:wt e=2 * wt a:=by rw [wt_not ho,hab];simp
  rw [this]
  rw [hab] at hs ⊢
  exact not_wt (wf_arg hw a (by simp [hab])) hs
 rename_i n21
 rw [if_neg n21] at hs
 split
 ·show wt (truthE _) < _;rw [truthE,wt_litE];omega
 rename_i n22
 rw [if_neg n22] at hs
 split
 ·exact arg_lt hw (hd_mem hne)
 rename_i n23
 rw [if_neg n23] at hs
 split
 ·rename_i ho
  have ho:e.op=18:=by simpa using ho
  obtain ⟨a,b,hab⟩:=args2 hi (by omega) (by omega) (by omega)
  have e1:hdE e.args=a:=by rw [hab];rfl
  have e2:lastE e.args=b:=by rw [hab];rfl
  rw [e1,e2]
  exact sameStep_wt ho hab (wf_arg hw a (by simp [hab])) (wf_arg hw b (by simp [hab]))
 rename_i n18
 rw [if_neg n18] at hs
 split
 ·rename_i ho
  rw [if_pos ho] at hs
  have ho:e.op=24:=by simpa using ho
  have:=args_case hi ho
  exact case1_wt hw (plus_of hi (by omega)) hne (e.args.length - 1) (by omega) _ 0 (Nat.le_refl _) hs
 rename_i n24
 rw [if_neg n24] at hs
 split
 ·rename_i ho
  rw [if_pos ho] at hs
  exact first_wt hw (by simpa using ho) hs
 rename_i n25
 rw [if_neg n25] at hs
 simp only [beq_iff_eq] at n19 n20 n21 n22 n23 n18 n24 n25
 exact strict_wt hw hlo (by omega) hne e.args hs
theorem arg_has {e:Expr} {k:Int} (h:Has cols e k) {a:Expr} (ha:a ∈ e.args):Has cols a (kd cols a):=by
 have hn:=wf_node h.wf
 have hne:e.args ≠ []:=by intro h;rw [h] at ha;cases ha
 have hi:Inner e:=nodeR_inner hn (fun h=>hne (nodeR_leaf hn (.inl h))) (fun h=>hne (nodeR_leaf hn (.inr h))) (fun h=>hne (nodeR_lit hn h).2.2.2.2.2.1)
 exact (has_elim h hi.lo).1 a ha
theorem simp_ex:∀ (n:Nat) {e:Expr} {k:Int},wt e ≤ n→Has cols e k→∃ y,Simp cols e y∧wt y ≤ wt e
 | 0,e,k,hn,h=>by have:=wt_one h.wf;omega
 | n + 1,e,k,hn,h=>by
  have ih:∀ a ∈ e.args,∃ y,Simp cols a y∧wt y ≤ wt a:=fun a ha=>simp_ex n (by have:=arg_lt h.wf ha;omega) (arg_has h ha)
  obtain ⟨xs,hl,hx⟩:∃ xs:List Expr,e.args.length=xs.length∧∀ (i:Nat) (h1:i < e.args.length) (h2:i < xs.length),Simp cols e.args[i] xs[i]∧wt xs[i] ≤ wt e.args[i]:=by
   generalize e.args=l at ih
   clear hn h
   induction l with
   | nil=>exact ⟨[],rfl,fun i h1=>by simp at h1⟩
   | cons a r ihr=>
    obtain ⟨y,hy⟩:=ih a (by simp)
    obtain ⟨xs,hl,hx⟩:=ihr fun b hb=>ih b (by simp [hb])
    refine ⟨y :: xs,by simp [hl],fun i h1 h2=>?_⟩
    cases i with
    | zero=>exact hy
    | succ i=>exact hx i (by simpa using h1) (by simpa using h2)
  have hA:Has cols (setA e xs) k:=has_args h hl fun i h1 h2=>simp_has (hx i h1 h2).1 (arg_has h (List.getElem_mem h1))
  have hwt:wt (setA e xs) ≤ wt e:=wt_setA hl fun i h1 h2=>(hx i h1 h2).2
  cases hs:(stepE (setA e xs) cols).2 with
  | false=>exact ⟨_,.stay e xs hl (fun i h1 h2=>(hx i h1 h2).1) hs,hwt⟩
  | true=>
   have hlt:=step_wt hA.wf hs
   obtain ⟨y,hy,hw⟩:=simp_ex n (e:=(stepE (setA e xs) cols).1) (by omega) (step_has hA hs)
   exact ⟨y,.go e xs y hl (fun i h1 h2=>(hx i h1 h2).1) hs hy,by omega⟩
end
end Go.Proofs.YtgiedlcjlalpcaaGreat
namespace Go.Proofs.YtgiedlcjlalpcaaGreat
open Go.Abs
theorem anyNull_eq:∀ (l:List Col) (q:Bool),anyNull q l=(q || anyNullC l)
 | [],q=>by simp [anyNull,anyNullC]
 | c :: r,q=>by simp [anyNull,anyNullC,anyNull_eq r,Bool.or_assoc]
theorem allK_eq (k:Int) (l:List Col):allK k l=allKind k l:=by
 rw [allKind_map]
 unfold allK allK1
 induction l with
 | nil=>rfl
 | cons c r ih=>
  simp only [List.any_cons,List.map_cons,List.all_cons,Bool.not_or,Bool.not_not]
  rw [ih]
theorem everyNull_eq:∀ (l:List Col) (q:Bool),everyNull q l=(q && !(l.any fun c=>!c.null))
 | [],q=>by simp [everyNull]
 | c :: r,q=>by
  simp only [everyNull,everyNull_eq r,List.any_cons,Bool.not_or,Bool.not_not,Bool.and_assoc]
def testsC:List Col→List Col
 | t :: _ :: r=>t :: testsC r
 | _=>[]
def valsC:List Col→List Col
 | _ :: v :: r=>v :: valsC r
 | [c]=>[c]
 | []=>[]
theorem splitC_pairs (n:Nat):∀ (m:Nat) (l:List Col) (t v:List Col) (i:Nat),l.length=2 * m + 1→i % 2=0→i + l.length=n→splitC n t v i l=(t ++ testsC l,v ++ valsC l)
 | 0,l,t,v,i,hl,hi,hn=>by
  match l,hl with
  | [c],_=>
   simp only [splitC]
   rw [if_neg (by simp at hn;simp;omega)]
   simp [testsC,valsC]
 | m + 1,l,t,v,i,hl,hi,hn=>by
  match l,hl with
  | a :: b :: r,hl=>
   have h0:((i:Int).tmod 2 == 0)=true:=by
    have:((i:Int)).tmod 2=((i % 2:Nat):Int):=rfl
    rw [this,hi];rfl
   have h2:(((i + 1:Nat):Int).tmod 2 == 0)=false:=by
    have:(((i + 1:Nat):Int)).tmod 2=(((i + 1) % 2:Nat):Int):=rfl
    rw [this,show (i + 1) % 2=1 by omega];rfl
   have hr:r.length=2 * m + 1:=by simp at hl;omega
   simp only [splitC]
   rw [if_pos (by simp at hn;simp [h0];omega),if_neg (by rw [h2];simp)]
   rw [splitC_pairs n m r _ _ (i + 1 + 1) hr (by omega) (by simp at hn;omega)]
   simp [testsC,valsC]
theorem caseKinds_pairs:∀ (m:Nat) (l:List Col) (out:Col) (i:Nat),l.length=2 * m + 1→i % 2=0→(l.getLastD zeroC).kind=out.kind →
  caseKinds out i l=if allKind 2 (testsC l) && allKind out.kind (valsC l) then (⟨out.kind,out.null || anyNullC (valsC l).dropLast⟩,true) else (zeroC,false)
 | 0,l,out,i,hl,hi,ho=>by
  match l,hl with
  | [c],_=>
   have ho':c.kind=out.kind:=ho
   simp [caseKinds,testsC,valsC,allKind,ho',anyNullC]
 | m + 1,l,out,i,hl,hi,ho=>by
  match l,hl with
  | t :: v :: c :: r,hl=>
   have h0:((i:Int).tmod 2 == 0)=true:=by
    have:((i:Int)).tmod 2=((i % 2:Nat):Int):=rfl
    rw [this,hi];rfl
   have h1:((i:Int).tmod 2 == 1)=false:=by
    have:((i:Int)).tmod 2=((i % 2:Nat):Int):=rfl
    rw [this,hi];rfl
   have h2:(((i + 1:Nat):Int).tmod 2 == 0)=false:=by
    have:(((i + 1:Nat):Int)).tmod 2=(((i + 1) % 2:Nat):Int):=rfl
    rw [this,show (i + 1) % 2=1 by omega];rfl
   have h3:(((i + 1:Nat):Int).tmod 2 == 1)=true:=by
    have:(((i + 1:Nat):Int)).tmod 2=(((i + 1) % 2:Nat):Int):=rfl
    rw [this,show (i + 1) % 2=1 by omega];rfl
   have hr:(c :: r).length=2 * m + 1:=by simp at hl ⊢;omega
   have ho2:((c :: r).getLastD zeroC).kind=out.kind:=ho
   have hne:valsC (c :: r) ≠ []:=by
    cases r with
    | nil=>simp [valsC]
    | cons d r=>simp [valsC]
   simp only [caseKinds,h0,h1,h2,h3,Bool.true_and,Bool.false_and,Bool.or_false,Bool.false_or,Bool.false_eq_true,if_false,if_true,testsC,valsC,allKind]
   by_cases ht:t.kind=2
   ·by_cases hv:v.kind=out.kind
    ·rw [if_neg (by simp [ht]),if_neg (by simp [hv]),caseKinds_pairs m (c :: r) ⟨out.kind,out.null || v.null⟩ (i + 1 + 1) hr (by omega) ho2]
     simp only [ht,hv,beq_self_eq_true,if_true]
     have hd:(v :: valsC (c :: r)).dropLast=v :: (valsC (c :: r)).dropLast:=List.dropLast_cons_of_ne_nil hne
     have ha:anyNullC (v :: (valsC (c :: r)).dropLast)=(v.null || anyNullC (valsC (c :: r)).dropLast):=rfl
     rw [hd,ha,Bool.or_assoc]
    ·rw [if_neg (by simp [ht]),if_pos (by simpa using hv),if_neg (by simp [ht,hv])]
     rfl
   ·rw [if_pos (by simpa using ht),if_neg (by simp [ht])]
    rfl
theorem valsC_last:∀ (m:Nat) (l:List Col),l.length=2 * m + 1→valsC l ≠ []∧(valsC l).getLastD zeroC=l.getLastD zeroC
 | 0,l,hl=>by
  match l,hl with
  | [c],_=>exact ⟨by simp [valsC],rfl⟩
 | m + 1,l,hl=>by
  match l,hl with
  | t :: v :: c :: r,hl=>
   obtain ⟨h1,h2⟩:=valsC_last m (c :: r) (by simp at hl ⊢;omega)
   refine ⟨by simp [valsC],?_⟩
   simp only [valsC]
   have e:(t :: v :: c :: r).getLastD zeroC=(c :: r).getLastD zeroC:=rfl
   rw [e,← h2]
   match hh:valsC (c :: r),h1 with
   | d :: s,_=>rfl
theorem allKind_mem {k:Int} {l:List Col}:allKind k l=true ↔ ∀ c ∈ l,c.kind=k:=by
 rw [allKind_map]
 simp only [allK1,List.all_eq_true,List.mem_map]
 constructor
 ·intro h c hc;simpa using h _ ⟨c,hc,rfl⟩
 ·rintro h x ⟨c,hc,rfl⟩;simp [h c hc]
theorem getLastD_mem:∀ {l:List Col},l ≠ []→l.getLastD zeroC ∈ l
 | [],h=>absurd rfl h
 | [a],_=>by simp
 | a :: b :: r,_=>by
  have:=getLastD_mem (l:=b :: r) (by simp)
  have e:(a :: b :: r).getLastD zeroC=(b :: r).getLastD zeroC:=rfl
  rw [e]
  exact List.mem_cons_of_mem _ this
theorem hd_memC {l:List Col} (h:l ≠ []):hd l ∈ l:=by
 cases l with
 | nil=>exact absurd rfl h
 | cons a r=>simp [hd]
theorem anyNull_last:∀ {l:List Col},l ≠ []→anyNullC l=((l.getLastD zeroC).null || anyNullC l.dropLast)
 | [],h=>absurd rfl h
 | [a],_=>by simp [anyNullC]
 | a :: b :: r,_=>by
  have:=anyNull_last (l:=b :: r) (by simp)
  have e:(a :: b :: r).getLastD zeroC=(b :: r).getLastD zeroC:=rfl
  have e2:(a :: b :: r).dropLast=a :: (b :: r).dropLast:=rfl
  have e3:anyNullC (a :: b :: r)=(a.null || anyNullC (b :: r)):=rfl
  have e4:anyNullC (a :: (b :: r).dropLast)=(a.null || anyNullC (b :: r).dropLast):=rfl
  rw [e,e2,e3,e4,this]
  cases a.null <;> cases ((b :: r).getLastD zeroC).null <;> simp
theorem case_same (l:List Col) (m:Nat) (hl:l.length=2 * m + 1):(caseK l).2=(caseKinds (l.getLastD zeroC) 0 l).2∧((caseK l).2=true→caseK l=caseKinds (l.getLastD zeroC) 0 l):=by
 have hs:=splitC_pairs l.length m l [] [] 0 hl rfl (by omega)
 have hk:=caseKinds_pairs m l (l.getLastD zeroC) 0 hl rfl rfl
 obtain ⟨hne,hlast⟩:=valsC_last m l hl
 simp only [List.nil_append] at hs
 have hc:caseK l=(⟨(hd (valsC l)).kind,anyNullC (valsC l)⟩,allKind 2 (testsC l) && allKind (hd (valsC l)).kind (valsC l)):=by
  simp only [caseK,hs,allK_eq]
 have hm:=getLastD_mem hne
 have hh:=hd_memC hne
 rw [hlast] at hm
 have hiff:allKind (hd (valsC l)).kind (valsC l)=allKind (l.getLastD zeroC).kind (valsC l):=by
  rw [Bool.eq_iff_iff,allKind_mem,allKind_mem]
  constructor
  ·intro h c hc;rw [h c hc,← h _ hm]
  ·intro h c hc;rw [h c hc,← h _ hh]
 rw [hc,hk,hiff]
 cases hb:(allKind 2 (testsC l) && allKind (l.getLastD zeroC).kind (valsC l)) with
 | false=>simp
 | true=>
  simp only [Bool.and_eq_true] at hb
  have h1:=(allKind_mem.1 hb.2) _ hh
  refine ⟨by simp,fun _=>?_⟩
  simp only [if_true]
  rw [h1,anyNull_last hne,hlast]
theorem made_combined (e:Expr) (l:List Col) (h4:4 ≤ e.op) (h25:e.op ≤ 25) (h0:l ≠ []) (hodd:e.op=24→∃ m,l.length=2 * m + 1) :
  (madeE e.op l).2=(combined e l).2∧((madeE e.op l).2=true→madeE e.op l=combined e l):=by
 have key:madeE e.op l=combined e l→(madeE e.op l).2=(combined e l).2∧((madeE e.op l).2=true→madeE e.op l=combined e l):=fun h=>⟨by rw [h],fun _=>h⟩
 have cases:e.op=4 ∨ e.op=5 ∨ e.op=6 ∨ e.op=7 ∨ e.op=8 ∨ e.op=9 ∨ e.op=10 ∨ e.op=11 ∨ e.op=12 ∨ e.op=13 ∨ e.op=14 ∨ e.op=15 ∨ e.op=16 ∨ e.op=17 ∨ e.op=18 ∨ e.op=19 ∨ e.op=20 ∨ e.op=21 ∨ e.op=22 ∨ e.op=23 ∨ e.op=24 ∨ e.op=25:=by omega
 rcases cases with h | h | h | h | h | h | h | h | h | h | h | h | h | h | h | h | h | h | h | h | h | h
 case inr.inr.inr.inr.inr.inr.inr.inr.inr.inr.inr.inr.inr.inr.inr.inr.inr.inr.inr.inr.inl=>
  obtain ⟨m,hm⟩:=hodd h
  have:=case_same l m hm
  rw [show madeE e.op l=caseK l by simp [madeE,h],show combined e l=caseKinds (l.getLastD zeroC) 0 l by simp [combined,h]]
  exact this
 all_goals refine key ?_
 all_goals simp [madeE,combined,h,numK,nnumK,txtK,lenK,bolK,trueK,sameK,compK,coalK,allK_eq,anyNull_eq,everyNull_eq]
theorem kindPL_eq (cols:List Col):∀ (l:List Expr) (acc:List Col),kindPL cols acc l=if l.all (fun a=>(kindP cols a).2) then some (acc ++ l.map fun a=>(kindP cols a).1) else none
 | [],acc=>by simp [kindPL]
 | a :: r,acc=>by
  simp only [kindPL,List.all_cons]
  by_cases h:(kindP cols a).2=true
  ·rw [if_pos h,kindPL_eq cols r]
   simp [h]
  ·rw [if_neg h]
   simp [h]
theorem kindP_same (cols:List Col):∀ (n:Nat) (e:Expr),e.size ≤ n→wf e=true→(kindP cols e).2=okk cols e∧(okk cols e=true→kindP cols e=kindE cols e)
 | 0,e,hn,_=>by cases e;simp [Expr.size] at hn
 | n + 1,e,hn,hw=>by
  have ih:∀ a ∈ e.args,(kindP cols a).2=okk cols a∧(okk cols a=true→kindP cols a=kindE cols a):=fun a ha=>kindP_same cols n a (by have:=Expr.size_arg ha;omega) (wf_arg hw a ha)
  have key:kindP cols e=kindE cols e→(kindP cols e).2=okk cols e∧(okk cols e=true→kindP cols e=kindE cols e):=fun h=>⟨by rw [h];rfl,fun _=>h⟩
  by_cases h1:e.op=1
  ·refine key ?_
   rw [kindP_eq,kindE_eq];simp [h1]
  by_cases h2:e.op=2
  ·refine key ?_
   rw [kindP_eq,kindE_eq];simp [h2]
  by_cases h3:e.op=3
  ·refine key ?_
   have ha:=(nodeR_lit (wf_node hw) h3).2.2.2.2.2.1
   rw [kindP_eq,kind_lit cols e h3,ha];simp [h3]
  have hi:=nodeR_inner (wf_node hw) h1 h2 h3
  have hp:kindP cols e=kindPM e.op (kindPL cols [] e.args):=by rw [kindP_eq];simp [h1,h2,h3]
  have hall:e.args.all (fun a=>(kindP cols a).2)=e.args.all (okk cols):=by
   rw [Bool.eq_iff_iff]
   simp only [List.all_eq_true]
   exact ⟨fun h a ha=>(ih a ha).1 ▸ h a ha,fun h a ha=>(ih a ha).1.symm ▸ h a ha⟩
  rw [hp,kindPL_eq,hall]
  have hk:=kindE_op cols e (by have:=hi.lo;omega)
  unfold okk at *
  rw [hk]
  by_cases ha:e.args.all (fun e=>(kindE cols e).2)=true
  ·rw [if_pos ha,if_pos ha]
   have hmap:e.args.map (fun a=>(kindP cols a).1)=e.args.map (fun a=>(kindE cols a).1):=by
    refine List.map_congr_left fun a hm=>?_
    rw [(ih a hm).2 (List.all_eq_true.1 ha a hm)]
   simp only [List.nil_append,kindPM_some,hmap]
   refine (made_combined e _ hi.lo hi.hi ?_ ?_)
    |> fun h=>⟨h.1,fun h2=>h.2 (h.1.trans h2)⟩
   ·intro h0
    have:=many_pos hi.many
    have h':e.args=[]:=by simpa using h0
    rw [h'] at this;simp at this
   ·intro h24
    have:=args_case hi h24
    exact ⟨e.args.length / 2,by simp;omega⟩
  ·rw [if_neg ha,if_neg ha]
   exact ⟨rfl,fun h=>by cases h⟩
theorem kindP_has {cols:List Col} {e:Expr} {k:Int} (h:Has cols e k):kindP cols e=kindE cols e:=(kindP_same cols e.size e (Nat.le_refl _) h.wf).2 h.ok
end Go.Proofs.YtgiedlcjlalpcaaGreat
namespace Go.Abs
open Go.RowKit
section
variable {cfg:Cfg} {base:Base} {P:Program} {o:Oper} {a:Act} {w:World} {E:Env} {μ:Places} {S:St} {d:Nat} {r:V × Blks × List Nat}
theorem idxP_get {k:IntKind} {n:Int}:∀ {ks:List Abs.P} {i j:Nat},idxP k n ks i=some (some j)→∃ q,j=i + q∧ks[q]? = some (.int k n)
 | [],i,j,h=>by simp [idxP] at h
 | x :: r,i,j,h=>by
  cases x <;> simp only [idxP,reduceCtorEq] at h
  rename_i k' m
  split at h
  ·rename_i hk
   subst hk
   split at h
   ·rename_i hnm
    simp only [Option.some.injEq] at h
    subst h
    have:n=m:=by simpa using hnm
    subst this
    exact ⟨0,rfl,rfl⟩
   ·obtain ⟨q,h1,h2⟩:=idxP_get h
    exact ⟨q + 1,by omega,by simpa using h2⟩
  ·cases h
theorem Stamped.push {es:Array MapEntry} {clock:Nat} (h:Stamped es clock) (e:MapEntry) (he:e.born=clock):Stamped (es.push e) (clock + 1):=by
 obtain ⟨h1,h2⟩:=h
 refine ⟨fun x hx=>?_,?_⟩
 ·simp only [Array.toList_push,List.mem_append,List.mem_singleton] at hx
  rcases hx with hx | rfl
  ·have:=h1 x hx;omega
  ·omega
 ·simp only [Array.toList_push,List.map_append,List.map_cons,List.map_nil]
  refine List.nodup_append.2 ⟨h2,by simp,?_⟩
  intro x hx y hy
  simp only [List.mem_map] at hx
  obtain ⟨z,hz,rfl⟩:=hx
  simp only [List.mem_singleton] at hy
  subst hy
  have:=h1 z hz
  omega
theorem Stamped.modify {es:Array MapEntry} {clock:Nat} (h:Stamped es clock) (j:Nat) (f:MapEntry→MapEntry) (hf:∀ e,(f e).born=e.born):Stamped (es.modify j f) clock:=by
 have hmap:(es.modify j f).toList.map (·.born)=es.toList.map (·.born):=by
  refine List.ext_getElem? fun i=>?_
  simp only [List.getElem?_map,Array.getElem?_toList,Array.getElem?_modify]
  split
  ·cases es[i]? <;> simp [hf]
  ·rfl
 refine ⟨fun x hx=>?_,by rw [hmap];exact h.2⟩
 have:x.born ∈ (es.modify j f).toList.map (·.born):=List.mem_map.2 ⟨x,hx,rfl⟩
 rw [hmap] at this
 obtain ⟨y,hy,e⟩:=List.mem_map.1 this
 rw [← e];exact h.1 y hy
theorem does_mapUpdate (hc:CfgOk cfg P) (hm:Mem cfg base E μ S.b S.u w) (ht:Tm E μ S a) {t:TypeId} {m k x:Operand} (ho:o.op = .mapUpdate t m k x) (he:evalM cfg d (.mapUpdate t m k x) S=some r):Does cfg base P o a w E μ S.b S.u r:=by
 have h1:=rep_opnd ht m
 have h2:=rep_opnd ht k
 have h3:=rep_opnd ht x
 simp only [evalM] at he
 split at he
 ·rename_i kt et _ _ _ _ hty
  split at he
  ·rename_i kk _ _ _ _ k' n hkt hk
   split at he
   ·rename_i hkk
    subst hkk
    rw [hk] at h2
    have h4:=h2.inv_p
    have hkey:a.eval k = .int kk n:=by cases hh:a.eval k <;> rw [hh] at h4 <;> cases h4;rfl
    obtain ⟨dt,e1,e2⟩:=hc.run_underlying (w:=w) hty
    obtain ⟨dk,f1,f2⟩:=hc.run_underlying (w:=w) hkt
    have e3:dt = .map kt et:=by cases dt <;> simp [kindB] at e2;obtain ⟨rfl,rfl⟩:=e2;rfl
    have f3:dk = .int kk:=by cases dk <;> simp [kindB] at f2;subst f2;rfl
    subst e3;subst f3
    have hck:∀ e,(Instr.checkKey e 10000 kt (.int kk n)).run P w = .ok () w:=fun e=>by
     rw [Instr.checkKey];simp [f1]
    split at he
    ·rename_i y b nm hy hmp
     split at he
     ·rename_i ks vs hb
      obtain ⟨E',c1,hm',hry⟩:=toP_sound _ hm h3 hy
      have h1':=h1.chg c1
      rw [hmp] at h1'
      generalize hmv:a.eval m=mv at h1'
      cases h1' with
      | mp _ B cap hu hB hnb=>
      have hblk:=hm'.blk nm _ hb
      obtain ⟨B',cap',g1,g2,g3,g4⟩:=hblk
      rw [hB] at g1
      cases g1
      obtain ⟨es,clock,q1,q2,q3,q4,q5⟩:=g2
      cases hidx:idxP kk n ks 0 with
      | none=>rw [hidx] at he;cases he
      | some res=>
       rw [hidx] at he
       have hset:∀ (es':Array MapEntry) (clock':Nat) (ks' vs':List Abs.P),es'.size=ks'.length→es'.size=vs'.length →
         (∀ (i:Nat) (e:MapEntry),es'[i]? = some e→(∀ k,ks'[i]? = some k→RepP E' e.key k)∧(∀ v,vs'[i]? = some v→RepP E' e.val v))→Stamped es' clock' →
         (execOp a.eval o).run P w = .ok .skip { w with heap:=w.heap.setIfInBounds B (.map es' clock') } →
         Does cfg base P o a w E μ S.b S.u (.any,setB b nm (.map ks' vs'),S.u):=by
        intro es' clock' ks' vs' p1 p2 p3 p4 hrun
        have hh:=MapKept.heap_set (o':=.map es' clock') q1
        have c2:Chg E' E' μ μ b (setB b nm (.map ks' vs')) S.u S.u:=Chg.same (Env.le_refl E') (fun sz es sh h=>by rw [hb] at h;cases h) (fun _ sz es sh h=>by cases h)
        refine ⟨E', μ,_,undef,c1.trans c2,?_,.any _,.inr ⟨hrun,rfl⟩⟩
        refine hm'.step c2 (hm'.dom nm _ hb) (fun _ _=>rfl) B (fun C e h=>by rw [hB] at h;cases h;rfl) (.inl ⟨_,cap,hb,rfl,hB⟩) ?_ (by simp) rfl rfl rfl (fun _ _ _=>rfl) (fun _=>rfl) ?_ ?_
        ·intro j hj hlt
         exact hh.2 j hj
        ·intro o' v' hv'
         rw [g3 o'] at hv';cases hv'
        ·exact ⟨B,cap,hB,⟨es',clock',hh.1,p1,p2,p3,p4⟩,g3,g4⟩
       rcases findNow_idx (k₀:=kk) (E:=E') (es:=es.toList) (by simpa using q2) (fun j e he q hq=>(q4 j e (by simpa using he)).1 q hq) hidx with ⟨p1,p2⟩ | ⟨j,e,p1,p2,p3⟩
       ·subst p1
        simp only [Option.some.injEq] at he
        subst he
        refine hset (es.push { key:=.int kk n,val:=a.eval x,born:=clock }) (clock + 1) _ _ (by simp [q2]) (by simp [q3]) ?_ (q5.push _ rfl) ?_
        ·intro i e hi
         by_cases hlt:i < es.size
         ·rw [Array.getElem?_push_lt hlt] at hi
          have hi':es[i]? = some e:=by rw [Array.getElem?_eq_getElem hlt];exact hi
          refine ⟨fun k hk=>?_,fun v hv=>?_⟩
          ·rw [List.getElem?_append_left (by omega)] at hk
           exact (q4 i e hi').1 k hk
          ·rw [List.getElem?_append_left (by omega)] at hv
           exact (q4 i e hi').2 v hv
         ·have hie:i=es.size:=by
           have:=(Array.getElem?_eq_some_iff.1 hi).1
           simp at this
           omega
          subst hie
          simp at hi
          subst hi
          refine ⟨fun k hk=>?_,fun v hv=>?_⟩
          ·rw [q2] at hk
           simp at hk
           subst hk
           exact .int _ _
          ·rw [q3] at hv
           simp at hv
           subst hv
           exact hry
        ·simp [execOp,ho,Instr.mapUpdate,e1,hck,Instr.findKey,f1,p2,hmv,hkey,MapKept.run_getObj_map q1,MapKept.run_setObj_map _ q1]
       ·subst p1
        simp only [Option.some.injEq,Nat.zero_add] at he
        subst he
        have hj:es[j]? = some e:=by simpa using p2
        have hkj:e.key = .int kk n:=by
         have hlt:j < ks.length:=by rw [← q2];exact (Array.getElem?_eq_some_iff.1 hj).1
         have hkr:=(q4 j e hj).1 ks[j] (by simp [hlt])
         have:ks[j] = .int kk n:=by
          obtain ⟨q,hq,this⟩:=idxP_get hidx
          have hqj:q=j:=by omega
          subst hqj
          rw [List.getElem?_eq_getElem hlt] at this
          exact Option.some.inj this
         rw [this] at hkr
         cases hh:e.key <;> rw [hh] at hkr <;> cases hkr;rfl
        have hst:(Instr.keyThatStays (.int kk n) (.int kk n)).run P w = .ok (.int kk n) w:=by simp [Instr.keyThatStays,Instr.sameBits]
        refine hset (es.modify j fun e=>{ e with key:=.int kk n,val:=a.eval x }) clock _ _ (by simp [q2]) (by simp [q3]) ?_ (q5.modify _ _ fun _=>rfl) ?_
        ·intro i e' hi
         rw [Array.getElem?_modify] at hi
         by_cases hij:j=i
         ·subst hij
          rw [if_pos rfl] at hi
          simp only [Option.map_eq_some_iff] at hi
          obtain ⟨e₀,h0,rfl⟩:=hi
          rw [hj] at h0
          cases h0
          refine ⟨fun k hk=>?_,fun v hv=>?_⟩
          ·have:=(q4 j e hj).1 k hk
           rw [hkj] at this;exact this
          ·rw [List.getElem?_set_self (by rw [← q3];exact (Array.getElem?_eq_some_iff.1 hj).1)] at hv
           cases hv;exact hry
         ·rw [if_neg hij] at hi
          refine ⟨fun k hk=>(q4 i e' hi).1 k hk,fun v hv=>?_⟩
          rw [List.getElem?_set_ne hij] at hv
          exact (q4 i e' hi).2 v hv
        ·simp [execOp,ho,Instr.mapUpdate,e1,hck,Instr.findKey,f1,p3,hmv,hkey,MapKept.run_getObj_map q1,MapKept.run_setObj_map _ q1,hj,hkj,hst]
     ·cases he
    ·cases he
   ·cases he
  ·cases he
 ·cases he
theorem x_mapUpdate (hc:CfgOk cfg P) {t:TypeId} {m k x:Operand} (ho:o.op = .mapUpdate t m k x) (he:evalM cfg d (.mapUpdate t m k x) S=some r):XStep cfg P o S fun S'=>S'=S.put o.dst r.1 r.2.1 r.2.2:=
 x_of fun base a w E μ hm ht=>does_mapUpdate hc hm ht ho he
end
end Go.Abs
namespace Go.Proofs.YtgiedlcjlalpcaaGreat
open Go.Abs
def nodeWI (op n m k:Int) (v:Val) (la lr:Int):Bool:=
 if ((((decide (op < 1) || decide (op > 28)) || decide (la < (argsOf op).1)) || decide (la > (argsOf op).2)) || (op == 24 && la.tmod 2 == 0)) then false
 else if ((decide (op ≥ 26) != (lr == 1)) || decide (lr > 1)) then false
 else if op == 1 then (((n == mx n 0 && m == 0) && k == 0) && v == nullW)
 else if op == 2 then (((n == mx n 1 && m == mx m 0) && k == 0) && v == nullW)
 else if op == 3 then (if !rightV v || (!(v.kind == 0) && !(v.kind == k)) then false else (((n == 0 && m == 0) && k == mn (mx k 1) 3) && v == v))
 else if op == 26 || op == 27 || op == 28 then (((n == mx n 1 && m == 0) && k == 0) && v == nullW)
 else (((n == 0 && m == 0) && k == 0) && v == nullW)
def bareRI (op n m:Int):Bool:=if op == 1 then decide (n ≥ 0) && m == 0 else if op == 2 then decide (n ≥ 1) && decide (m ≥ 0) else n == 0 && m == 0
def nodeRI (op n m k:Int) (v:Val) (la lr:Int):Bool:=
 if op == 3 then bareRI op n m && real k && rightV v && (v.kind == 0 || v.kind == k) && la == 0 && lr == 0
 else if !bareRI op n m || !(k == 0) || !(v == nullW) || decide (lr > 0) then false
 else if op == 1 || op == 2 then la == 0
 else decide (op ≥ 4) && decide (op ≤ 25) && many op la
theorem nodeI (op n m k:Int) (v:Val) (la lr:Int) (hl:0 ≤ la) (hr:0 ≤ lr):(decide (op < 26) && nodeWI op n m k v la lr)=nodeRI op n m k v la lr:=by
 unfold nodeWI nodeRI bareRI
 generalize (v == nullW)=bw
 generalize rightV v=bv
 have hvv:(v == v)=true:=by simp
 rw [hvv]
 generalize v.kind=vk
 clear hvv v
 have hc:op ≤ 0 ∨ op=1 ∨ op=2 ∨ op=3 ∨ op=4 ∨ op=5 ∨ op=6 ∨ op=7 ∨ op=8 ∨ op=9 ∨ op=10 ∨ op=11 ∨ op=12 ∨ op=13 ∨ op=14 ∨ op=15 ∨ op=16 ∨ op=17 ∨ op=18 ∨ op=19 ∨ op=20 ∨ op=21 ∨ op=22 ∨ op=23 ∨ op=24 ∨ op=25 ∨ 26 ≤ op:=by omega
 rcases hc with h | rfl | rfl | rfl | rfl | rfl | rfl | rfl | rfl | rfl | rfl | rfl | rfl | rfl | rfl | rfl | rfl | rfl | rfl | rfl | rfl | rfl | rfl | rfl | rfl | rfl | h
 ·have e1:decide (op < 1)=true:=by simp;omega
  have e3:(op == 3)=false:=by simp;omega
  have e4:decide (op ≥ 4)=false:=by simp;omega
  have e5:(op == 1)=false:=by simp;omega
  have e6:(op == 2)=false:=by simp;omega
  simp [e1,e3,e4,e5,e6]
 all_goals try (rw [Bool.eq_iff_iff];cases bw <;> cases bv <;> simp [argsOf,many,mx,mn,real] <;> grind)
theorem nodeW_eq (e:Expr):(decide (e.op < 26) && nodeW e)=nodeR e:=nodeI e.op e.n e.m e.kind e.lit e.args.length e.rels.length (by omega) (by omega)
mutual
def deep:Expr→Nat
 | .mk _ _ _ _ _ args _=>deeps args + 1
def deeps:List Expr→Nat
 | []=>0
 | e :: r=>max (deep e) (deeps r)
end
mutual
theorem fitE_ok {at_:Int}:∀ {e:Expr} {l:Int},0 ≤ l→allN e=true→((fitE l at_ e).1=true ↔ (e.size:Int) ≤ l∧at_ + deep e ≤ 25)∧((fitE l at_ e).1=true→(fitE l at_ e).2=l - e.size)
 | .mk op n m kind lit args rels,l,hl,h=>by
  rw [allN_eq,Bool.and_eq_true] at h
  have hn:nodeR (Expr.mk op n m kind lit args rels)=true:=by
   rw [← nodeW_eq];simpa [stepN] using h.1
  have hrel:rels=[]:=nodeR_rels hn
  subst hrel
  simp only [fitE,fitRs_nil,Expr.size,deep]
  by_cases hc:l - 1 < 0 ∨ at_ > 24
  ·rw [if_pos hc]
   refine ⟨⟨fun h=>(by cases h),fun h'=>?_⟩,fun h=>(by cases h)⟩
   obtain ⟨h1,h2⟩:=h'
   omega
  ·rw [if_neg hc]
   obtain ⟨g1,g2⟩:=@fitEs_ok (at_ + 1) args (l - 1) (by omega) (by omega) h.2
   by_cases hf:(fitEs (l - 1) (at_ + 1) args).1=true
   ·rw [if_pos hf]
    have:=g1.1 hf
    refine ⟨⟨fun _=>by omega,fun _=>rfl⟩,fun _=>?_⟩
    rw [g2 hf];omega
   ·rw [if_neg hf]
    refine ⟨⟨fun h=>absurd h hf,fun h'=>?_⟩,fun h=>absurd h hf⟩
    obtain ⟨h1,h2⟩:=h'
    exact g1.2 (by omega)
theorem fitEs_ok {at_:Int}:∀ {e:List Expr} {l:Int},0 ≤ l→at_ ≤ 25→allNs e=true→((fitEs l at_ e).1=true ↔ (Expr.sizes e:Int) ≤ l∧at_ + deeps e ≤ 25)∧((fitEs l at_ e).1=true→(fitEs l at_ e).2=l - Expr.sizes e)
 | [],l,hl,ha,h=>by
  simp [fitEs,Expr.sizes,deeps,hl,ha]
 | e :: r,l,hl,ha,h=>by
  rw [allNs_cons,Bool.and_eq_true] at h
  obtain ⟨g1,g2⟩:=@fitE_ok at_ e l hl h.1
  simp only [fitEs,Expr.sizes,deeps]
  by_cases hf:(fitE l at_ e).1=true
  ·rw [if_pos hf]
   have hp:=fitE_pos hl hf
   obtain ⟨k1,k2⟩:=@fitEs_ok at_ r (fitE l at_ e).2 hp.1 ha h.2
   have h1:=g1.1 hf
   rw [g2 hf] at k1 k2 ⊢
   refine ⟨⟨fun h=>?_,fun h=>?_⟩,fun h=>?_⟩
   ·have:=k1.1 h
    omega
   ·exact k1.2 (by omega)
   ·rw [k2 h];omega
  ·rw [if_neg hf]
   refine ⟨⟨fun h=>absurd h hf,fun h'=>?_⟩,fun h=>absurd h hf⟩
   exact g1.2 (by omega)
end
mutual
theorem shaped_ok:∀ {e:Expr} {d:Nat},d ≤ 24→(shaped d e=true ↔ allN e=true∧deep e ≤ d)
 | .mk op n m kind lit args rels,d,hd=>by
  rw [shaped_eq,allN_eq]
  have hs:stepN true (Expr.mk op n m kind lit args rels)=nodeR (Expr.mk op n m kind lit args rels):=by
   rw [← nodeW_eq];simp [stepN]
  rw [hs]
  simp only [deep,Expr.args]
  by_cases h0:d=0
  ·subst h0
   simp
  have hw:w64 ((d:Int) - 1)=((d - 1:Nat):Int):=by
   rw [show ((d - 1:Nat):Int)=(d:Int) - 1 by omega]
   exact wrap_i64 (by omega) (by omega)
  rw [hw]
  have hd0:((d:Int) == 0)=false:=by simp;omega
  rw [hd0]
  have:=@shapedL_ok args (d - 1) (by omega)
  cases hn:nodeR (Expr.mk op n m kind lit args rels)
  ·simp
  ·simp only [Bool.false_or,Bool.not_true,Bool.false_eq_true,if_false,Bool.true_and]
   rw [this]
   constructor
   ·rintro ⟨h1,h2⟩;exact ⟨h1,by omega⟩
   ·rintro ⟨h1,h2⟩;exact ⟨h1,by omega⟩
theorem shapedL_ok:∀ {l:List Expr} {d:Nat},d ≤ 24→(shapedL d l=true ↔ allNs l=true∧deeps l ≤ d)
 | [],d,hd=>by simp [shapedL,allNs,deeps]
 | e :: r,d,hd=>by
  have h1:=@shaped_ok e d hd
  have h2:=@shapedL_ok r d hd
  rw [allNs_cons,Bool.and_eq_true]
  simp only [shapedL,deeps]
  by_cases h:shaped d e=true
  ·rw [if_pos h,h2]
   have:=h1.1 h
   constructor
   ·rintro ⟨a,b⟩;exact ⟨⟨this.1,a⟩,by omega⟩
   ·rintro ⟨⟨a,b⟩,c⟩;exact ⟨b,by omega⟩
  ·rw [if_neg h]
   constructor
   ·intro h';cases h'
   ·rintro ⟨⟨a,b⟩,c⟩;exact absurd (h1.2 ⟨a,by omega⟩) h
end
mutual
theorem nodes_ok:∀ {e:Expr},e.size ≤ 1000000→1 ≤ nodes e∧nodes e ≤ e.size∧(nodes e ≤ 400→nodes e=e.size)
 | .mk op n m kind lit args rels,h=>by
  rw [nodes_eq]
  simp only [Expr.size,Expr.args] at h ⊢
  obtain ⟨h1,h2,h3⟩:=@nodesL_ok args 1 (by omega) (by omega) (by omega)
  refine ⟨h1,by omega,fun h=>?_⟩
  rw [h3 h];omega
theorem nodesL_ok:∀ {l:List Expr} {n:Int},1 ≤ n→n ≤ 2000000→Expr.sizes l ≤ 1000000→n ≤ nodesL n l∧nodesL n l ≤ n + Expr.sizes l∧(nodesL n l ≤ 400→nodesL n l=n + Expr.sizes l)
 | [],n,h1,h2,h3=>by simp [nodesL,Expr.sizes]
 | e :: r,n,h1,h2,h3=>by
  simp only [nodesL,Expr.sizes] at h3 ⊢
  obtain ⟨g1,g2,g3⟩:=@nodes_ok e (by omega)
  by_cases hn:n ≤ 400
  ·rw [if_pos hn]
   have hw:w64 (n + nodes e)=n + nodes e:=wrap_i64 (by omega) (by omega)
   rw [hw]
   obtain ⟨k1,k2,k3⟩:=@nodesL_ok r (n + nodes e) (by omega) (by omega) (by omega)
   refine ⟨by omega,by omega,fun h=>?_⟩
   rw [k3 h,g3 (by omega)];omega
  ·rw [if_neg hn]
   refine ⟨by omega,by omega,fun h=>by omega⟩
end
theorem formW_eq (e:Expr) (hs:e.size ≤ 500000):formW e=form e:=by
 have hn:=nodes_ok (e:=e) (by omega)
 rw [Bool.eq_iff_iff]
 unfold formW form
 simp only [Bool.and_eq_true,decide_eq_true_eq]
 have h1:=@shaped_ok e 24 (by omega)
 rw [show ((24:Nat):Int)=24 from rfl] at h1
 rw [h1]
 constructor
 ·rintro ⟨a,b⟩
  have:=(fitE_ok (at_:=1) (e:=e) (l:=400) (by omega) b).1.1 a
  exact ⟨⟨b,by omega⟩,by omega⟩
 ·rintro ⟨⟨a,b⟩,c⟩
  refine ⟨(fitE_ok (at_:=1) (e:=e) (l:=400) (by omega) a).1.2 ⟨?_,by omega⟩,a⟩
  have:=hn.2.2 c
  omega
end Go.Proofs.YtgiedlcjlalpcaaGreat
namespace Go.Proofs.YtgiedlcjlalpcaaGreat
open Go.Abs
theorem deep_mem:∀ {l:List Expr} {a:Expr},a ∈ l→deep a ≤ deeps l
 | b :: r,a,h=>by
  simp only [deeps]
  cases h with
  | head=>omega
  | tail _ h=>have:=deep_mem h;omega
theorem deeps_le {d:Nat}:∀ {l:List Expr},(∀ a ∈ l,deep a ≤ d)→deeps l ≤ d
 | [],h=>by simp [deeps]
 | b :: r,h=>by
  simp only [deeps]
  have h1:=h b (by simp)
  have h2:=deeps_le (l:=r) fun a ha=>h a (by simp [ha])
  omega
theorem deep_eq (e:Expr):deep e=deeps e.args + 1:=by cases e;rfl
theorem deep_pos (e:Expr):1 ≤ deep e:=by rw [deep_eq];omega
theorem deep_setA (e:Expr) (l:List Expr):deep (setA e l)=deeps l + 1:=rfl
theorem deep_opE (op:Int) (l:List Expr):deep (opE op l)=deeps l + 1:=rfl
theorem deep_truthE (b:Bool):deep (truthE b)=1:=rfl
theorem deep_hdE (l:List Expr):deep (hdE l) ≤ deeps l + 1:=by
 cases l with
 | nil=>exact Nat.le_of_eq rfl
 | cons a r=>have:=deep_mem (l:=a :: r) (a:=a) (by simp);show deep a ≤ _;omega
theorem deep_hdE' {l:List Expr} (h:l ≠ []):deep (hdE l) ≤ deeps l:=by
 cases l with
 | nil=>exact absurd rfl h
 | cons a r=>exact deep_mem (by simp [hdE])
theorem deep_lastE' {l:List Expr} (h:l ≠ []):deep (lastE l) ≤ deeps l:=by
 refine deep_mem ?_
 unfold lastE
 rw [List.getLastD_eq_getLast?,List.getLast?_eq_some_getLast h]
 exact List.getLast_mem h
theorem deep_oneOr (e:Expr) (l:List Expr) (h:deeps l ≤ deeps e.args):deep (oneOr e l) ≤ deep e:=by
 rw [deep_eq e]
 unfold oneOr
 split
 ·have:=deep_hdE l;omega
 ·rw [deep_setA];omega
theorem deeps_sub {l m:List Expr} (h:∀ a ∈ l,a ∈ m):deeps l ≤ deeps m:=deeps_le fun a ha=>deep_mem (h a ha)
theorem deep_withoutE (e:Expr) (i:Nat):deep (withoutE e i) ≤ deep e:=deep_oneOr e _ (deeps_sub fun a ha=>by
 rcases List.mem_append.1 ha with h | h
 ·exact List.mem_of_mem_take h
 ·exact List.mem_of_mem_drop h)
theorem deep_spliceE (e:Expr) (i:Nat) (a:Expr) (ha:a ∈ e.args):deep (spliceE e i a) ≤ deep e:=by
 rw [deep_eq e]
 show deeps _ + 1 ≤ _
 have h1:=deep_mem ha
 rw [deep_eq a] at h1
 have:deeps (e.args.take i ++ a.args ++ e.args.drop (i + 1)) ≤ deeps e.args:=deeps_le fun x hx=>by
  rcases List.mem_append.1 hx with h | h
  ·rcases List.mem_append.1 h with h | h
   ·exact deep_mem (List.mem_of_mem_take h)
   ·have:=deep_mem h;omega
  ·exact deep_mem (List.mem_of_mem_drop h)
 omega
theorem deep_list3 (e:Expr) (b:Bool):∀ (l:List Expr),deep (list3 e b l).1 ≤ deep e
 | []=>Nat.le_refl _
 | a :: r=>by
  unfold list3
  split
  ·exact deep_pos e
  ·exact deep_list3 e b r
theorem deep_list2 (e:Expr) (b:Bool):∀ (l:List Expr) (i:Nat),deep (list2 e b l i).1 ≤ deep e
 | [],i=>deep_list3 e b e.args
 | a :: r,i=>by
  unfold list2
  split
  ·exact deep_withoutE e i
  ·exact deep_list2 e b r (i + 1)
theorem deep_list1 (e:Expr) (b:Bool):∀ (l:List Expr) (i:Nat),(∀ a ∈ l,a ∈ e.args)→deep (list1 e b l i).1 ≤ deep e
 | [],i,_=>deep_list2 e b e.args 0
 | a :: r,i,h=>by
  unfold list1
  split
  ·exact deep_spliceE e i a (h a (by simp))
  ·exact deep_list1 e b r (i + 1) fun x hx=>h x (by simp [hx])
theorem deep_notE (a:Expr):deep (notE a).1 ≤ deep a + 1:=by
 have ha:=deep_eq a
 unfold notE
 split
 ·have:=deep_hdE a.args;show deep (hdE a.args) ≤ _;omega
 split
 ·show deep (opE _ _) ≤ _
  rw [deep_opE];omega
 split
 ·show deep (opE _ _) ≤ _
  rw [deep_opE]
  have:deeps (a.args.map fun x=>opE 21 [x]) ≤ deeps a.args + 1:=deeps_le fun x hx=>by
   obtain ⟨y,hy,rfl⟩:=List.mem_map.1 hx
   have:=deep_mem hy
   rw [deep_opE]
   simp only [deeps]
   omega
  omega
 ·show deep a ≤ _;omega
theorem deep_case2 (e:Expr) (n:Nat) (he:e.args ≠ []):∀ (k i:Nat),n - i ≤ k→deep (case2 e n i).1 ≤ deep e
 | k,i,hk=>by
  have h1:=deep_eq e
  have h2:=deep_lastE' he
  rw [case2]
  split
  ·rename_i hi
   split
   ·match k with
    | 0=>omega
    | k + 1=>exact deep_case2 e n he k (i + 2) (by omega)
   ·exact Nat.le_refl _
  ·show deep (lastE e.args) ≤ _;omega
theorem deep_case1 (e:Expr) (n:Nat) (he:e.args ≠ []) (hn:n=e.args.length - 1):∀ (k i:Nat),n - i ≤ k→deep (case1 e n i).1 ≤ deep e
 | k,i,hk=>by
  rw [case1]
  split
  ·rename_i hi
   split
   ·refine deep_oneOr e _ ?_
    split
    ·refine deeps_sub fun a ha=>?_
     rcases List.mem_append.1 ha with h | h
     ·exact List.mem_of_mem_take h
     ·simp only [List.mem_singleton] at h
      rw [h,getD_E _ _ (by omega)]
      exact List.getElem_mem _
    ·refine deeps_sub fun a ha=>?_
     rcases List.mem_append.1 ha with h | h
     ·exact List.mem_of_mem_take h
     ·exact List.mem_of_mem_drop h
   ·match k with
    | 0=>omega
    | k + 1=>exact deep_case1 e n he hn k (i + 2) (by omega)
  ·exact deep_case2 e n he _ 1 (Nat.le_refl _)
theorem deep_first2 (e:Expr) (cols:List Col) (n:Nat) (he:e.args ≠ []):∀ (k i:Nat),n - i ≤ k→deep (first2 e cols n i).1 ≤ deep e
 | k,i,hk=>by
  have h1:=deep_eq e
  have h2:=deep_hdE' he
  rw [first2]
  split
  ·rename_i hi
   split
   ·match k with
    | 0=>omega
    | k + 1=>exact deep_first2 e cols n he k (i + 1) (by omega)
   ·show deep (if i=0 then hdE e.args else setA e (e.args.take (i + 1))) ≤ _
    split
    ·omega
    ·rw [deep_setA]
     have:=deeps_sub (l:=e.args.take (i + 1)) (m:=e.args) fun a ha=>List.mem_of_mem_take ha
     omega
  ·exact Nat.le_refl _
theorem deep_first1 (e:Expr) (cols:List Col) (he:e.args ≠ []):∀ (l:List Expr) (i:Nat),deep (first1 e cols l i).1 ≤ deep e
 | [],i=>deep_first2 e cols _ he _ 0 (Nat.le_refl _)
 | a :: r,i=>by
  unfold first1
  split
  ·exact deep_withoutE e i
  ·exact deep_first1 e cols he r (i + 1)
theorem deep_pair (op:Int) (a b:Expr):deep (opE op [a,b])=max (deep a) (deep b) + 1:=by
 rw [deep_opE];simp [deeps]
theorem deep_single (op:Int) (a:Expr):deep (opE op [a])=deep a + 1:=by
 rw [deep_opE];simp [deeps]
theorem deep_strictL (e:Expr) (cols:List Col) (he:e.args ≠ []):∀ (l:List Expr),deep (strictL e cols l).1 ≤ deep e
 | []=>by
  have h1:=deep_eq e
  have h2:=deep_hdE' he
  have h3:=deep_lastE' he
  unfold strictL
  split
  ·unfold comparedE
   split
   ·show deep (opE _ _) ≤ _;rw [deep_pair];omega
   split
   ·show deep (hdE e.args) ≤ _;omega
   split
   ·show deep (opE _ _) ≤ _;rw [deep_single];omega
   split
   ·exact deep_pos e
   ·exact Nat.le_refl _
  ·unfold computedE
   simp only
   split
   ·show deep (hdE e.args) ≤ _;omega
   split
   ·show deep (lastE e.args) ≤ _;omega
   split
   ·exact deep_pos e
   ·exact Nat.le_refl _
 | a :: r=>by
  unfold strictL
  split
  ·exact deep_pos e
  ·exact deep_strictL e cols he r
theorem deep_step (e:Expr) (cols:List Col):deep (stepE e cols).1 ≤ deep e:=by
 have h1:=deep_eq e
 unfold stepE
 split
 ·exact Nat.le_refl _
 rename_i h0
 have he:e.args ≠ []:=by intro h;rw [h] at h0;exact h0 rfl
 have h2:=deep_hdE' he
 have h3:=deep_lastE' he
 split
 ·have:∀ (l:List Expr) (acc:List Val),deep (constL e cols acc l).1 ≤ deep e:=by
   intro l
   induction l with
   | nil=>intro acc;exact deep_pos e
   | cons a r ih=>
    intro acc
    unfold constL
    split
    ·exact ih _
    ·exact Nat.le_refl _
  exact this e.args []
 split
 ·exact deep_list1 e true e.args 0 fun a h=>h
 split
 ·exact deep_list1 e false e.args 0 fun a h=>h
 split
 ·have:=deep_notE (hdE e.args);omega
 split
 ·exact deep_pos e
 split
 ·show deep (hdE e.args) ≤ _;omega
 split
 ·unfold sameStepE
  split
  ·exact deep_pos e
  split
  ·show deep (opE _ _) ≤ _;rw [deep_single];omega
  split
  ·show deep (opE _ _) ≤ _;rw [deep_single];omega
  ·show deep (opE _ _) ≤ _;rw [deep_pair];omega
 split
 ·exact deep_case1 e _ he rfl _ 0 (Nat.le_refl _)
 split
 ·exact deep_first1 e cols he e.args 0
 ·exact deep_strictL e cols he e.args
theorem deep_simp {cols:List Col} {e y:Expr} (h:Simp cols e y):deep y ≤ deep e:=by
 have key:∀ {e:Expr} {xs:List Expr},e.args.length=xs.length→(∀ (i:Nat) (h1:i < e.args.length) (h2:i < xs.length),deep xs[i] ≤ deep e.args[i])→deep (setA e xs) ≤ deep e:=by
  intro e xs hl hx
  rw [deep_setA,deep_eq e]
  have:deeps xs ≤ deeps e.args:=deeps_le fun a ha=>by
   obtain ⟨i,hi,rfl⟩:=List.getElem_of_mem ha
   exact Nat.le_trans (hx i (by omega) hi) (deep_mem (List.getElem_mem _))
  omega
 induction h with
 | stay e xs hl h hs ih=>exact key hl ih
 | go e xs y hl h hs hy ih ihy=>exact Nat.le_trans ihy (Nat.le_trans (deep_step _ cols) (key hl ih))
end Go.Proofs.YtgiedlcjlalpcaaGreat
namespace Go.Proofs.YtgiedlcjlalpcaaGreat
open Go.Abs
mutual
theorem nodes_deep:∀ {e:Expr},deep e ≤ 10000→1 ≤ nodes e∧nodes e ≤ 401 * deep e∧nodes e ≤ e.size∧(nodes e ≤ 400→nodes e=e.size)
 | .mk op n m kind lit args rels,h=>by
  rw [nodes_eq]
  simp only [Expr.size,Expr.args,deep] at h ⊢
  obtain ⟨h1,h2,h3,h4⟩:=@nodesL_deep args 1 (by omega) (by omega) (by omega)
  refine ⟨h1,?_,by omega,fun h=>?_⟩
  ·omega
  ·rw [h4 h];omega
theorem nodesL_deep:∀ {l:List Expr} {n:Int},1 ≤ n→n ≤ 4010400→deeps l ≤ 10000→n ≤ nodesL n l∧(nodesL n l ≤ n ∨ nodesL n l ≤ 400 + 401 * deeps l)∧nodesL n l ≤ n + Expr.sizes l∧(nodesL n l ≤ 400→nodesL n l=n + Expr.sizes l)
 | [],n,h1,h2,h3=>by simp [nodesL,Expr.sizes]
 | e :: r,n,h1,h2,h3=>by
  simp only [nodesL,Expr.sizes,deeps] at h3 ⊢
  obtain ⟨g1,g2,g3,g4⟩:=@nodes_deep e (by omega)
  by_cases hn:n ≤ 400
  ·rw [if_pos hn]
   have hw:w64 (n + nodes e)=n + nodes e:=wrap_i64 (by omega) (by omega)
   rw [hw]
   obtain ⟨k1,k2,k3,k4⟩:=@nodesL_deep r (n + nodes e) (by omega) (by omega) (by omega)
   refine ⟨by omega,.inr (by omega),by omega,fun h=>?_⟩
   rw [k4 h,g4 (by omega)];omega
  ·rw [if_neg hn]
   refine ⟨by omega,.inl (Int.le_refl _),by omega,fun h=>by omega⟩
end
mutual
theorem wf_allN:∀ {e:Expr},wf e=true→allN e=true
 | .mk op n m k v args rels,h=>by
  have h1:nodeR (.mk op n m k v args rels)=true:=wf_node h
  rw [allN_eq,Bool.and_eq_true]
  refine ⟨?_,wf_allNs fun a ha=>wf_arg h a ha⟩
  rw [← nodeW_eq] at h1
  simpa [stepN] using h1
theorem wf_allNs:∀ {l:List Expr},(∀ a ∈ l,wf a=true)→allNs l=true
 | [],h=>rfl
 | a :: r,h=>by
  rw [allNs_cons,wf_allN (h a (by simp)),wf_allNs fun b hb=>h b (by simp [hb])]
  rfl
end
theorem fit_nodes {e:Expr} (hw:wf e=true) (hd:deep e ≤ 24):(fitE 400 1 e).1=decide (nodes e ≤ 400):=by
 have h1:=(fitE_ok (at_:=1) (e:=e) (l:=400) (by omega) (wf_allN hw)).1
 obtain ⟨g1,g2,g3,g4⟩:=nodes_deep (e:=e) (by omega)
 rw [Bool.eq_iff_iff,h1,decide_eq_true_eq]
 constructor
 ·rintro ⟨a,b⟩;omega
 ·intro h
  have:=g4 h
  exact ⟨by omega,by omega⟩
theorem form_deep {e:Expr} (h:form e=true):deep e ≤ 24:=by
 simp only [form,Bool.and_eq_true] at h
 exact (@shaped_ok e 24 (by omega)).1 h.1 |>.2
end Go.Proofs.YtgiedlcjlalpcaaGreat
