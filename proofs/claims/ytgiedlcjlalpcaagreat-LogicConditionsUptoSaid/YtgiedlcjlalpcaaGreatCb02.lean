/- Own part of a proof: Sm I10 C8. -/
import Derived.Test.YtgiedlcjlalpcaaGreatPb05
import Derived.Test.YtgiedlcjlalpcaaGreatPb06
import Derived.Test.YtgiedlcjlalpcaaGreatPb13
import Derived.Test.YtgiedlcjlalpcaaGreatPb19
import Derived.Test.YtgiedlcjlalpcaaGreatPb20
import Derived.Test.YtgiedlcjlalpcaaGreatPb21
set_option linter.all false
namespace Go.Proofs.YtgiedlcjlalpcaaGreat
open Go.Abs
mutual
theorem sameE_refl:∀ (e:Expr),sameE e e=true
 | .mk op n m k v args rels=>by
  rw [sameE]
  simp [Expr.op,Expr.n,Expr.m,Expr.kind,Expr.lit,Expr.args,Expr.rels]
  exact sameL_refl args
theorem sameL_refl:∀ (l:List Expr),sameL l l=true
 | []=>rfl
 | a :: r=>by rw [sameL,sameE_refl a,if_pos rfl];exact sameL_refl r
end
end Go.Proofs.YtgiedlcjlalpcaaGreat
namespace Go.Proofs.YtgiedlcjlalpcaaGreat
open Go.Abs
set_option maxRecDepth 100000
theorem cal_to {f:FuncId} {ps rs rs':List P} (h:Cal f ps rs) (e:rs=rs'):Cal f ps rs':=e ▸ h
def kn0:Expr:=opE 16 [colE 0,litE (intW 3).kind (intW 3)]
def kn1:Expr:=opE 14 [colE 0,litE (intW 5).kind (intW 5)]
def sp1:Span:=addS s0S 16 (intW 3)
def sp2:Span:=addS sp1 14 (intW 5)
theorem bare_of {op n m k:Int} {v:Val} {l:List Expr} (h:bareEs l):bareE (.mk op n m k v l []):=by
 simp [bareE,h]
theorem bare_n (l:List Expr):True:=trivial
theorem kn_bad:badE knE twoC true=0:=by kernel_rfl
theorem e4_bad:badE (eqE4 4) twoC true=0:=by kernel_rfl
theorem e5_bad:badE (eqE4 5) twoC true=0:=by kernel_rfl
theorem rj_bad:badE rjE twoC true=0:=by kernel_rfl
theorem nr_bad:badE nrE twoC false=0:=by kernel_rfl
theorem col_bad:badE (colE 0) twoC true=31:=by kernel_rfl
theorem nr_bare:bareE nrE:=by simp [nrE,opE,colE,litE,bareE,bareEs]
theorem kn_bare:bareE knE:=by simp [knE,opE,colE,litE,bareE,bareEs]
theorem eq_bare (n:Int):bareE (eqE4 n):=by simp [eqE4,opE,colE,litE,bareE,bareEs]
theorem rj_bare:bareE rjE:=by simp [rjE,opE,colE,litE,bareE,bareEs]
theorem c16n:Cal 16 [nrE.p,.lst (Col.ps twoC)] [nrY.p,.int .i64 0]:=
 cal_to (cal16_ok nrE nrY twoC nr_bare (by decide) nr_bad (simpF_ok nr_simp)) (by kernel_rfl)
theorem c25n:Cal 25 [rjE.p,.lst (Col.ps twoC),.lst (ips [1])] [.bool true,.int .i64 0]:=
 cal_to (cal25_ok rjE twoC [1] rjY rj_bare (by decide) rj_bad (by kernel_rfl) (simpF_ok rj_simp)) (by kernel_rfl)
theorem c23n:Cal 23 [(colE 0).p,.lst (Col.ps twoC)] [zeroE.p,.int .i64 31]:=
 cal_to (cal23_bad (colE 0) twoC (by simp [colE,bareE,bareEs]) (by decide) (by rw [col_bad];decide)) (by rw [col_bad])
theorem kn_conj:conjE knE=[kn0,kn1]:=by kernel_rfl
theorem eq_conj (n:Int):conjE (eqE4 n)=[eqE4 n]:=by rw [conjE_eq];rfl
theorem t_kn0:Cal 115 [kn0.p] [testP 0 16 (intW 3),.bool true]:=s115_cmp kn0 (colE 0) (litE (intW 3).kind (intW 3)) rfl rfl rfl rfl rfl rfl rfl
theorem t_kn1:Cal 115 [kn1.p] [testP 0 14 (intW 5),.bool true]:=s115_cmp kn1 (colE 0) (litE (intW 5).kind (intW 5)) rfl rfl rfl rfl rfl rfl rfl
theorem t_eq (n:Int):Cal 115 [(eqE4 n).p] [testP 0 12 (intW n),.bool true]:=s115_cmp (eqE4 n) (colE 0) (litE (intW n).kind (intW n)) rfl rfl rfl rfl rfl rfl rfl
theorem c27n (n:Int) (r:Bool) (hbad:badE (eqE4 n) twoC true=0) (hbeg:begR twoC true [] [knE,eqE4 n]=(L twoC,0)) (hc:condF twoC 9 (eqE4 n)=some (eqE4 n)) (hf:(fitE 400 1 (eqE4 n)).1=true) (hr:impR [kn0,kn1] sp2 (eqE4 n) 12 (intW n)=r) :
  Cal 27 [knE.p,(eqE4 n).p,.lst (Col.ps twoC)] [.bool r,.int .i64 0]:=by
 obtain ⟨hka,_,_⟩:=badT_has kn_bad
 obtain ⟨hkb,_,_⟩:=badT_has hbad
 have wa:=hka.wf
 have wb:=hkb.wf
 refine cal27_ok twoC knE (eqE4 n) knE (eqE4 n) r kn_bare (eq_bare n) (by decide) (by simp [eqE4,opE,colE,litE,Expr.size,Expr.sizes]) hbeg hka hkb (condF_ok kn_cond) (condF_ok hc) (by kernel_rfl) hf ?_
 have h1:=cal114 twoC knE knE (cal59 (condF_ok kn_cond) hka) wa (by decide)
 rw [kn_conj] at h1
 have h2:=cal114 twoC (eqE4 n) (eqE4 n) (cal59 (condF_ok hc) hkb) wb (by simp [eqE4,opE,colE,litE,Expr.size,Expr.sizes])
 rw [eq_conj] at h2
 have m0:=callM116 s0S 0 16 (intW 3) rfl
 have m1:=callM116 sp1 0 14 (intW 5) rfl
 refine cal70_two twoC knE (eqE4 n) kn0 kn1 0 16 14 (intW 3) (intW 5) [eqE4 n] r sp1 sp2 h1 h2 rfl rfl t_kn0 t_kn1 m0 m1 (cal_to (cal117 sp2) (by kernel_rfl)) ?_
 refine cal_to (cal118 twoC (Expr.ps [kn0,kn1]) [.int .i64 0] [spanP sp2] [eqE4 n] (fun _=>r) fun i hi=>?_) (by cases r <;> rfl)
 match i with
 | 0=>
  have hk:∀ x ∈ [kn0,kn1],wf x=true:=by
   intro x hx
   exact wf_arg wa x hx
  exact cal_to (cal177 twoC [kn0,kn1] 0 sp2 (eqE4 n) 12 (intW n) (t_eq n) wb hk (colE 0) (litE (intW n).kind (intW n)) rfl rfl rfl rfl) (by rw [hr])
 | i + 1=>simp at hi
theorem c27a:Cal 27 [knE.p,(eqE4 4).p,.lst (Col.ps twoC)] [.bool true,.int .i64 0]:=c27n 4 true e4_bad (by kernel_rfl) eq4_cond (by kernel_rfl) (by kernel_rfl)
theorem c27b:Cal 27 [knE.p,(eqE4 5).p,.lst (Col.ps twoC)] [.bool false,.int .i64 0]:=c27n 5 false e5_bad (by kernel_rfl) eq5_cond (by kernel_rfl) (by kernel_rfl)
end Go.Proofs.YtgiedlcjlalpcaaGreat
namespace Go.Proofs.YtgiedlcjlalpcaaGreat
open Go.Abs
section
variable {cols:List Col}
theorem inner_of {e:Expr} (hw:wf e=true) (hne:e.args ≠ []):Inner e:=
 nodeR_inner (wf_node hw) (fun h=>hne (nodeR_leaf (wf_node hw) (.inl h))) (fun h=>hne (nodeR_leaf (wf_node hw) (.inr h))) (fun h=>hne (nodeR_lit (wf_node hw) h).2.2.2.2.2.1)
theorem sums_eq (f:Expr→Nat):∀ (l xs:List Expr),l.length=xs.length→(∀ (i:Nat) (h1:i < l.length) (h2:i < xs.length),f xs[i] ≤ f l[i]) →
  (xs.map f).sum ≤ (l.map f).sum∧((xs.map f).sum=(l.map f).sum→∀ (i:Nat) (h1:i < l.length) (h2:i < xs.length),f xs[i]=f l[i])
 | [],[],_,_=>⟨Nat.le_refl _,fun _ i h1=>absurd h1 (by simp)⟩
 | a :: r,b :: s,hl,hx=>by
  have h0:f b ≤ f a:=hx 0 (by simp) (by simp)
  obtain ⟨h1,h2⟩:=sums_eq f r s (by simpa using hl) fun i h1 h2=>by
   have:=hx (i + 1) (by simp;omega) (by simp;omega)
   simpa using this
  simp only [List.map_cons,List.sum_cons]
  refine ⟨by omega,fun he i g1 g2=>?_⟩
  cases i with
  | zero=>show f b=f a;omega
  | succ i=>exact h2 (by omega) i (by simpa using g1) (by simpa using g2)
theorem wt_setA_eq {e:Expr} {xs:List Expr} (hi:Inner e) (hl:e.args.length=xs.length) (hx:∀ (i:Nat) (h1:i < e.args.length) (h2:i < xs.length),wt xs[i] ≤ wt e.args[i])
  (heq:wt (setA e xs)=wt e):∀ (i:Nat) (h1:i < e.args.length) (h2:i < xs.length),wt xs[i]=wt e.args[i]:=by
 obtain ⟨_,hsum⟩:=sums_eq wt e.args xs hl hx
 have hlo:=hi.lo
 by_cases h21:e.op=21
 ·rw [wt_not h21,wt_not (e:=setA e xs) (by rw [setA_op];exact h21),setA_args] at heq
  exact hsum (by omega)
 ·by_cases hc:12 ≤ e.op∧e.op ≤ 18
  ·obtain ⟨a,b,hab⟩:=args2 hi hc.2 (by omega) (by omega)
   have hlen:xs.length=2:=by rw [← hl,hab];rfl
   obtain ⟨u,v,huv⟩:∃ u v,xs=[u,v]:=by
    match xs,hlen with
    | [u,v],_=>exact ⟨u,v,rfl⟩
   have h0:wt u ≤ wt a:=by have:=hx 0 (by rw [hab];simp) (by rw [huv];simp);simpa [hab,huv] using this
   have h1:wt v ≤ wt b:=by have:=hx 1 (by rw [hab];simp) (by rw [huv];simp);simpa [hab,huv] using this
   have hs:(setA e xs).args=[u,v]:=by rw [setA_args,huv]
   have ho:=setA_op e xs
   refine hsum ?_
   rw [hab,huv]
   simp only [List.map_cons,List.map_nil,List.sum_cons,List.sum_nil]
   by_cases h18:e.op=18
   ·rw [wt_same h18 hab,wt_same (by rw [ho];exact h18) hs] at heq;omega
   ·rw [wt_cmp hc.1 (by omega) hab,wt_cmp (by rw [ho];exact hc.1) (by rw [ho];omega) hs] at heq;omega
  ·rw [wt_sum hlo h21 hc,wt_sum (e:=setA e xs) (by rw [setA_op];exact hlo) (by rw [setA_op];exact h21) (by rw [setA_op];exact hc),setA_args] at heq
   exact hsum (by omega)
theorem simp_le {e s:Expr} (hs:Simp cols e s):∀ {k:Int},Has cols e k→wt s ≤ wt e∧(wt s=wt e→s=e):=by
 induction hs with
 | stay e xs hl h hs ih=>
  intro k hk
  have hx:=fun i h1 h2=>ih i h1 h2 (arg_has hk (List.getElem_mem h1))
  refine ⟨wt_setA hl fun i h1 h2=>(hx i h1 h2).1,fun heq=>?_⟩
  have hxs:xs=e.args:=by
   refine List.ext_getElem hl.symm fun i h2 h1=>?_
   have hi:=inner_of hk.wf (by intro h;rw [h] at h1;simp at h1)
   exact (hx i h1 h2).2 (wt_setA_eq hi hl (fun i h1 h2=>(hx i h1 h2).1) heq i h1 h2)
  rw [hxs]
  exact expr_eta e
 | go e xs y hl h hs hy ih ihy=>
  intro k hk
  have hA:Has cols (setA e xs) k:=has_args hk hl fun i h1 h2=>simp_has (h i h1 h2) (arg_has hk (List.getElem_mem h1))
  have hwt:wt (setA e xs) ≤ wt e:=wt_setA hl fun i h1 h2=>(ih i h1 h2 (arg_has hk (List.getElem_mem h1))).1
  have hlt:=step_wt hA.wf hs
  obtain ⟨h1,_⟩:=ihy (step_has hA hs)
  exact ⟨by omega,fun _=>by omega⟩
theorem setA_opE {e:Expr} (hi:Inner e) (hr:e.rels=[]) (l:List Expr):setA e l=opE e.op l:=by
 obtain ⟨op,n,m,k,v,a,r⟩:=e
 have h1:=hi.n
 have h2:=hi.m
 have h3:=hi.kind
 have h4:=hi.lit
 simp only [Expr.n,Expr.m,Expr.kind,Expr.lit,Expr.rels] at h1 h2 h3 h4 hr
 subst h1;subst h2;subst h3;subst h4;subst hr
 rfl
def isN (v:Val):Nat:=if v.kind=0 then 1 else 0
mutual
def nl:Expr→Nat
 | .mk _ _ _ _ v args _=>isN v + nls args
def nls:List Expr→Nat
 | []=>0
 | a :: r=>nl a + nls r
end
theorem nls_map:∀ (l:List Expr),nls l=(l.map nl).sum
 | []=>rfl
 | a :: r=>by simp [nls,nls_map r]
theorem nl_eq (e:Expr):nl e=isN e.lit + (e.args.map nl).sum:=by
 cases e
 simp only [nl,nls_map];rfl
def Less (a b:Expr):Prop:=wt a < wt b ∨ (wt a=wt b∧nl a < nl b)
def Leq (a b:Expr):Prop:=Less a b ∨ a=b
theorem Leq.trans {a b c:Expr} (h:Leq a b) (g:Leq b c):Leq a c:=by
 rcases g with g | rfl
 ·rcases h with h | rfl
  ·refine .inl ?_
   unfold Less at *
   omega
  ·exact .inl g
 ·exact h
theorem Less.trans_le {a b c:Expr} (h:Less a b) (g:Leq b c):Less a c:=by
 rcases g with g | rfl
 ·unfold Less at *
  omega
 ·exact h
theorem simp_leq {e s:Expr} {k:Int} (hs:Simp cols e s) (h:Has cols e k):Leq s e:=by
 obtain ⟨h1,h2⟩:=simp_le hs h
 by_cases g:wt s=wt e
 ·exact .inr (h2 g)
 ·exact .inl (.inl (by omega))
theorem lit_cond {s:Expr} (h:Has cols s 2) (h3:s.op=3):s.lit.kind=0 ∨ truthE (isTrue s)=s:=by
 by_cases hz:s.lit.kind=0
 ·exact .inl hz
 ·refine .inr ?_
  obtain ⟨g1,_,g3⟩:=has_isLit h h3
  have hk:s.lit.kind=2:=by rcases g3 with g | g;exact absurd g hz;exact g
  have hb:s.lit=boolW true ∨ s.lit=boolW false:=by
   cases hl:s.lit with
   | mk k n t=>
    rw [hl] at hk g1
    simp only at hk
    subst hk
    simp [rightV,noText] at g1
    obtain ⟨hn,ht⟩:=g1
    rcases hn with hn | hn <;> subst hn <;> subst ht
    ·exact .inr rfl
    ·exact .inl rfl
  rcases hb with hb | hb
  ·have:=lit_eta h.wf h3 (v:=boolW true) (by decide) hb
   rw [this];rfl
  ·have:=lit_eta h.wf h3 (v:=boolW false) (by decide) hb
   rw [this];rfl
theorem eqL_rfl (l:List Expr):eqL sameE l l=true:=by
 rw [eqL_sameL,sameL_refl];simp
theorem list_ex {α:Type} {q:Expr→α→Prop}:∀ (l:List Expr),(∀ a ∈ l,∃ y,q a y)→∃ xs:List α,l.length=xs.length∧∀ (i:Nat) (h1:i < l.length) (h2:i < xs.length),q l[i] xs[i]
 | [],_=>⟨[],rfl,fun i h1=>by simp at h1⟩
 | a :: r,ih=>by
  obtain ⟨y,hy⟩:=ih a (by simp)
  obtain ⟨xs,hl,hx⟩:=list_ex r fun b hb=>ih b (by simp [hb])
  refine ⟨y :: xs,by simp [hl],fun i h1 h2=>?_⟩
  cases i with
  | zero=>exact hy
  | succ i=>exact hx i (by simpa using h1) (by simpa using h2)
theorem cond_ex {e:Expr} (h:Has cols e 2):∃ y,CondS cols e y∧Leq y e:=by
 induction hn:wt e using Nat.strongRecOn generalizing e with
 | _ n ihn=>
 induction hm:nl e using Nat.strongRecOn generalizing e with
 | _ m ihm=>
 have rek:∀ z,Less z e→Has cols z 2→∃ y,CondS cols z y∧Leq y z:=by
  intro z hz hk
  rcases hz with hz | ⟨hz1,hz2⟩
  ·exact ihn (wt z) (by omega) hk rfl
  ·exact ihm (nl z) (by omega) hk (by omega) rfl
 clear ihn ihm
 obtain ⟨s,hs,_⟩:=simp_ex (wt e) (Nat.le_refl _) h
 have hsk:=simp_has hs h
 have hse:=simp_leq hs h
 by_cases h3:s.op=3
 ·refine ⟨_,.lit e s hs h3,?_⟩
  rcases lit_cond hsk h3 with hz | ht
  ·refine Leq.trans (.inl (.inr ⟨by rw [truthE,wt_litE,wt_lit h3],?_⟩)) hse
   have h1:nl (truthE (isTrue s))=0:=by
    rw [nl_eq]
    show isN (boolW (isTrue s)) + 0=0
    cases isTrue s <;> rfl
   rw [h1,nl_eq,isN,if_pos hz]
   omega
  ·rw [ht];exact hse
 have arg:∀ a ∈ s.args,Less a e:=fun a ha=>Less.trans_le (.inl (arg_lt hsk.wf ha)) hse
 by_cases h23:s.op=23
 ·obtain ⟨a,ha⟩:=args1 (nodeR_inner (wf_node hsk.wf) (by omega) (by omega) (by omega)) (by omega)
  have hl:=arg a (by simp [ha])
  obtain ⟨y,hy,hy2⟩:=rek a hl (has_istrue_elim hsk h23 ha)
  exact ⟨y,.istrue e s y a hs h23 ha hy,hy2.trans (.inl hl)⟩
 by_cases h25:s.op=25
 ·have hi:=nodeR_inner (wf_node hsk.wf) (by omega) (by omega) (by omega)
  have hm2:=hi.many
  obtain ⟨op,n,m,k,v,args,r⟩:=s
  simp only [Expr.op,Expr.args] at *
  subst h25
  match args with
  | []=>simp [many,argsOf] at hm2
  | [a]=>simp [many,argsOf] at hm2
  | [a,b]=>
   cases hb:isFalse b
   ·exact ⟨_,.coal2 e n m k v a b r hs hb,hse⟩
   ·have hl:=arg a (by simp)
    obtain ⟨y,hy,hy2⟩:=rek a hl (has_coal_elim hsk rfl a (by simp [Expr.args]))
    exact ⟨y,.coal e _ y a b hs rfl rfl hb hy,hy2.trans (.inl hl)⟩
  | a :: b :: c :: l=>exact ⟨_,.coal1 e n m k v a b c l r hs,hse⟩
 by_cases hop:s.op=19 ∨ s.op=20
 ·have hargs:=has_list_elim hsk hop
  have hi:=nodeR_inner (wf_node hsk.wf) (by omega) (by omega) (by omega)
  obtain ⟨xs,hl,hx⟩:=list_ex (q:=fun a y=>CondS cols a y∧Leq y a) s.args fun a ha=>rek a (arg a ha) (hargs a ha)
  cases hq:eqL sameE xs s.args with
  | true=>exact ⟨s,.same e s xs hs hop hl (fun i h1 h2=>(hx i h1 h2).1) hq,hse⟩
  | false=>
   have hxk:∀ a ∈ xs,Has cols a 2:=by
    intro a ha
    obtain ⟨i,hi,rfl⟩:=List.getElem_of_mem ha
    exact cond_has (hx i (by omega) hi).1 (hargs _ (List.getElem_mem _))
   have hz:Less (opE s.op xs) s:=by
    rw [← setA_opE hi (nodeR_rels (wf_node hsk.wf))]
    have hw:∀ (i:Nat) (h1:i < s.args.length) (h2:i < xs.length),wt xs[i] ≤ wt s.args[i]:=fun i h1 h2=>by
     rcases (hx i h1 h2).2 with g | g
     ·unfold Less at g;omega
     ·rw [g];exact Nat.le_refl _
    have hle:=wt_setA hl hw
    by_cases heq:wt (setA s xs)=wt s
    ·refine .inr ⟨heq,?_⟩
     have hwe:=wt_setA_eq hi hl hw heq
     have hn:∀ (i:Nat) (h1:i < s.args.length) (h2:i < xs.length),nl xs[i] ≤ nl s.args[i]:=fun i h1 h2=>by
      have:=hwe i h1 h2
      rcases (hx i h1 h2).2 with g | g
      ·unfold Less at g;omega
      ·rw [g];exact Nat.le_refl _
     obtain ⟨n1,n2⟩:=sums_eq nl s.args xs hl hn
     have hlit:(setA s xs).lit=s.lit:=by cases s;rfl
     rw [nl_eq,nl_eq s,hlit,setA_args]
     by_cases hne:(xs.map nl).sum=(s.args.map nl).sum
     ·have hxs:xs=s.args:=by
       refine List.ext_getElem hl.symm fun i h2 h1=>?_
       have e1:=hwe i h1 h2
       have e2:=n2 hne i h1 h2
       rcases (hx i h1 h2).2 with g | g
       ·unfold Less at g;omega
       ·exact g
      rw [hxs,eqL_rfl] at hq
      cases hq
     ·omega
    ·exact .inl (by omega)
   obtain ⟨y,hy,hy2⟩:=rek _ (Less.trans_le hz hse) (go_has hsk hop hl hxk)
   exact ⟨y,.go e s y xs hs hop hl (fun i h1 h2=>(hx i h1 h2).1) hq hy,(hy2.trans (.inl hz)).trans hse⟩
 ·exact ⟨s,.other e s hs (by simpa using h3) (by simpa using h23) (by simp;omega) (by simp;omega) (by simpa using h25),hse⟩
theorem deep_cond {e y:Expr} (h:CondS cols e y):deep y ≤ deep e:=by
 induction h with
 | lit e s hs h=>exact deep_pos e
 | istrue e s y a hs h ha hy ih=>
  have h1:=deep_simp hs
  rw [deep_eq s,ha] at h1
  have:=deep_mem (l:=[a]) (a:=a) (by simp)
  omega
 | coal e s y a b hs h ha hb hy ih=>
  have h1:=deep_simp hs
  rw [deep_eq s,ha] at h1
  have:=deep_mem (l:=[a,b]) (a:=a) (by simp)
  omega
 | coal1 e n m k v a b c l r hs=>exact deep_simp hs
 | coal2 e n m k v a b r hs hb=>exact deep_simp hs
 | other e s hs h3 h23 h19 h20 h25=>exact deep_simp hs
 | same e s xs hs hop hl h hq ih=>exact deep_simp hs
 | go e s y xs hs hop hl h hq hy ih ihy=>
  have h1:=deep_simp hs
  rw [deep_opE] at ihy
  rw [deep_eq s] at h1
  have:deeps xs ≤ deeps s.args:=deeps_le fun a ha=>by
   obtain ⟨i,hi,rfl⟩:=List.getElem_of_mem ha
   exact Nat.le_trans (ih i (by omega) hi) (deep_mem (List.getElem_mem _))
  omega
end
end Go.Proofs.YtgiedlcjlalpcaaGreat
