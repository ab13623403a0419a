/- Own part of a proof: Sm I10 C8 A1 A2 B1 B2 B3 X0 A3 B4 B5 B6. -/
import Derived.Test.YtgiedlcjlalpcaaGreatPb05
import Derived.Test.YtgiedlcjlalpcaaGreatPb06
import Derived.Test.YtgiedlcjlalpcaaGreatPb08
import Derived.Test.YtgiedlcjlalpcaaGreatPb13
import Derived.Test.YtgiedlcjlalpcaaGreatPb15
import Derived.Test.YtgiedlcjlalpcaaGreatPb17
import Derived.Test.YtgiedlcjlalpcaaGreatPb19
import Derived.Test.YtgiedlcjlalpcaaGreatPb20
import Derived.Test.YtgiedlcjlalpcaaGreatPb21
set_option linter.all false
namespace Go.Proofs.YtgiedlcjlalpcaaGreat
open Go.Abs
mutual
theorem sameE_refl:∀ (e:Expr),sameE e e=true
 | .mk op n m k v args rels=>by
  rw [sameE]
  simp [Expr.op,Expr.n,Expr.m,Expr.kind,Expr.lit,Expr.args,Expr.rels]
  exact sameL_refl args
theorem sameL_refl:∀ (l:List Expr),sameL l l=true
 | []=>rfl
 | a :: r=>by rw [sameL,sameE_refl a,if_pos rfl];exact sameL_refl r
end
end Go.Proofs.YtgiedlcjlalpcaaGreat
namespace Go.Proofs.YtgiedlcjlalpcaaGreat
open Go.Abs
set_option maxRecDepth 100000
theorem cal_to {f:FuncId} {ps rs rs':List P} (h:Cal f ps rs) (e:rs=rs'):Cal f ps rs':=e ▸ h
def kn0:Expr:=opE 16 [colE 0,litE (intW 3).kind (intW 3)]
def kn1:Expr:=opE 14 [colE 0,litE (intW 5).kind (intW 5)]
def sp1:Span:=addS s0S 16 (intW 3)
def sp2:Span:=addS sp1 14 (intW 5)
theorem bare_of {op n m k:Int} {v:Val} {l:List Expr} (h:bareEs l):bareE (.mk op n m k v l []):=by
 simp [bareE,h]
theorem bare_n (l:List Expr):True:=trivial
theorem kn_bad:badE knE twoC true=0:=by kernel_rfl
theorem e4_bad:badE (eqE4 4) twoC true=0:=by kernel_rfl
theorem e5_bad:badE (eqE4 5) twoC true=0:=by kernel_rfl
theorem rj_bad:badE rjE twoC true=0:=by kernel_rfl
theorem nr_bad:badE nrE twoC false=0:=by kernel_rfl
theorem col_bad:badE (colE 0) twoC true=31:=by kernel_rfl
theorem nr_bare:bareE nrE:=by simp [nrE,opE,colE,litE,bareE,bareEs]
theorem kn_bare:bareE knE:=by simp [knE,opE,colE,litE,bareE,bareEs]
theorem eq_bare (n:Int):bareE (eqE4 n):=by simp [eqE4,opE,colE,litE,bareE,bareEs]
theorem rj_bare:bareE rjE:=by simp [rjE,opE,colE,litE,bareE,bareEs]
theorem c16n:Cal 16 [nrE.p,.lst (Col.ps twoC)] [nrY.p,.int .i64 0]:=
 cal_to (cal16_ok nrE nrY twoC nr_bare (by decide) nr_bad (simpF_ok nr_simp)) (by kernel_rfl)
theorem c25n:Cal 25 [rjE.p,.lst (Col.ps twoC),.lst (ips [1])] [.bool true,.int .i64 0]:=
 cal_to (cal25_ok rjE twoC [1] rjY rj_bare (by decide) rj_bad (by kernel_rfl) (simpF_ok rj_simp)) (by kernel_rfl)
theorem c23n:Cal 23 [(colE 0).p,.lst (Col.ps twoC)] [zeroE.p,.int .i64 31]:=
 cal_to (cal23_bad (colE 0) twoC (by simp [colE,bareE,bareEs]) (by decide) (by rw [col_bad];decide)) (by rw [col_bad])
theorem kn_conj:conjE knE=[kn0,kn1]:=by kernel_rfl
theorem eq_conj (n:Int):conjE (eqE4 n)=[eqE4 n]:=by rw [conjE_eq];rfl
theorem t_kn0:Cal 115 [kn0.p] [testP 0 16 (intW 3),.bool true]:=s115_cmp kn0 (colE 0) (litE (intW 3).kind (intW 3)) rfl rfl rfl rfl rfl rfl rfl
theorem t_kn1:Cal 115 [kn1.p] [testP 0 14 (intW 5),.bool true]:=s115_cmp kn1 (colE 0) (litE (intW 5).kind (intW 5)) rfl rfl rfl rfl rfl rfl rfl
theorem t_eq (n:Int):Cal 115 [(eqE4 n).p] [testP 0 12 (intW n),.bool true]:=s115_cmp (eqE4 n) (colE 0) (litE (intW n).kind (intW n)) rfl rfl rfl rfl rfl rfl rfl
theorem c27n (n:Int) (r:Bool) (hbad:badE (eqE4 n) twoC true=0) (hbeg:begR twoC true [] [knE,eqE4 n]=(L twoC,0)) (hc:condF twoC 9 (eqE4 n)=some (eqE4 n)) (hf:(fitE 400 1 (eqE4 n)).1=true) (hr:impR [kn0,kn1] sp2 (eqE4 n) 12 (intW n)=r) :
  Cal 27 [knE.p,(eqE4 n).p,.lst (Col.ps twoC)] [.bool r,.int .i64 0]:=by
 obtain ⟨hka,_,_⟩:=badT_has kn_bad
 obtain ⟨hkb,_,_⟩:=badT_has hbad
 have wa:=hka.wf
 have wb:=hkb.wf
 refine cal27_ok twoC knE (eqE4 n) knE (eqE4 n) r kn_bare (eq_bare n) (by decide) (by simp [eqE4,opE,colE,litE,Expr.size,Expr.sizes]) hbeg hka hkb (condF_ok kn_cond) (condF_ok hc) (by kernel_rfl) hf ?_
 have h1:=cal114 twoC knE knE (cal59 (condF_ok kn_cond) hka) wa (by decide)
 rw [kn_conj] at h1
 have h2:=cal114 twoC (eqE4 n) (eqE4 n) (cal59 (condF_ok hc) hkb) wb (by simp [eqE4,opE,colE,litE,Expr.size,Expr.sizes])
 rw [eq_conj] at h2
 have m0:=callM116 s0S 0 16 (intW 3) rfl
 have m1:=callM116 sp1 0 14 (intW 5) rfl
 refine cal70_two twoC knE (eqE4 n) kn0 kn1 0 16 14 (intW 3) (intW 5) [eqE4 n] r sp1 sp2 h1 h2 rfl rfl t_kn0 t_kn1 m0 m1 (cal_to (cal117 sp2) (by kernel_rfl)) ?_
 refine cal_to (cal118 twoC (Expr.ps [kn0,kn1]) [.int .i64 0] [spanP sp2] [eqE4 n] (fun _=>r) fun i hi=>?_) (by cases r <;> rfl)
 match i with
 | 0=>
  have hk:∀ x ∈ [kn0,kn1],wf x=true:=by
   intro x hx
   exact wf_arg wa x hx
  exact cal_to (cal177 twoC [kn0,kn1] 0 sp2 (eqE4 n) 12 (intW n) (t_eq n) wb hk (colE 0) (litE (intW n).kind (intW n)) rfl rfl rfl rfl) (by rw [hr])
 | i + 1=>simp at hi
theorem c27a:Cal 27 [knE.p,(eqE4 4).p,.lst (Col.ps twoC)] [.bool true,.int .i64 0]:=c27n 4 true e4_bad (by kernel_rfl) eq4_cond (by kernel_rfl) (by kernel_rfl)
theorem c27b:Cal 27 [knE.p,(eqE4 5).p,.lst (Col.ps twoC)] [.bool false,.int .i64 0]:=c27n 5 false e5_bad (by kernel_rfl) eq5_cond (by kernel_rfl) (by kernel_rfl)
end Go.Proofs.YtgiedlcjlalpcaaGreat
namespace Go.Proofs.YtgiedlcjlalpcaaGreat
open Go.Abs
section
variable {cols:List Col}
theorem inner_of {e:Expr} (hw:wf e=true) (hne:e.args ≠ []):Inner e:=
 nodeR_inner (wf_node hw) (fun h=>hne (nodeR_leaf (wf_node hw) (.inl h))) (fun h=>hne (nodeR_leaf (wf_node hw) (.inr h))) (fun h=>hne (nodeR_lit (wf_node hw) h).2.2.2.2.2.1)
theorem sums_eq (f:Expr→Nat):∀ (l xs:List Expr),l.length=xs.length→(∀ (i:Nat) (h1:i < l.length) (h2:i < xs.length),f xs[i] ≤ f l[i]) →
  (xs.map f).sum ≤ (l.map f).sum∧((xs.map f).sum=(l.map f).sum→∀ (i:Nat) (h1:i < l.length) (h2:i < xs.length),f xs[i]=f l[i])
 | [],[],_,_=>⟨Nat.le_refl _,fun _ i h1=>absurd h1 (by simp)⟩
 | a :: r,b :: s,hl,hx=>by
  have h0:f b ≤ f a:=hx 0 (by simp) (by simp)
  obtain ⟨h1,h2⟩:=sums_eq f r s (by simpa using hl) fun i h1 h2=>by
   have:=hx (i + 1) (by simp;omega) (by simp;omega)
   simpa using this
  simp only [List.map_cons,List.sum_cons]
  refine ⟨by omega,fun he i g1 g2=>?_⟩
  cases i with
  | zero=>show f b=f a;omega
  | succ i=>exact h2 (by omega) i (by simpa using g1) (by simpa using g2)
theorem wt_setA_eq {e:Expr} {xs:List Expr} (hi:Inner e) (hl:e.args.length=xs.length) (hx:∀ (i:Nat) (h1:i < e.args.length) (h2:i < xs.length),wt xs[i] ≤ wt e.args[i])
  (heq:wt (setA e xs)=wt e):∀ (i:Nat) (h1:i < e.args.length) (h2:i < xs.length),wt xs[i]=wt e.args[i]:=by
 obtain ⟨_,hsum⟩:=sums_eq wt e.args xs hl hx
 have hlo:=hi.lo
 by_cases h21:e.op=21
 ·rw [wt_not h21,wt_not (e:=setA e xs) (by rw [setA_op];exact h21),setA_args] at heq
  exact hsum (by omega)
 ·by_cases hc:12 ≤ e.op∧e.op ≤ 18
  ·obtain ⟨a,b,hab⟩:=args2 hi hc.2 (by omega) (by omega)
   have hlen:xs.length=2:=by rw [← hl,hab];rfl
   obtain ⟨u,v,huv⟩:∃ u v,xs=[u,v]:=by
    match xs,hlen with
    | [u,v],_=>exact ⟨u,v,rfl⟩
   have h0:wt u ≤ wt a:=by have:=hx 0 (by rw [hab];simp) (by rw [huv];simp);simpa [hab,huv] using this
   have h1:wt v ≤ wt b:=by have:=hx 1 (by rw [hab];simp) (by rw [huv];simp);simpa [hab,huv] using this
   have hs:(setA e xs).args=[u,v]:=by rw [setA_args,huv]
   have ho:=setA_op e xs
   refine hsum ?_
   rw [hab,huv]
   simp only [List.map_cons,List.map_nil,List.sum_cons,List.sum_nil]
   by_cases h18:e.op=18
   ·rw [wt_same h18 hab,wt_same (by rw [ho];exact h18) hs] at heq;omega
   ·rw [wt_cmp hc.1 (by omega) hab,wt_cmp (by rw [ho];exact hc.1) (by rw [ho];omega) hs] at heq;omega
  ·rw [wt_sum hlo h21 hc,wt_sum (e:=setA e xs) (by rw [setA_op];exact hlo) (by rw [setA_op];exact h21) (by rw [setA_op];exact hc),setA_args] at heq
   exact hsum (by omega)
theorem simp_le {e s:Expr} (hs:Simp cols e s):∀ {k:Int},Has cols e k→wt s ≤ wt e∧(wt s=wt e→s=e):=by
 induction hs with
 | stay e xs hl h hs ih=>
  intro k hk
  have hx:=fun i h1 h2=>ih i h1 h2 (arg_has hk (List.getElem_mem h1))
  refine ⟨wt_setA hl fun i h1 h2=>(hx i h1 h2).1,fun heq=>?_⟩
  have hxs:xs=e.args:=by
   refine List.ext_getElem hl.symm fun i h2 h1=>?_
   have hi:=inner_of hk.wf (by intro h;rw [h] at h1;simp at h1)
   exact (hx i h1 h2).2 (wt_setA_eq hi hl (fun i h1 h2=>(hx i h1 h2).1) heq i h1 h2)
  rw [hxs]
  exact expr_eta e
 | go e xs y hl h hs hy ih ihy=>
  intro k hk
  have hA:Has cols (setA e xs) k:=has_args hk hl fun i h1 h2=>simp_has (h i h1 h2) (arg_has hk (List.getElem_mem h1))
  have hwt:wt (setA e xs) ≤ wt e:=wt_setA hl fun i h1 h2=>(ih i h1 h2 (arg_has hk (List.getElem_mem h1))).1
  have hlt:=step_wt hA.wf hs
  obtain ⟨h1,_⟩:=ihy (step_has hA hs)
  exact ⟨by omega,fun _=>by omega⟩
theorem setA_opE {e:Expr} (hi:Inner e) (hr:e.rels=[]) (l:List Expr):setA e l=opE e.op l:=by
 obtain ⟨op,n,m,k,v,a,r⟩:=e
 have h1:=hi.n
 have h2:=hi.m
 have h3:=hi.kind
 have h4:=hi.lit
 simp only [Expr.n,Expr.m,Expr.kind,Expr.lit,Expr.rels] at h1 h2 h3 h4 hr
 subst h1;subst h2;subst h3;subst h4;subst hr
 rfl
def isN (v:Val):Nat:=if v.kind=0 then 1 else 0
mutual
def nl:Expr→Nat
 | .mk _ _ _ _ v args _=>isN v + nls args
def nls:List Expr→Nat
 | []=>0
 | a :: r=>nl a + nls r
end
theorem nls_map:∀ (l:List Expr),nls l=(l.map nl).sum
 | []=>rfl
 | a :: r=>by simp [nls,nls_map r]
theorem nl_eq (e:Expr):nl e=isN e.lit + (e.args.map nl).sum:=by
 cases e
 simp only [nl,nls_map];rfl
def Less (a b:Expr):Prop:=wt a < wt b ∨ (wt a=wt b∧nl a < nl b)
def Leq (a b:Expr):Prop:=Less a b ∨ a=b
theorem Leq.trans {a b c:Expr} (h:Leq a b) (g:Leq b c):Leq a c:=by
 rcases g with g | rfl
 ·rcases h with h | rfl
  ·refine .inl ?_
   unfold Less at *
   omega
  ·exact .inl g
 ·exact h
theorem Less.trans_le {a b c:Expr} (h:Less a b) (g:Leq b c):Less a c:=by
 rcases g with g | rfl
 ·unfold Less at *
  omega
 ·exact h
theorem simp_leq {e s:Expr} {k:Int} (hs:Simp cols e s) (h:Has cols e k):Leq s e:=by
 obtain ⟨h1,h2⟩:=simp_le hs h
 by_cases g:wt s=wt e
 ·exact .inr (h2 g)
 ·exact .inl (.inl (by omega))
theorem lit_cond {s:Expr} (h:Has cols s 2) (h3:s.op=3):s.lit.kind=0 ∨ truthE (isTrue s)=s:=by
 by_cases hz:s.lit.kind=0
 ·exact .inl hz
 ·refine .inr ?_
  obtain ⟨g1,_,g3⟩:=has_isLit h h3
  have hk:s.lit.kind=2:=by rcases g3 with g | g;exact absurd g hz;exact g
  have hb:s.lit=boolW true ∨ s.lit=boolW false:=by
   cases hl:s.lit with
   | mk k n t=>
    rw [hl] at hk g1
    simp only at hk
    subst hk
    simp [rightV,noText] at g1
    obtain ⟨hn,ht⟩:=g1
    rcases hn with hn | hn <;> subst hn <;> subst ht
    ·exact .inr rfl
    ·exact .inl rfl
  rcases hb with hb | hb
  ·have:=lit_eta h.wf h3 (v:=boolW true) (by decide) hb
   rw [this];rfl
  ·have:=lit_eta h.wf h3 (v:=boolW false) (by decide) hb
   rw [this];rfl
theorem eqL_rfl (l:List Expr):eqL sameE l l=true:=by
 rw [eqL_sameL,sameL_refl];simp
theorem list_ex {α:Type} {q:Expr→α→Prop}:∀ (l:List Expr),(∀ a ∈ l,∃ y,q a y)→∃ xs:List α,l.length=xs.length∧∀ (i:Nat) (h1:i < l.length) (h2:i < xs.length),q l[i] xs[i]
 | [],_=>⟨[],rfl,fun i h1=>by simp at h1⟩
 | a :: r,ih=>by
  obtain ⟨y,hy⟩:=ih a (by simp)
  obtain ⟨xs,hl,hx⟩:=list_ex r fun b hb=>ih b (by simp [hb])
  refine ⟨y :: xs,by simp [hl],fun i h1 h2=>?_⟩
  cases i with
  | zero=>exact hy
  | succ i=>exact hx i (by simpa using h1) (by simpa using h2)
theorem cond_ex {e:Expr} (h:Has cols e 2):∃ y,CondS cols e y∧Leq y e:=by
 induction hn:wt e using Nat.strongRecOn generalizing e with
 | _ n ihn=>
 induction hm:nl e using Nat.strongRecOn generalizing e with
 | _ m ihm=>
 have rek:∀ z,Less z e→Has cols z 2→∃ y,CondS cols z y∧Leq y z:=by
  intro z hz hk
  rcases hz with hz | ⟨hz1,hz2⟩
  ·exact ihn (wt z) (by omega) hk rfl
  ·exact ihm (nl z) (by omega) hk (by omega) rfl
 clear ihn ihm
 obtain ⟨s,hs,_⟩:=simp_ex (wt e) (Nat.le_refl _) h
 have hsk:=simp_has hs h
 have hse:=simp_leq hs h
 by_cases h3:s.op=3
 ·refine ⟨_,.lit e s hs h3,?_⟩
  rcases lit_cond hsk h3 with hz | ht
  ·refine Leq.trans (.inl (.inr ⟨by rw [truthE,wt_litE,wt_lit h3],?_⟩)) hse
   have h1:nl (truthE (isTrue s))=0:=by
    rw [nl_eq]
    show isN (boolW (isTrue s)) + 0=0
    cases isTrue s <;> rfl
   rw [h1,nl_eq,isN,if_pos hz]
   omega
  ·rw [ht];exact hse
 have arg:∀ a ∈ s.args,Less a e:=fun a ha=>Less.trans_le (.inl (arg_lt hsk.wf ha)) hse
 by_cases h23:s.op=23
 ·obtain ⟨a,ha⟩:=args1 (nodeR_inner (wf_node hsk.wf) (by omega) (by omega) (by omega)) (by omega)
  have hl:=arg a (by simp [ha])
  obtain ⟨y,hy,hy2⟩:=rek a hl (has_istrue_elim hsk h23 ha)
  exact ⟨y,.istrue e s y a hs h23 ha hy,hy2.trans (.inl hl)⟩
 by_cases h25:s.op=25
 ·have hi:=nodeR_inner (wf_node hsk.wf) (by omega) (by omega) (by omega)
  have hm2:=hi.many
  obtain ⟨op,n,m,k,v,args,r⟩:=s
  simp only [Expr.op,Expr.args] at *
  subst h25
  match args with
  | []=>simp [many,argsOf] at hm2
  | [a]=>simp [many,argsOf] at hm2
  | [a,b]=>
   cases hb:isFalse b
   ·exact ⟨_,.coal2 e n m k v a b r hs hb,hse⟩
   ·have hl:=arg a (by simp)
    obtain ⟨y,hy,hy2⟩:=rek a hl (has_coal_elim hsk rfl a (by simp [Expr.args]))
    exact ⟨y,.coal e _ y a b hs rfl rfl hb hy,hy2.trans (.inl hl)⟩
  | a :: b :: c :: l=>exact ⟨_,.coal1 e n m k v a b c l r hs,hse⟩
 by_cases hop:s.op=19 ∨ s.op=20
 ·have hargs:=has_list_elim hsk hop
  have hi:=nodeR_inner (wf_node hsk.wf) (by omega) (by omega) (by omega)
  obtain ⟨xs,hl,hx⟩:=list_ex (q:=fun a y=>CondS cols a y∧Leq y a) s.args fun a ha=>rek a (arg a ha) (hargs a ha)
  cases hq:eqL sameE xs s.args with
  | true=>exact ⟨s,.same e s xs hs hop hl (fun i h1 h2=>(hx i h1 h2).1) hq,hse⟩
  | false=>
   have hxk:∀ a ∈ xs,Has cols a 2:=by
    intro a ha
    obtain ⟨i,hi,rfl⟩:=List.getElem_of_mem ha
    exact cond_has (hx i (by omega) hi).1 (hargs _ (List.getElem_mem _))
   have hz:Less (opE s.op xs) s:=by
    rw [← setA_opE hi (nodeR_rels (wf_node hsk.wf))]
    have hw:∀ (i:Nat) (h1:i < s.args.length) (h2:i < xs.length),wt xs[i] ≤ wt s.args[i]:=fun i h1 h2=>by
     rcases (hx i h1 h2).2 with g | g
     ·unfold Less at g;omega
     ·rw [g];exact Nat.le_refl _
    have hle:=wt_setA hl hw
    by_cases heq:wt (setA s xs)=wt s
    ·refine .inr ⟨heq,?_⟩
     have hwe:=wt_setA_eq hi hl hw heq
     have hn:∀ (i:Nat) (h1:i < s.args.length) (h2:i < xs.length),nl xs[i] ≤ nl s.args[i]:=fun i h1 h2=>by
      have:=hwe i h1 h2
      rcases (hx i h1 h2).2 with g | g
      ·unfold Less at g;omega
      ·rw [g];exact Nat.le_refl _
     obtain ⟨n1,n2⟩:=sums_eq nl s.args xs hl hn
     have hlit:(setA s xs).lit=s.lit:=by cases s;rfl
     rw [nl_eq,nl_eq s,hlit,setA_args]
     by_cases hne:(xs.map nl).sum=(s.args.map nl).sum
     ·have hxs:xs=s.args:=by
       refine List.ext_getElem hl.symm fun i h2 h1=>?_
       have e1:=hwe i h1 h2
       have e2:=n2 hne i h1 h2
       rcases (hx i h1 h2).2 with g | g
       ·unfold Less at g;omega
       ·exact g
      rw [hxs,eqL_rfl] at hq
      cases hq
     ·omega
    ·exact .inl (by omega)
   obtain ⟨y,hy,hy2⟩:=rek _ (Less.trans_le hz hse) (go_has hsk hop hl hxk)
   exact ⟨y,.go e s y xs hs hop hl (fun i h1 h2=>(hx i h1 h2).1) hq hy,(hy2.trans (.inl hz)).trans hse⟩
 ·exact ⟨s,.other e s hs (by simpa using h3) (by simpa using h23) (by simp;omega) (by simp;omega) (by simpa using h25),hse⟩
theorem deep_cond {e y:Expr} (h:CondS cols e y):deep y ≤ deep e:=by
 induction h with
 | lit e s hs h=>exact deep_pos e
 | istrue e s y a hs h ha hy ih=>
  have h1:=deep_simp hs
  rw [deep_eq s,ha] at h1
  have:=deep_mem (l:=[a]) (a:=a) (by simp)
  omega
 | coal e s y a b hs h ha hb hy ih=>
  have h1:=deep_simp hs
  rw [deep_eq s,ha] at h1
  have:=deep_mem (l:=[a,b]) (a:=a) (by simp)
  omega
 | coal1 e n m k v a b c l r hs=>exact deep_simp hs
 | coal2 e n m k v a b r hs hb=>exact deep_simp hs
 | other e s hs h3 h23 h19 h20 h25=>exact deep_simp hs
 | same e s xs hs hop hl h hq ih=>exact deep_simp hs
 | go e s y xs hs hop hl h hq hy ih ihy=>
  have h1:=deep_simp hs
  rw [deep_opE] at ihy
  rw [deep_eq s] at h1
  have:deeps xs ≤ deeps s.args:=deeps_le fun a ha=>by
   obtain ⟨i,hi,rfl⟩:=List.getElem_of_mem ha
   exact Nat.le_trans (ih i (by omega) hi) (deep_mem (List.getElem_mem _))
  omega
end
end Go.Proofs.YtgiedlcjlalpcaaGreat
namespace Go.Proofs.YtgiedlcjlalpcaaGreat
open Go.Abs
theorem tk_real (k:Int):real (tk k)=true:=by
 unfold tk
 have h1:0 ≤ (IntKind.wrap .u64 (w64 (k - 1))).tmod 3:=posI_nonneg (w64 (k - 1)) 3
 have h2:(IntKind.wrap .u64 (w64 (k - 1))).tmod 3 < 3:=posI_lt (w64 (k - 1)) 3 (by decide)
 generalize (IntKind.wrap .u64 (w64 (k - 1))).tmod 3=x at *
 have:x=0 ∨ x=1 ∨ x=2:=by omega
 rcases this with rfl | rfl | rfl <;> decide
theorem tcL_good:∀ (l:List Col) (i:Nat) (acc:List Col),acc.length=i→i ≤ 4→(∀ c ∈ acc,real c.kind=true)→(tcL i acc l).length ≤ 4∧∀ c ∈ tcL i acc l,real c.kind=true
 | [],i,acc,h,hi,ha=>by unfold tcL;exact ⟨by omega,ha⟩
 | c :: r,i,acc,h,hi,ha=>by
  unfold tcL
  split
  ·refine tcL_good r (i + 1) _ (by simp [h]) (by omega) fun x hx=>?_
   simp only [List.mem_append,List.mem_singleton] at hx
   rcases hx with hx | rfl
   ·exact ha x hx
   ·exact tk_real _
  ·exact ⟨by omega,ha⟩
theorem real_badCol {c:Col} (h:real c.kind=true):badCol c=false:=by
 unfold real at h;unfold badCol
 simp at h ⊢;omega
theorem tameCols_areC (l:List Col):areC (tameCols l)=true:=by
 obtain ⟨h1,h2⟩:=tcL_good l 0 [] rfl (by omega) (fun c hc=>by cases hc)
 unfold tameCols
 split
 ·rfl
 ·rename_i hne
  unfold areC
  have:(tcL 0 [] l).any badCol=false:=by
   rw [List.any_eq_false]
   intro c hc
   rw [real_badCol (h2 c hc)];simp
  rw [this]
  simp
  omega
section
variable {cols:List Col}
theorem colE_has {i:Nat} (h:i < cols.length):Has cols (colE i) cols[i].kind:=by
 have hk:kindE cols (colE i)=(cols[i],true):=by
  rw [kindE_eq,if_neg (by simp [colE,Expr.op]),if_pos (by simp [colE,Expr.op])]
  have hn:(colE (i:Int)).n=i:=rfl
  rw [hn,if_neg (by simp;omega),Int.toNat_natCast]
  simp [List.getD_eq_getElem?_getD,h]
 refine ⟨?_,by rw [okk,hk],by rw [kd,hk]⟩
 rw [wf_eq]
 simp [colE,Expr.args,wfL,nodeR,bareR,Expr.op,Expr.n,Expr.m,Expr.kind,Expr.lit,Expr.rels,argsOf,many]
theorem tipL_has (k:Int):∀ (l:List Col) (i:Nat) (acc:List Expr),cols.drop i=l→(∀ e ∈ acc,Has cols e k)→∀ e ∈ tipL k i acc l,Has cols e k
 | [],i,acc,h,ha=>by unfold tipL;exact ha
 | c :: r,i,acc,h,ha=>by
  have hi:i < cols.length:=by
   rcases Nat.lt_or_ge i cols.length with h' | h'
   ·exact h'
   ·rw [List.drop_eq_nil_of_le h'] at h;cases h
  rw [List.drop_eq_getElem_cons hi] at h
  obtain ⟨rfl,hr⟩:=List.cons.inj h
  unfold tipL
  split
  ·rename_i hk
   have hk:cols[i].kind=k:=by simpa using hk
   refine tipL_has k r (i + 1) _ hr fun e he=>?_
   simp only [List.mem_append,List.mem_cons,List.mem_singleton,List.not_mem_nil,or_false] at he
   rcases he with he | he | he
   ·exact ha e he
   ·rw [he,← hk];exact colE_has hi
   ·rw [he,← hk];exact colE_has hi
  ·exact tipL_has k r (i + 1) acc hr ha
theorem piece_ok (c:UInt8):∀ j (h:j < (piece c).size),badByte ((piece c)[j]'h)=false:=by
 obtain ⟨h1,h2⟩:=byte3 c
 unfold piece
 generalize (c.toNat:Int).tmod 3=k at h1 h2
 have h3:k=0 ∨ k=1 ∨ k=2:=by omega
 rcases h3 with rfl | rfl | rfl
 ·intro j h
  have hj:j=0:=by have:j < 1:=h;omega
  subst hj;rfl
 ·intro j h
  have hj:j=0:=by have:j < 1:=h;omega
  subst hj;rfl
 ·intro j h
  have hj:j=0:=by have:j < 1:=h;omega
  subst hj;rfl
theorem printable_app {x y:ByteArray} (hx:printable x=true) (hy:∀ j (h:j < y.size),badByte (y[j]'h)=false):printable (x ++ y)=true:=by
 rw [printable_iff] at hx ⊢
 intro j h
 by_cases hj:j < x.size
 ·rw [ByteArray.getElem_append_left hj];exact hx j hj
 ·rw [ByteArray.getElem_append_right (by omega)];exact hy _ _
theorem tameTxt_ok (s:ByteArray):∀ (d i:Nat) (acc:ByteArray),3 - i ≤ d→acc.size ≤ i→i ≤ 3→printable acc=true→printable (tameTxt s i acc)=true∧(tameTxt s i acc).size ≤ 3
 | 0,i,acc,hd,ha,hi,hp=>by
  rw [tameTxt,dif_neg (by omega)]
  exact ⟨hp,by omega⟩
 | d + 1,i,acc,hd,ha,hi,hp=>by
  rw [tameTxt]
  split
  ·rename_i h
   refine tameTxt_ok s d (i + 1) _ (by omega) ?_ (by omega) (printable_app hp (piece_ok _))
   rw [ByteArray.size_append,piece_size];omega
  ·exact ⟨hp,by omega⟩
theorem printable_nil:printable ⟨#[]⟩=true:=(printable_iff _).2 fun j h=>absurd h (Nat.not_lt_zero j)
theorem right_txt {t:ByteArray} (h1:printable t=true) (h2:t.size ≤ 3):rightV (textW t)=true:=by
 have h:rightV (textW t)=(((0:Int) == 0 && decide ((t.size:Int) ≤ 200)) && printable t):=rfl
 rw [h,h1,decide_eq_true (by omega)]
 rfl
theorem tameAs_right (v:Val) (k:Int) (hk:real k=true):rightV (tameAs v ⟨k,true⟩)=true∧((tameAs v ⟨k,true⟩).kind=0 ∨ (tameAs v ⟨k,true⟩).kind=k):=by
 unfold tameAs
 split
 ·exact ⟨right_null,.inl rfl⟩
 split
 ·rename_i h;simp at h;exact ⟨right_bool _,.inr h.symm⟩
 split
 ·rename_i h
  simp at h
  obtain ⟨h1,h2⟩:=tameTxt_ok v.text 3 0 ⟨#[]⟩ (by omega) (by decide) (by omega) printable_nil
  exact ⟨right_txt h1 h2,.inr h.symm⟩
 have hk1:k=1:=by
  rename_i n2 n3
  simp at n2 n3
  simp [real] at hk
  omega
 split
 ·exact ⟨right_int _,.inr hk1.symm⟩
 ·exact ⟨right_int _,.inr hk1.symm⟩
theorem tipV_has (v:Val) (k:Int) (hk:real k=true):Has cols (tipV v k) k:=by
 obtain ⟨h1,h2⟩:=tameAs_right v k hk
 unfold tipV
 split
 ·exact has_lit hk right_null (.inl rfl)
 ·rename_i h0
  simp at h0
  have h3:=h2.resolve_left h0
  rw [h3]
  exact has_lit hk h1 (.inr h3)
theorem tipE_has (raw:Expr) (k:Int) (hk:real k=true):Has cols (tipE raw cols k) k:=by
 unfold tipE
 split
 ·exact tipL_has k cols 0 [] rfl (fun e he=>by cases he) _ (List.getElem_mem _)
 ·exact tipV_has _ k hk
def grNb (b op:Int):Int:=
 if op == 9 || op == 21 || op == 23 || op == 11 || op == 22 then 1 else if op == 19 || op == 20 || op == 25 then w64 (2 + b) else if op == 24 then w64 (3 + w64 (2 * b)) else 2
def grKb (m op k:Int):Int:=
 if op == 11 then 3 else if op == 22 || op == 12 || op == 13 || op == 14 || op == 15 || op == 16 || op == 17 || op == 18 then w64 (1 + m) else k
def growOk (k:Int) (q:Nat) (b m:Int):Bool:=
 let op:=opT k q
 let n:=grNb b op
 let ks:=(List.range n.toNat).map fun i=>kindAt op n (grKb m op k) i
 decide (4 ≤ op) && decide (op ≤ 25) && many op (n.toNat:Nat) && sig op ks k && ks.all real
theorem grow_all:([1,2,3].all fun k=>(List.range 16).all fun q=>[0,1].all fun b=>[0,1,2].all fun m=>growOk k q b m)=true:=by decide +kernel
theorem growE_has (f:Expr→Int→Expr) (raw:Expr) (k:Int) (hk:real k=true) (hf:∀ r k',real k'=true→Has cols (f r k') k'):Has cols (growE f raw (opT k (posI raw.op 16).toNat) k) k:=by
 have hq:=posI_nonneg raw.op 16
 have hq':=posI_lt raw.op 16 (by decide)
 have hb:=posI_nonneg raw.n 2
 have hb':=posI_lt raw.n 2 (by decide)
 have hm:=posI_nonneg raw.m 3
 have hm':=posI_lt raw.m 3 (by decide)
 have hN:∀ op,grN raw op=grNb (posI raw.n 2) op:=fun op=>rfl
 have hK:∀ op,grK raw op k=grKb (posI raw.m 3) op k:=fun op=>rfl
 have h:=grow_all
 simp only [List.all_eq_true] at h
 have hkm:k ∈ [1,2,3]:=by simp [real] at hk;simp;omega
 have hbm:posI raw.n 2 ∈ [0,1]:=by simp;omega
 have hmm:posI raw.m 3 ∈ [0,1,2]:=by simp;omega
 have h:=h k hkm (posI raw.op 16).toNat (by simp;omega) _ hbm _ hmm
 unfold growE
 rw [hN,hK]
 simp only [growOk,Bool.and_eq_true,decide_eq_true_eq] at h
 obtain ⟨⟨⟨⟨h1,h2⟩,h3⟩,h4⟩,h5⟩:=h
 generalize opT k (posI raw.op 16).toNat=op at *
 generalize grNb (posI raw.n 2) op=n at *
 generalize grKb (posI raw.m 3) op k=kk at *
 have hreal:∀ i ∈ List.range n.toNat,real (kindAt op n kk i)=true:=fun i hi=>List.all_eq_true.1 h5 _ (List.mem_map_of_mem (f:=fun i=>kindAt op n kk i) hi)
 have hhas:∀ i ∈ List.range n.toNat,Has cols (f (argN raw i) (kindAt op n kk i)) (kindAt op n kk i):=fun i hi=>hf _ _ (hreal i hi)
 refine has_op h1 h2 (by simpa using h3) (fun a ha=>?_) ?_
 ·obtain ⟨i,hi,rfl⟩:=List.mem_map.1 ha
  have:=hhas i hi
  rw [this.kind];exact this
 ·rw [List.map_map]
  have:(List.range n.toNat).map (kd cols ∘ fun i=>f (argN raw i) (kindAt op n kk i))=(List.range n.toNat).map fun i=>kindAt op n kk i:=List.map_congr_left fun i hi=>(hhas i hi).kind
  rw [this];exact h4
theorem tameE_has:∀ (d:Nat) (raw:Expr) (k:Int),real k=true→Has cols (tameE cols d raw k) k
 | 0,raw,k,hk=>tipE_has raw k hk
 | d + 1,raw,k,hk=>by
  unfold tameE
  split
  ·exact tipE_has raw k hk
  ·exact growE_has _ raw k hk fun r k' hk'=>tameE_has d r k' hk'
theorem tipE_size (raw:Expr) (k:Int):deep (tipE raw cols k)=1∧nodes (tipE raw cols k)=1:=by
 have hl:∀ (kk:Int) (v:Val),deep (litE kk v)=1∧nodes (litE kk v)=1:=fun _ _=>⟨rfl,by rw [nodes_eq];rfl⟩
 unfold tipE
 split
 ·rename_i h
  have:∀ (l:List Col) (i:Nat) (acc:List Expr),(∀ e ∈ acc,∃ j,e=colE j)→∀ e ∈ tipL k i acc l,∃ j,e=colE j:=by
   intro l
   induction l with
   | nil=>intro i acc h;exact h
   | cons c r ih=>
    intro i acc h
    unfold tipL
    split
    ·refine ih _ _ fun e he=>?_
     simp only [List.mem_append,List.mem_cons,List.mem_singleton,List.not_mem_nil,or_false] at he
     rcases he with he | he | he
     ·exact h e he
     ·exact ⟨_,he⟩
     ·exact ⟨_,he⟩
    ·exact ih _ _ h
  obtain ⟨j,hj⟩:=this cols 0 [] (fun e he=>by cases he) _ (List.getElem_mem h)
  rw [hj]
  exact ⟨rfl,by rw [nodes_eq];rfl⟩
 ·unfold tipV
  split <;> exact hl _ _
theorem tameE_deep:∀ (d:Nat) (raw:Expr) (k:Int),deep (tameE cols d raw k) ≤ d + 1
 | 0,raw,k=>by rw [tameE,(tipE_size raw k).1];exact Nat.le_refl _
 | d + 1,raw,k=>by
  unfold tameE
  split
  ·rw [(tipE_size raw k).1];omega
  ·unfold growE
   rw [deep_opE]
   have:deeps ((List.range (grN raw (opT k (posI raw.op 16).toNat)).toNat).map fun i=>tameE cols d (argN raw i) (kindAt (opT k (posI raw.op 16).toNat) (grN raw (opT k (posI raw.op 16).toNat)) (grK raw (opT k (posI raw.op 16).toNat) k) i)) ≤ d + 1:=by
    refine deeps_le fun a ha=>?_
    obtain ⟨i,_,rfl⟩:=List.mem_map.1 ha
    exact tameE_deep d _ _
   omega
theorem form_of {e:Expr} (hw:wf e=true) (hd:deep e ≤ 24) (hn:nodes e ≤ 400):form e=true:=by
 unfold form
 rw [show shaped 24 e=true from (@shaped_ok e 24 (by omega)).2 ⟨wf_allN hw,hd⟩]
 simpa using hn
theorem tip_form (raw:Expr) (k:Int) (hk:real k=true):Has cols (tipE raw cols k) k∧form (tipE raw cols k)=true:=by
 have hh:=tipE_has (cols:=cols) raw k hk
 have hs:=tipE_size (cols:=cols) raw k
 exact ⟨hh,form_of hh.wf (by omega) (by omega)⟩
theorem tameLoop_has (raw:Expr) (k:Int) (hk:real k=true) (D:Nat) (hD:D ≤ 20):∀ (m i:Nat),D - i ≤ m→Has cols (tameLoop cols raw k D i) k∧form (tameLoop cols raw k D i)=true
 | 0,i,h=>by
  rw [tameLoop,dif_neg (by omega),show D - i=0 by omega]
  exact tip_form raw k hk
 | m + 1,i,h=>by
  rw [tameLoop]
  split
  ·split
   ·exact tameLoop_has raw k hk D hD m (i + 1) (by omega)
   ·rename_i hi hc
    have hh:=tameE_has (cols:=cols) (D - i) raw k hk
    have hd:=tameE_deep (cols:=cols) (D - i) raw k
    refine ⟨hh,form_of hh.wf (by omega) ?_⟩
    simp only [Bool.and_eq_true,decide_eq_true_eq,not_and] at hc
    by_cases h1:((D - i:Nat):Int) > 1
    ·have:=hc h1;omega
    ·rw [show D - i=1 by omega]
     unfold tameE
     rw [if_pos (.inl rfl)]
     have hs:=tipE_size (cols:=cols) raw k
     omega
  ·rename_i hi
   rw [show D - i=0 by omega]
   exact tip_form raw k hk
theorem tameIn_has (raw:Expr) (k:Int) (hk:real k=true) (D:Nat) (hD:D ≤ 20):Has cols (tameIn cols raw k D) k∧form (tameIn cols raw k D)=true:=by
 unfold tameIn
 split
 ·rename_i h
  simp only [Bool.and_eq_true,decide_eq_true_eq,beq_iff_eq] at h
  obtain ⟨⟨h1,h2⟩,h3,h4⟩:=h
  have hw:=shaped_wf raw h1
  refine ⟨⟨hw,h3,h4⟩,form_of hw ?_ (by omega)⟩
  have:=((@shaped_ok raw 8 (by omega)).1 h1).2
  omega
 ·exact tameLoop_has raw k hk D hD D 0 (by omega)
end
theorem oneE_tame (raw:Expr) (rawCols:List Col) (k:Int) (hk:real k=true):Has (oneC rawCols true) (oneE raw rawCols k true) k∧form (oneE raw rawCols k true)=true∧areC (oneC rawCols true)=true:=
 ⟨(tameIn_has _ k hk 5 (by decide)).1,(tameIn_has _ k hk 5 (by decide)).2,tameCols_areC _⟩
theorem has_bad {e:Expr} {cols:List Col} {k:Int} (h:Has cols e k) (hf:form e=true) (hc:areC cols=true) (t:Bool) (ht:t=true→k=2):badE e cols t=0:=by
 unfold badE
 rw [← areC_eq,hc,hf]
 have hok:=h.ok
 unfold okk at hok
 have hkk:=h.kind
 unfold kd at hkk
 rw [hok,hkk]
 cases t
 ·rfl
 ·rw [ht rfl];rfl
end Go.Proofs.YtgiedlcjlalpcaaGreat
namespace Go.Proofs.YtgiedlcjlalpcaaGreat
open Go.Abs
section
variable {cols:List Col}
theorem simp_idem {e y:Expr} (h:Simp cols e y):Simp cols y y:=by
 induction h with
 | stay e xs hl h hs ih=>
  have:=Simp.stay (cols:=cols) (setA e xs) xs (by rw [setA_args]) (fun i h1 h2=>by
   have h3:∀ (l:List Expr) (hl:l=xs) (hi:i < l.length),Simp cols l[i] xs[i]:=by
    intro l hl' hi
    subst hl'
    exact ih i (by omega) h2
   exact h3 _ (setA_args e xs) h1) (by exact hs)
  exact this
 | go e xs y hl h hs hy ih ihy=>exact ihy
theorem truth_self (b:Bool):Simp cols (truthE b) (truthE b):=Simp.stay (truthE b) [] rfl (fun i h=>by cases h) rfl
theorem cond_idem {e y:Expr} (h:CondS cols e y):Simp cols y y∧CondS cols y y:=by
 induction h with
 | lit e s hs h=>
  have h1:=truth_self (cols:=cols) (isTrue s)
  refine ⟨h1,?_⟩
  have h2:=CondS.lit (truthE (isTrue s)) _ h1 rfl
  have h3:isTrue (truthE (isTrue s))=isTrue s:=by cases isTrue s <;> decide
  rw [h3] at h2;exact h2
 | istrue e s y a hs h ha hy ih=>exact ih
 | coal e s y a b hs h ha hb hy ih=>exact ih
 | coal1 e n m k v a b c l r hs=>exact ⟨simp_idem hs,.coal1 _ n m k v a b c l r (simp_idem hs)⟩
 | coal2 e n m k v a b r hs hb=>exact ⟨simp_idem hs,.coal2 _ n m k v a b r (simp_idem hs) hb⟩
 | other e s hs h3 h23 h19 h20 h25=>exact ⟨simp_idem hs,.other s s (simp_idem hs) h3 h23 h19 h20 h25⟩
 | same e s xs hs hop hl h hq ih=>exact ⟨simp_idem hs,.same s s xs (simp_idem hs) hop hl h hq⟩
 | go e s y xs hs hop hl h hq hy ih ihy=>exact ihy
theorem again_ok {e:Expr} {k:Int} (hk:Has cols e k) (hd:deep e ≤ 24) (hf:(fitE 400 1 e).1=true):form e=true∧bareE e∧e.size ≤ 500000:=by
 rw [fit_nodes hk.wf hd,decide_eq_true_eq] at hf
 obtain ⟨_,_,_,h4⟩:=nodes_deep (e:=e) (by omega)
 have:=h4 hf
 exact ⟨form_of hk.wf hd hf,wf_bare hk.wf,by omega⟩
end
end Go.Proofs.YtgiedlcjlalpcaaGreat
namespace Go.Proofs.YtgiedlcjlalpcaaGreat
open Go.Abs
mutual
def evalE (row:List Val):Expr→Val
 | .mk op n m k v args rels=>if op == 1 then row.getD n.toNat nullW else valueV (.mk op n m k v args rels) (evalL row args)
def evalL (row:List Val):List Expr→List Val
 | []=>[]
 | a :: r=>evalE row a :: evalL row r
end
theorem evalL_map (row:List Val):∀ (l:List Expr),evalL row l=l.map (evalE row)
 | []=>rfl
 | a :: r=>by simp [evalL,evalL_map row r]
theorem evalE_eq (row:List Val) (e:Expr):evalE row e=if e.op == 1 then row.getD e.n.toNat nullW else valueV e (e.args.map (evalE row)):=by
 cases e
 simp only [evalE,evalL_map];rfl
theorem evalE_op (row:List Val) {e:Expr} (h:e.op ≠ 1):evalE row e=valueV e (e.args.map (evalE row)):=by
 rw [evalE_eq,if_neg (by simpa using h)]
theorem valueV_of {e e':Expr} (h:e.op=e'.op) (h3:e.lit=e'.lit) (l:List Val):valueV e l=valueV e' l:=by
 unfold valueV
 rw [h,h3]
theorem valueV_op {e:Expr} {op:Int} (h:e.op=op) (h3:op ≠ 3) (l:List Val):valueV e l=valueV (opE op []) l:=by
 unfold valueV
 rw [h]
 have:(op == 3)=false:=by simpa using h3
 simp [opE,Expr.op,this]
def FitR (cols:List Col) (row:List Val):Prop:=∀ i (h:i < cols.length),okV cols[i].kind (row.getD i nullW)∧(cols[i].null=false→(row.getD i nullW).kind ≠ 0)
section
variable {cols:List Col} {row:List Val}
theorem has_col' {e:Expr} {k:Int} (h:Has cols e k) (h1:e.op=1):∃ j:Nat,∃ hj:j < cols.length,e.n=j∧kindE cols e=(cols[j],true)∧k=cols[j].kind:=by
 have hn0:=nodeR_col (wf_node h.wf) (by simp [h1])
 obtain ⟨j,hj⟩:=Int.eq_ofNat_of_zero_le hn0
 have hok:=h.ok
 have hke:kindE cols e=if decide (e.n ≥ (cols.length:Int)) then (zeroC,false) else (cols.getD e.n.toNat zeroC,true):=by
  rw [kindE_eq,if_neg (by simp [h1]),if_pos (by simp [h1])]
 unfold okk at hok
 rw [hke] at hok
 split at hok
 ·cases hok
 ·rename_i hlt
  simp only [decide_eq_true_eq] at hlt
  have hlt':j < cols.length:=by omega
  have hg:kindE cols e=(cols[j],true):=by
   rw [hke,if_neg (by simp;omega),hj,Int.toNat_natCast]
   simp [List.getD_eq_getElem?_getD,hlt']
  refine ⟨j,hlt',hj,hg,?_⟩
  have:=h.kind
  unfold kd at this
  rw [hg] at this
  exact this.symm
theorem no_two {e:Expr} {k:Int} (h:Has cols e k):e.op ≠ 2:=by
 intro h2
 have hok:=h.ok
 unfold okk at hok
 rw [kindE_eq,if_pos (by simp [h2])] at hok
 cases hok
theorem size_mem {e a:Expr} (h:a ∈ e.args):a.size < e.size:=by
 obtain ⟨i,hi,rfl⟩:=List.getElem_of_mem h
 exact Expr.size_get hi
def litA (cols:List Col) (row:List Val) (e:Expr):Expr:=setA e (e.args.map fun a=>litE (kd cols a) (evalE row a))
theorem litA_has {e:Expr} {k:Int} (h:Has cols e k) (h4:4 ≤ e.op) (hv:∀ a ∈ e.args,okV (kd cols a) (evalE row a)):Has cols (litA cols row e) k:=by
 have hi:=nodeR_inner (wf_node h.wf) (by omega) (by omega) (by omega)
 obtain ⟨ha,hs⟩:=has_elim h h4
 have hl:∀ a ∈ e.args,Has cols (litE (kd cols a) (evalE row a)) (kd cols a):=fun a h1=>has_lit (hv a h1).1 (hv a h1).2.1 (hv a h1).2.2
 refine has_set h.wf h4 (by rw [List.length_map];exact hi.many) (fun b hb=>?_) ?_
 ·obtain ⟨a,h1,rfl⟩:=List.mem_map.1 hb
  have:=hl a h1
  rw [this.kind];exact this
 ·rw [List.map_map]
  have:e.args.map (kd cols ∘ fun a=>litE (kd cols a) (evalE row a))=e.args.map (kd cols):=List.map_congr_left fun a h1=>(hl a h1).kind
  rw [this];exact hs
theorem litA_val (e:Expr) (h1:e.op ≠ 1):valueV (litA cols row e) ((litA cols row e).args.map Expr.lit)=evalE row e:=by
 rw [evalE_op row h1]
 have:(litA cols row e).args.map Expr.lit=e.args.map (evalE row):=by
  show (e.args.map fun a=>litE (kd cols a) (evalE row a)).map Expr.lit=_
  rw [List.map_map];rfl
 rw [this]
 exact valueV_of rfl rfl _
theorem eval_ok (hf:FitR cols row):∀ (n:Nat) {e:Expr},e.size ≤ n→∀ {k:Int},Has cols e k→okV k (evalE row e)
 | 0,e,hn,k,hk=>by
  obtain ⟨op,n,m,kind,lit,args,rels⟩:=e
  simp [Expr.size] at hn
 | n + 1,e,hn,k,hk=>by
  by_cases h1:e.op=1
  ·obtain ⟨j,hj,hn',_,hkk⟩:=has_col' hk h1
   rw [evalE_eq,if_pos (by simp [h1]),hn',Int.toNat_natCast,hkk]
   exact (hf j hj).1
  by_cases h3:e.op=3
  ·rw [evalE_op row h1]
   unfold valueV
   rw [if_pos (by simp [h3])]
   exact okV_lit hk h3
  have h2:=no_two hk
  have hi:=nodeR_inner (wf_node hk.wf) h1 h2 h3
  have hv:∀ a ∈ e.args,okV (kd cols a) (evalE row a):=fun a ha=>eval_ok hf n (by have:=size_mem ha;omega) ((has_elim hk hi.lo).1 a ha)
  have:=value_right (litA_has (row:=row) hk hi.lo hv) hi.lo (fun a ha=>by
   obtain ⟨b,_,rfl⟩:=List.mem_map.1 ha;rfl)
  rw [litA_val e h1] at this
  exact this
theorem eval_kind (hf:FitR cols row) {e:Expr} {k:Int} (h:Has cols e k):okV k (evalE row e):=eval_ok hf e.size (Nat.le_refl _) h
theorem anyNull_iff:∀ (l:List Col) (b:Bool),anyNull b l=(b || l.any fun c=>c.null)
 | [],b=>by simp [anyNull]
 | c :: r,b=>by rw [anyNull,anyNull_iff r,List.any_cons];cases b <;> simp
theorem everyNull_iff:∀ (l:List Col) (b:Bool),everyNull b l=(b && l.all fun c=>c.null)
 | [],b=>by simp [everyNull]
 | c :: r,b=>by rw [everyNull,everyNull_iff r,List.all_cons];cases b <;> simp
theorem anyNullV_iff:∀ (l:List Val),anyNullV l=l.any fun v=>v.kind == 0
 | []=>rfl
 | v :: r=>by rw [anyNullV,anyNullV_iff r,List.any_cons];cases (v.kind == 0) <;> rfl
theorem someV_iff (v:Val):∀ (l:List Val),someV v l=l.any fun a=>a == v
 | []=>rfl
 | a :: r=>by rw [someV,someV_iff v r,List.any_cons];cases (a == v) <;> rfl
theorem strictV_some (op:Int) (l:List Val) (h:op ≠ 7) (h8:op ≠ 8):(strictV op l).kind ≠ 0:=by
 unfold strictV
 dsimp only
 rw [if_neg (show ¬ ((op == 7 || op == 8)=true) by simp [h,h8])]
 repeat' split
 all_goals (first | (show (1:Int) ≠ 0;decide) | (show (2:Int) ≠ 0;decide) | (show (3:Int) ≠ 0;decide))
theorem coalV_some:∀ (l:List Val),(∃ v ∈ l,v.kind ≠ 0)→(coalV l).kind ≠ 0
 | [],h=>by obtain ⟨v,hv,_⟩:=h;cases hv
 | v :: r,h=>by
  rw [coalV]
  split
  ·rename_i hv;simpa using hv
  ·rename_i hv
   refine coalV_some r ?_
   obtain ⟨w,hw,hk⟩:=h
   rcases List.mem_cons.1 hw with rfl | hw
   ·simp at hv;exact absurd hv hk
   ·exact ⟨w,hw,hk⟩
def oddAll (q:Expr→Prop):List Expr→Prop
 | []=>True
 | [v]=>q v
 | _ :: v :: r=>q v∧oddAll q r
theorem caseKinds_null:∀ (n:Nat) (l:List Col) (out:Col) (i:Nat),l.length=2 * n + 1→i % 2=0→(caseKinds out i l).2=true→(caseKinds out i l).1.null=false→out.null=false∧∀ j,j < n→(l.getD (2 * j + 1) zeroC).null=false
 | 0,l,out,i,hl,hi,hok,hn=>by
  match l,hl with
  | [c],_=>exact ⟨hn,fun j hj=>by omega⟩
 | n + 1,l,out,i,hl,hi,hok,hn=>by
  match l,hl with
  | a :: b :: c :: r,hl=>
   have e0:(((i:Nat):Int).tmod 2)=0:=by show (((i % 2:Nat)):Int)=0;omega
   have e1:(((i + 1:Nat):Int).tmod 2)=1:=by show ((((i + 1) % 2:Nat)):Int)=1;omega
   simp only [caseKinds,e0,e1] at hok hn
   split at hok
   ·cases hok
   rename_i h1
   rw [if_neg h1] at hn
   rw [if_neg (by decide)] at hok hn
   split at hok
   ·cases hok
   rename_i h2
   rw [if_neg h2] at hn
   rw [if_pos (by decide)] at hok hn
   obtain ⟨g1,g2⟩:=caseKinds_null n (c :: r) _ (i + 1 + 1) (by simp at hl ⊢;omega) (by omega) hok hn
   simp at g1
   refine ⟨g1.1,fun j hj=>?_⟩
   cases j with
   | zero=>exact g1.2
   | succ j=>
    have:=g2 j (by omega)
    rw [show 2 * (j + 1) + 1=(2 * j + 1) + 1 + 1 by omega]
    simpa using this
theorem caseV_some:∀ (n:Nat) (l:List Val) (last:Val),l.length=2 * n + 1→last.kind ≠ 0→(∀ j,j < n→(l.getD (2 * j + 1) nullW).kind ≠ 0)→(caseV last l).kind ≠ 0
 | 0,l,last,hl,h0,h=>by
  match l,hl with
  | [c],_=>exact h0
 | n + 1,l,last,hl,h0,h=>by
  match l,hl with
  | a :: b :: r,hl=>
   rw [caseV]
   split
   ·exact h 0 (by omega)
   ·refine caseV_some n r last (by simp at hl;omega) h0 fun j hj=>?_
    have:=h (j + 1) (by omega)
    rw [show 2 * (j + 1) + 1=(2 * j + 1) + 1 + 1 by omega] at this
    simpa using this
theorem sure_eval (hf:FitR cols row):∀ (n:Nat) {e:Expr},e.size ≤ n→∀ {k:Int},Has cols e k→nullE cols e=false→(evalE row e).kind ≠ 0
 | 0,e,hn,k,hk,hs=>by
  obtain ⟨op,n,m,kind,lit,args,rels⟩:=e
  simp [Expr.size] at hn
 | n + 1,e,hn,k,hk,hs=>by
  unfold nullE at hs
  by_cases h1:e.op=1
  ·obtain ⟨j,hj,hn',hke,hkk⟩:=has_col' hk h1
   rw [evalE_eq,if_pos (by simp [h1]),hn',Int.toNat_natCast]
   rw [hke] at hs
   exact (hf j hj).2 hs
  rw [evalE_op row h1]
  by_cases h3:e.op=3
  ·unfold valueV
   rw [if_pos (by simp [h3])]
   rw [kind_lit cols e h3,if_pos (by rw [(nodeR_lit (wf_node hk.wf) h3).2.2.2.2.2.1];rfl)] at hs
   simpa using hs
  have h2:=no_two hk
  have hi:=nodeR_inner (wf_node hk.wf) h1 h2 h3
  obtain ⟨ha,hsig⟩:=has_elim hk hi.lo
  have hall:e.args.all (okk cols)=true:=by rw [List.all_eq_true];exact fun a h=>(ha a h).ok
  have hke:kindE cols e=combined e (e.args.map fun a=>(kindE cols a).1):=by rw [kindE_op cols e (by have:=hi.lo;omega),if_pos hall]
  have hok:=hk.ok
  unfold okk at hok
  rw [hke] at hs hok
  have ih:∀ a ∈ e.args,nullE cols a=false→(evalE row a).kind ≠ 0:=fun a h g=>sure_eval hf n (by have:=size_mem h;omega) (ha a h) g
  have hhi:=hi.hi
  have hlo:=hi.lo
  have any:anyNull false (e.args.map fun a=>(kindE cols a).1)=false→∀ a ∈ e.args,(evalE row a).kind ≠ 0:=by
   intro h a hm
   rw [anyNull_iff,Bool.false_or,List.any_eq_false] at h
   refine ih a hm ?_
   have:=h _ (List.mem_map_of_mem (f:=fun a=>(kindE cols a).1) hm)
   unfold nullE
   simpa using this
  have anyV:(∀ a ∈ e.args,(evalE row a).kind ≠ 0)→anyNullV (e.args.map (evalE row))=false:=by
   intro h
   rw [anyNullV_iff,List.any_eq_false]
   intro v hv
   obtain ⟨a,hm,rfl⟩:=List.mem_map.1 hv
   simpa using h a hm
  have strict:e.op ≤ 17→anyNull false (e.args.map fun a=>(kindE cols a).1)=false→e.op ≠ 7→e.op ≠ 8→(valueV e (e.args.map (evalE row))).kind ≠ 0:=by
   intro h17 hn h7 h8
   unfold valueV
   rw [if_neg (by simp;omega),if_neg (by simp;omega),if_neg (by simp;omega),if_neg (by simp;omega),if_neg (by simp;omega),if_neg (by simp;omega),if_neg (by simp;omega),if_neg (by simp;omega),if_neg (by simp;omega)]
   rw [anyV (any hn),if_neg (by simp)]
   exact strictV_some _ _ h7 h8
  have cases:e.op=7 ∨ e.op=8 ∨ (e.op ≤ 17∧e.op ≠ 7∧e.op ≠ 8) ∨ e.op=18 ∨ e.op=19 ∨ e.op=20 ∨ e.op=21 ∨ e.op=22 ∨ e.op=23 ∨ e.op=24 ∨ e.op=25:=by omega
  rcases cases with h | h | h | h | h | h | h | h | h | h | h
  ·simp [combined,h] at hs
  ·simp [combined,h] at hs
  ·refine strict h.1 ?_ h.2.1 h.2.2
   have:e.op=4 ∨ e.op=5 ∨ e.op=6 ∨ e.op=9 ∨ e.op=10 ∨ e.op=11 ∨ e.op=12 ∨ e.op=13 ∨ e.op=14 ∨ e.op=15 ∨ e.op=16 ∨ e.op=17:=by omega
   rcases this with h | h | h | h | h | h | h | h | h | h | h | h <;> (simp only [combined,h] at hs;exact hs)
  ·unfold valueV
   simp [h,boolW]
  ·have hs':anyNull false (e.args.map fun a=>(kindE cols a).1)=false:=by simp only [combined,h] at hs;exact hs
   have hv:=any hs'
   unfold valueV
   simp only [h]
   show (andV _).kind ≠ 0
   have:someV nullW (e.args.map (evalE row))=false:=by
    rw [someV_iff,List.any_eq_false]
    intro v hv'
    obtain ⟨a,ha',rfl⟩:=List.mem_map.1 hv'
    have:=hv a ha'
    simp
    intro hq;rw [hq] at this;exact this rfl
   unfold andV
   rw [this]
   split <;> (show (2:Int) ≠ 0;decide)
  ·have hs':anyNull false (e.args.map fun a=>(kindE cols a).1)=false:=by simp only [combined,h] at hs;exact hs
   have hv:=any hs'
   unfold valueV
   simp only [h]
   show (orVs _).kind ≠ 0
   have:someV nullW (e.args.map (evalE row))=false:=by
    rw [someV_iff,List.any_eq_false]
    intro v hv'
    obtain ⟨a,ha',rfl⟩:=List.mem_map.1 hv'
    have:=hv a ha'
    simp
    intro hq;rw [hq] at this;exact this rfl
   unfold orVs
   rw [this]
   split <;> (show (2:Int) ≠ 0;decide)
  ·have hs':anyNull false (e.args.map fun a=>(kindE cols a).1)=false:=by simp only [combined,h] at hs;exact hs
   have hv:=any hs'
   obtain ⟨a,hab⟩:=args1 hi (by omega)
   unfold valueV
   simp only [h,hab]
   show (notV (evalE row a)).kind ≠ 0
   have:=hv a (by simp [hab])
   unfold notV
   split
   ·rename_i h0;simp at h0;exact absurd h0 this
   ·show (2:Int) ≠ 0;decide
  ·unfold valueV
   simp [h,boolW]
  ·unfold valueV
   simp [h,boolW]
  ·obtain ⟨h3',hodd⟩:=args_case hi h
   obtain ⟨q,hq⟩:∃ q,e.args.length=2 * q + 1:=⟨e.args.length / 2,by omega⟩
   have hs':(caseKinds ((e.args.map fun a=>(kindE cols a).1).getLastD zeroC) 0 (e.args.map fun a=>(kindE cols a).1)).1.null=false:=by simp only [combined,h] at hs;exact hs
   have hok':(caseKinds ((e.args.map fun a=>(kindE cols a).1).getLastD zeroC) 0 (e.args.map fun a=>(kindE cols a).1)).2=true:=by simp only [combined,h] at hok;exact hok
   obtain ⟨g1,g2⟩:=caseKinds_null q _ _ 0 (by simpa using hq) rfl hok' hs'
   have hne:e.args ≠ []:=by intro hh;rw [hh] at hq;simp at hq
   unfold valueV
   simp only [h]
   show (caseV (lastV (e.args.map (evalE row))) _).kind ≠ 0
   refine caseV_some q _ _ (by simpa using hq) ?_ fun j hj=>?_
   ·have hl:=List.getLast_mem hne
    have e1:(e.args.map fun a=>(kindE cols a).1).getLastD zeroC=(kindE cols (e.args.getLast hne)).1:=by
     rw [List.getLastD_eq_getLast?,List.getLast?_map,List.getLast?_eq_some_getLast hne];rfl
    have e2:lastV (e.args.map (evalE row))=evalE row (e.args.getLast hne):=by
     unfold lastV
     rw [List.getLastD_eq_getLast?,List.getLast?_map,List.getLast?_eq_some_getLast hne];rfl
    rw [e2]
    refine ih _ hl ?_
    rw [e1] at g1
    exact g1
   ·have hlt:2 * j + 1 < e.args.length:=by omega
    have:=g2 j hj
    have e1:((e.args.map fun a=>(kindE cols a).1).getD (2 * j + 1) zeroC)=(kindE cols e.args[2 * j + 1]).1:=by simp [List.getD_eq_getElem?_getD,hlt]
    have e2:((e.args.map (evalE row)).getD (2 * j + 1) nullW)=evalE row e.args[2 * j + 1]:=by simp [List.getD_eq_getElem?_getD,hlt]
    rw [e2]
    rw [e1] at this
    exact ih _ (List.getElem_mem hlt) this
  ·have hs':everyNull true (e.args.map fun a=>(kindE cols a).1)=false:=by simp only [combined,h] at hs;exact hs
   rw [everyNull_iff,Bool.true_and,List.all_eq_false] at hs'
   obtain ⟨c,hc,hcn⟩:=hs'
   obtain ⟨a,hm,rfl⟩:=List.mem_map.1 hc
   unfold valueV
   simp only [h]
   show (coalV _).kind ≠ 0
   exact coalV_some _ ⟨evalE row a,List.mem_map_of_mem hm,ih a hm (by unfold nullE;simpa using hcn)⟩
end
end Go.Proofs.YtgiedlcjlalpcaaGreat
namespace Go.Proofs.YtgiedlcjlalpcaaGreat
open Go.Abs
theorem okV_zero {k:Int} {v:Val} (h:okV k v) (h0:v.kind=0):v=nullW:=by
 obtain ⟨_,hr,_⟩:=h
 obtain ⟨k,n,t⟩:=v
 simp only at h0
 subst h0
 simp [rightV,noText] at hr
 obtain ⟨rfl,rfl⟩:=hr
 rfl
theorem okV_two {v:Val} (h:okV 2 v):v=nullW ∨ v=boolW true ∨ v=boolW false:=by
 by_cases h0:v.kind=0
 ·exact .inl (okV_zero h h0)
 ·refine .inr ?_
  obtain ⟨_,hr,hk⟩:=h
  obtain ⟨k,n,t⟩:=v
  have hk:k=2:=hk.resolve_left h0
  subst hk
  simp [rightV,noText] at hr
  obtain ⟨hn,rfl⟩:=hr
  rcases hn with rfl | rfl
  ·exact .inr rfl
  ·exact .inl rfl
theorem okV_one {v:Val} (h:okV 1 v) (h0:v.kind ≠ 0):v=intW v.int:=by
 obtain ⟨_,hr,hk⟩:=h
 obtain ⟨k,n,t⟩:=v
 have hk:k=1:=hk.resolve_left h0
 subst hk
 simp [rightV,noText] at hr
 subst hr
 rfl
theorem okV_three {v:Val} (h:okV 3 v) (h0:v.kind ≠ 0):v=textW v.text∧v.text.size ≤ 200:=by
 obtain ⟨_,hr,hk⟩:=h
 obtain ⟨k,n,t⟩:=v
 have hk:k=3:=hk.resolve_left h0
 subst hk
 simp [rightV] at hr
 obtain ⟨⟨rfl,h2⟩,_⟩:=hr
 exact ⟨rfl,by simp;omega⟩
theorem some_app (v:Val) (l m:List Val):someV v (l ++ m)=(someV v l || someV v m):=by simp [someV_iff]
theorem some_cons (v a:Val) (l:List Val):someV v (a :: l)=(a == v || someV v l):=by simp [someV_iff]
theorem and_if (l:List Val):andV l=if someV (boolW false) l then boolW false else if someV nullW l then nullW else boolW true:=rfl
theorem or_if (l:List Val):orVs l=if someV (boolW true) l then boolW true else if someV nullW l then nullW else boolW false:=rfl
theorem and_false (m:List Val):(andV m == boolW false)=someV (boolW false) m:=by
 rw [and_if]
 cases someV (boolW false) m <;> cases someV nullW m <;> decide
theorem and_null (m:List Val):(andV m == nullW)=(!someV (boolW false) m && someV nullW m):=by
 rw [and_if]
 cases someV (boolW false) m <;> cases someV nullW m <;> decide
theorem or_true (m:List Val):(orVs m == boolW true)=someV (boolW true) m:=by
 rw [or_if]
 cases someV (boolW true) m <;> cases someV nullW m <;> decide
theorem or_null (m:List Val):(orVs m == nullW)=(!someV (boolW true) m && someV nullW m):=by
 rw [or_if]
 cases someV (boolW true) m <;> cases someV nullW m <;> decide
theorem and_splice (l m r:List Val):andV (l ++ andV m :: r)=andV (l ++ m ++ r):=by
 rw [and_if (l ++ andV m :: r),and_if (l ++ m ++ r)]
 simp only [some_app,some_cons,and_false,and_null]
 cases someV (boolW false) l <;> cases someV (boolW false) m <;> cases someV (boolW false) r <;> cases someV nullW l <;> cases someV nullW m <;> cases someV nullW r <;> rfl
theorem or_splice (l m r:List Val):orVs (l ++ orVs m :: r)=orVs (l ++ m ++ r):=by
 rw [or_if (l ++ orVs m :: r),or_if (l ++ m ++ r)]
 simp only [some_app,some_cons,or_true,or_null]
 cases someV (boolW true) l <;> cases someV (boolW true) m <;> cases someV (boolW true) r <;> cases someV nullW l <;> cases someV nullW m <;> cases someV nullW r <;> rfl
theorem some_mem {v:Val} {l:List Val} (h:v ∈ l) (w:Val):(v == w || someV w l)=someV w l:=by
 cases hv:(v == w) with
 | false=>simp
 | true=>
  rw [someV_iff]
  have:(l.any fun a=>a == w)=true:=List.any_eq_true.2 ⟨v,h,hv⟩
  rw [this];rfl
theorem and_drop (l r:List Val) (v:Val) (h:v=boolW true ∨ v ∈ l):andV (l ++ v :: r)=andV (l ++ r):=by
 rw [and_if (l ++ v :: r),and_if (l ++ r)]
 simp only [some_app,some_cons]
 rcases h with rfl | h
 ·have h1:(boolW true == boolW false)=false:=by decide
  have h2:(boolW true == nullW)=false:=by decide
  rw [h1,h2];simp
 ·have h1:=some_mem h (boolW false)
  have h2:=some_mem h nullW
  have e1:(someV (boolW false) l || (v == boolW false || someV (boolW false) r))=(someV (boolW false) l || someV (boolW false) r):=by
   rw [← h1];cases (v == boolW false) <;> cases someV (boolW false) l <;> rfl
  have e2:(someV nullW l || (v == nullW || someV nullW r))=(someV nullW l || someV nullW r):=by
   rw [← h2];cases (v == nullW) <;> cases someV nullW l <;> rfl
  rw [e1,e2]
theorem or_drop (l r:List Val) (v:Val) (h:v=boolW false ∨ v ∈ l):orVs (l ++ v :: r)=orVs (l ++ r):=by
 rw [or_if (l ++ v :: r),or_if (l ++ r)]
 simp only [some_app,some_cons]
 rcases h with rfl | h
 ·have h1:(boolW false == boolW true)=false:=by decide
  have h2:(boolW false == nullW)=false:=by decide
  rw [h1,h2];simp
 ·have h1:=some_mem h (boolW true)
  have h2:=some_mem h nullW
  have e1:(someV (boolW true) l || (v == boolW true || someV (boolW true) r))=(someV (boolW true) l || someV (boolW true) r):=by
   rw [← h1];cases (v == boolW true) <;> cases someV (boolW true) l <;> rfl
  have e2:(someV nullW l || (v == nullW || someV nullW r))=(someV nullW l || someV nullW r):=by
   rw [← h2];cases (v == nullW) <;> cases someV nullW l <;> rfl
  rw [e1,e2]
theorem and_single {v:Val} (h:okV 2 v):andV [v]=v:=by rcases okV_two h with rfl | rfl | rfl <;> decide
theorem or_single {v:Val} (h:okV 2 v):orVs [v]=v:=by rcases okV_two h with rfl | rfl | rfl <;> decide
theorem and_has {l:List Val} (h:boolW false ∈ l):andV l=boolW false:=by
 rw [and_if,someV_iff,if_pos (List.any_eq_true.2 ⟨_,h,by decide⟩)]
theorem or_has {l:List Val} (h:boolW true ∈ l):orVs l=boolW true:=by
 rw [or_if,someV_iff,if_pos (List.any_eq_true.2 ⟨_,h,by decide⟩)]
theorem not_not {v:Val} (h:okV 2 v):notV (notV v)=v:=by rcases okV_two h with rfl | rfl | rfl <;> decide
theorem some_not {l:List Val} (h:∀ v ∈ l,okV 2 v):someV nullW (l.map notV)=someV nullW l∧someV (boolW true) (l.map notV)=someV (boolW false) l∧someV (boolW false) (l.map notV)=someV (boolW true) l:=by
 induction l with
 | nil=>exact ⟨rfl,rfl,rfl⟩
 | cons a r ih=>
  obtain ⟨i1,i2,i3⟩:=ih fun v hv=>h v (by simp [hv])
  simp only [List.map_cons,some_cons,i1,i2,i3]
  have h1:(notV a == nullW)=(a == nullW)∧(notV a == boolW true)=(a == boolW false)∧(notV a == boolW false)=(a == boolW true):=by
   rcases okV_two (h a (by simp)) with rfl | rfl | rfl <;> decide
  rw [h1.1,h1.2.1,h1.2.2]
  exact ⟨rfl,rfl,rfl⟩
theorem or_not {l:List Val} (h:∀ v ∈ l,okV 2 v):orVs (l.map notV)=notV (andV l):=by
 obtain ⟨h1,h2,h3⟩:=some_not h
 rw [or_if,and_if,h1,h2]
 cases someV (boolW false) l <;> cases someV nullW l <;> decide
theorem and_not {l:List Val} (h:∀ v ∈ l,okV 2 v):andV (l.map notV)=notV (orVs l):=by
 obtain ⟨h1,h2,h3⟩:=some_not h
 rw [or_if,and_if,h1,h3]
 cases someV (boolW true) l <;> cases someV nullW l <;> decide
def sgn (a b:Int):Int:=if a != b then (if decide (a < b) then -1 else 1) else 0
theorem sgn_anti (a b:Int):sgn b a = - sgn a b:=by
 unfold sgn
 by_cases h:a=b
 ·subst h;simp
 ·have h1:(a != b)=true:=by simpa using h
  have h2:(b != a)=true:=by simpa using fun h'=>h h'.symm
  rw [h1,h2,if_pos rfl,if_pos rfl]
  by_cases g:a < b
  ·rw [decide_eq_true g,decide_eq_false (by omega)];rfl
  ·rw [decide_eq_false g,decide_eq_true (by omega)];rfl
theorem sgn_zero {a b:Int} (h:sgn a b=0):a=b:=by
 unfold sgn at h
 by_cases g:a=b
 ·exact g
 ·have h1:(a != b)=true:=by simpa using g
  rw [h1,if_pos rfl] at h
  split at h <;> cases h
theorem sgn_if (a b x:Int):(if a != b then (if decide (a < b) then -1 else 1) else x)=if sgn a b=0 then x else sgn a b:=by
 unfold sgn
 by_cases g:a=b
 ·subst g;simp
 ·have h1:(a != b)=true:=by simpa using g
  rw [h1,if_pos rfl,if_pos rfl]
  by_cases g:a < b
  ·rw [decide_eq_true g];rfl
  ·rw [decide_eq_false g];rfl
theorem cmpText_sgn (s t:ByteArray) (i:Nat):cmpText s t i=if h:i < s.size∧i < t.size then (if sgn ((s[i]'h.1).toNat:Int) ((t[i]'h.2).toNat:Int)=0 then cmpText s t (i + 1) else sgn ((s[i]'h.1).toNat:Int) ((t[i]'h.2).toNat:Int)) else sgn (s.size:Int) t.size:=by
 rw [cmpText_eq]
 split
 ·rw [sgn_if]
 ·rfl
theorem compareV_sgn (v w:Val):compareV v w=if sgn v.kind w.kind=0 then (if sgn v.int w.int=0 then cmpText v.text w.text 0 else sgn v.int w.int) else sgn v.kind w.kind:=by
 unfold compareV
 rw [sgn_if,sgn_if]
theorem neg_if (x y s:Int) (h:x = - y):(if -s=0 then x else -s) = - (if s=0 then y else s):=by
 by_cases g:s=0
 ·subst g;simpa using h
 ·rw [if_neg g,if_neg (by omega)]
theorem cmpText_anti (s t:ByteArray):∀ (d i:Nat),s.size - i=d→cmpText t s i = - cmpText s t i
 | 0,i,hd=>by
  rw [cmpText_sgn t s i,cmpText_sgn s t i,dif_neg (by omega),dif_neg (by omega)]
  exact sgn_anti _ _
 | d + 1,i,hd=>by
  rw [cmpText_sgn t s i,cmpText_sgn s t i]
  by_cases h:i < s.size∧i < t.size
  ·rw [dif_pos h,dif_pos h.symm,sgn_anti ((s[i]'h.1).toNat:Int)]
   exact neg_if _ _ _ (cmpText_anti s t d (i + 1) (by omega))
  ·rw [dif_neg h,dif_neg (fun g=>h g.symm)]
   exact sgn_anti _ _
theorem compare_anti (v w:Val):compareV w v = - compareV v w:=by
 rw [compareV_sgn,compareV_sgn v w,sgn_anti v.kind,sgn_anti v.int]
 exact neg_if _ _ _ (neg_if _ _ _ (cmpText_anti v.text w.text _ 0 rfl))
theorem cmpText_zero (s t:ByteArray):∀ (d i:Nat),s.size - i=d→cmpText s t i=0→i ≤ s.size→s.size=t.size∧∀ j (h1:j < s.size) (h2:j < t.size),i ≤ j→s[j]'h1=t[j]'h2
 | 0,i,hd,h,hi=>by
  rw [cmpText_sgn s t i,dif_neg (by omega)] at h
  have:=sgn_zero h
  exact ⟨by omega,fun j h1 h2 hj=>by omega⟩
 | d + 1,i,hd,h,hi=>by
  rw [cmpText_sgn s t i] at h
  by_cases hh:i < s.size∧i < t.size
  ·rw [dif_pos hh] at h
   by_cases hab:sgn ((s[i]'hh.1).toNat:Int) ((t[i]'hh.2).toNat:Int)=0
   ·rw [if_pos hab] at h
    obtain ⟨g1,g2⟩:=cmpText_zero s t d (i + 1) (by omega) h (by omega)
    refine ⟨g1,fun j h1 h2 hj=>?_⟩
    rcases Nat.lt_or_ge i j with hlt | hge
    ·exact g2 j h1 h2 (by omega)
    ·have:j=i:=by omega
     subst this
     have:=sgn_zero hab
     exact UInt8.toNat_inj.1 (by omega)
   ·rw [if_neg hab] at h
    exact absurd h hab
  ·rw [dif_neg hh] at h
   have:=sgn_zero h
   omega
theorem compare_self (v:Val):compareV v v=0:=by
 have:=compare_anti v v
 omega
theorem compare_eq (v w:Val):(compareV v w == 0)=(v == w):=by
 rw [Bool.eq_iff_iff]
 simp only [beq_iff_eq]
 constructor
 ·intro h
  rw [compareV_sgn] at h
  by_cases hk:sgn v.kind w.kind=0
  ·rw [if_pos hk] at h
   by_cases hi:sgn v.int w.int=0
   ·rw [if_pos hi] at h
    obtain ⟨g1,g2⟩:=cmpText_zero v.text w.text _ 0 rfl h (by omega)
    have ht:v.text=w.text:=ByteArray.ext (Array.ext g1 fun j h1 h2=>g2 j h1 h2 (by omega))
    replace hk:=sgn_zero hk
    replace hi:=sgn_zero hi
    obtain ⟨a,b,c⟩:=v
    obtain ⟨a',b',c'⟩:=w
    simp only at hk hi ht
    subst hk;subst hi;subst ht;rfl
   ·rw [if_neg hi] at h
    exact absurd h hi
  ·rw [if_neg hk] at h
   exact absurd h hk
 ·intro h;rw [h];exact compare_self w
theorem caseV_pre (last last':Val) (r r':List Val) (h:caseV last r=caseV last' r'):∀ (n:Nat) (p:List Val),p.length=2 * n→caseV last (p ++ r)=caseV last' (p ++ r')
 | 0,p,hp=>by
  have:p=[]:=List.eq_nil_of_length_eq_zero (by omega)
  subst this;exact h
 | n + 1,p,hp=>by
  match p,hp with
  | a :: b :: q,hp=>
   simp only [List.cons_append,caseV]
   rw [caseV_pre last last' r r' h n q (by simp at hp;omega)]
theorem caseV_same (v:Val):∀ (n:Nat) (l:List Val),l.length=2 * n + 1→(∀ j,j < n→l.getD (2 * j + 1) nullW=v)→caseV v l=v
 | 0,l,hl,h=>by
  match l,hl with
  | [c],_=>rfl
 | n + 1,l,hl,h=>by
  match l,hl with
  | a :: b :: r,hl=>
   rw [caseV]
   split
   ·exact h 0 (by omega)
   ·refine caseV_same v n r (by simp at hl;omega) fun j hj=>?_
    have:=h (j + 1) (by omega)
    rw [show 2 * (j + 1) + 1=(2 * j + 1) + 1 + 1 by omega] at this
    simpa using this
theorem coalV_drop:∀ (l r:List Val) (v:Val),v.kind=0→coalV (l ++ v :: r)=coalV (l ++ r)
 | [],r,v,h=>by simp [coalV,h]
 | a :: l,r,v,h=>by simp only [List.cons_append,coalV,coalV_drop l r v h]
theorem coalV_stop:∀ (l r:List Val) (v:Val),v.kind ≠ 0→coalV (l ++ v :: r)=coalV (l ++ [v])
 | [],r,v,h=>by simp [coalV,h]
 | a :: l,r,v,h=>by simp only [List.cons_append,coalV,coalV_stop l r v h]
theorem coalV_single {k:Int} {v:Val} (h:okV k v):coalV [v]=v:=by
 unfold coalV
 split
 ·rfl
 ·rename_i h0
  simp at h0
  rw [okV_zero h h0];rfl
end Go.Proofs.YtgiedlcjlalpcaaGreat
namespace Go.Proofs.YtgiedlcjlalpcaaGreat
open Go.Abs
def inI (v:Val):Prop:=-9223372036854775808 ≤ v.int∧v.int ≤ 9223372036854775807
theorem w64_in (n:Int):-9223372036854775808 ≤ w64 n∧w64 n ≤ 9223372036854775807:=by
 show -9223372036854775808 ≤ IntKind.wrap .i64 n∧IntKind.wrap .i64 n ≤ 9223372036854775807
 simp [IntKind.wrap,IntKind.bits,IntKind.signed]
 constructor <;> split <;> omega
theorem inI_ite {c:Prop} [Decidable c] {x y:Val} (h1:c→inI x) (h2:¬ c→inI y):inI (if c then x else y):=by
 split
 ·rename_i h;exact h1 h
 ·rename_i h;exact h2 h
theorem inI_w64 (n:Int):inI (intW (w64 n)):=w64_in n
theorem w64_self {v:Val} (h:inI v):w64 v.int=v.int:=wrap_i64 h.1 (by have:=h.2;omega)
theorem inI_bool (b:Bool):inI (boolW b):=by cases b <;> (constructor <;> decide)
theorem inI_null:inI nullW:=by constructor <;> decide
theorem inI_text (s:ByteArray):inI (textW s):=⟨by show (-9223372036854775808:Int) ≤ 0;decide,by show (0:Int) ≤ 9223372036854775807;decide⟩
theorem tmod_in {x y:Int} (h:-9223372036854775808 ≤ x∧x ≤ 9223372036854775807):-9223372036854775808 ≤ x.tmod y∧x.tmod y ≤ 9223372036854775807:=by
 have h1:(x.tmod y).natAbs ≤ x.natAbs:=by rw [Int.natAbs_tmod];exact Nat.mod_le _ _
 by_cases hx:0 ≤ x
 ·have:=Int.tmod_nonneg y hx
  omega
 ·have h2:0 ≤ (-x).tmod y:=Int.tmod_nonneg y (by omega)
  rw [Int.neg_tmod] at h2
  omega
theorem inI_div {op:Int} {x y:Val} (hx:inI x):inI (divided op x.int y.int):=by
 unfold divided
 repeat' split
 ·exact inI_null
 ·exact inI_w64 _
 ·constructor <;> decide
 ·exact inI_w64 _
 ·exact tmod_in hx
theorem inI_caseV:∀ (l:List Val) (last:Val),inI last→(∀ v ∈ l,inI v)→inI (caseV last l)
 | [],last,h,_=>h
 | [_],last,h,_=>h
 | c :: v :: r,last,h,hl=>by
  rw [caseV]
  split
  ·exact hl v (by simp)
  ·exact inI_caseV r last h fun w hw=>hl w (by simp [hw])
theorem inI_coalV:∀ (l:List Val),(∀ v ∈ l,inI v)→inI (coalV l)
 | [],_=>inI_null
 | v :: r,hl=>by
  rw [coalV]
  split
  ·exact hl v (by simp)
  ·exact inI_coalV r fun w hw=>hl w (by simp [hw])
theorem inI_hd {l:List Val} (h:∀ v ∈ l,inI v):inI (hdV l):=by
 cases l with
 | nil=>exact inI_null
 | cons a r=>exact h a (by simp)
theorem inI_last {l:List Val} (h:∀ v ∈ l,inI v):inI (lastV l):=by
 unfold lastV
 rw [List.getLastD_eq_getLast?]
 cases hg:l.getLast? with
 | none=>exact inI_null
 | some a=>exact h a (List.mem_of_getLast? hg)
theorem inI_get {l:List Val} (h:∀ v ∈ l,inI v) (i:Nat):inI (l.getD i nullW):=by
 rw [List.getD_eq_getElem?_getD]
 cases hg:l[i]? with
 | none=>exact inI_null
 | some a=>exact h a (List.mem_of_getElem? hg)
theorem valueV_in {e:Expr} {l:List Val} (hlit:inI e.lit) (hl:∀ v ∈ l,inI v) (ht:e.op=11→(hdV l).text.size ≤ 4294967296):inI (valueV e l):=by
 unfold valueV
 split
 ·exact hlit
 split
 ·exact inI_bool _
 split
 ·unfold andV
  repeat' split
  all_goals first | exact inI_bool _ | exact inI_null
 split
 ·unfold orVs
  repeat' split
  all_goals first | exact inI_bool _ | exact inI_null
 split
 ·unfold notV
  split
  ·exact inI_get hl 0
  ·exact inI_bool _
 split
 ·exact inI_bool _
 split
 ·exact inI_bool _
 split
 ·exact inI_caseV _ _ (inI_last hl) hl
 split
 ·exact inI_coalV _ hl
 split
 ·exact inI_null
 unfold strictV
 refine inI_ite (fun _=>inI_w64 _) fun _=>inI_ite (fun _=>inI_w64 _) fun _=>inI_ite (fun _=>inI_w64 _) fun _=>inI_ite (fun _=>inI_div (inI_hd hl)) fun _=>inI_ite (fun _=>inI_w64 _) fun _=>inI_ite (fun _=>inI_text _) fun _=>inI_ite (fun h=>?_) fun _=>inI_ite (fun _=>inI_bool _) fun _=>inI_ite (fun _=>inI_bool _) fun _=>inI_ite (fun _=>inI_bool _) fun _=>inI_ite (fun _=>inI_bool _) fun _=>inI_ite (fun _=>inI_bool _) fun _=>inI_bool _
 have:=ht (by simpa using h)
 constructor
 ·show -9223372036854775808 ≤ ((hdV l).text.size:Int);omega
 ·show ((hdV l).text.size:Int) ≤ 9223372036854775807;omega
mutual
def litR:Expr→Prop
 | .mk _ _ _ _ v args _=>inI v∧litRs args
def litRs:List Expr→Prop
 | []=>True
 | a :: r=>litR a∧litRs r
end
theorem litRs_iff:∀ {l:List Expr},litRs l ↔ ∀ a ∈ l,litR a
 | []=>by simp [litRs]
 | a :: r=>by rw [litRs,litRs_iff (l:=r),List.forall_mem_cons]
theorem litR_iff (e:Expr):litR e ↔ inI e.lit∧∀ a ∈ e.args,litR a:=by
 cases e
 simp only [litR,litRs_iff];rfl
theorem litR_op {op:Int} {l:List Expr} (h:∀ a ∈ l,litR a):litR (opE op l):=(litR_iff _).2 ⟨inI_null,h⟩
theorem litR_set {e:Expr} {l:List Expr} (he:litR e) (h:∀ a ∈ l,litR a):litR (setA e l):=(litR_iff _).2 ⟨((litR_iff e).1 he).1,h⟩
theorem litR_lit {k:Int} {v:Val} (h:inI v):litR (litE k v):=(litR_iff _).2 ⟨h,fun a ha=>by cases ha⟩
theorem litR_truth (b:Bool):litR (truthE b):=litR_lit (inI_bool b)
theorem litR_arg {e a:Expr} (he:litR e) (h:a ∈ e.args):litR a:=((litR_iff e).1 he).2 a h
theorem litR_hd {l:List Expr} (h:∀ a ∈ l,litR a):litR (hdE l):=by
 cases l with
 | nil=>exact (litR_iff _).2 ⟨inI_null,fun a ha=>by cases ha⟩
 | cons a r=>exact h a (by simp)
theorem litR_last {l:List Expr} (h:∀ a ∈ l,litR a):litR (lastE l):=by
 unfold lastE
 rw [List.getLastD_eq_getLast?]
 cases hg:l.getLast? with
 | none=>exact (litR_iff _).2 ⟨inI_null,fun a ha=>by cases ha⟩
 | some a=>exact h a (List.mem_of_getLast? hg)
theorem litR_getD {l:List Expr} (h:∀ a ∈ l,litR a) (i:Nat):litR (l.getD i zeroE):=by
 rw [List.getD_eq_getElem?_getD]
 cases hg:l[i]? with
 | none=>exact (litR_iff _).2 ⟨inI_null,fun a ha=>by cases ha⟩
 | some a=>exact h a (List.mem_of_getElem? hg)
theorem litR_oneOr {e:Expr} {l:List Expr} (he:litR e) (h:∀ a ∈ l,litR a):litR (oneOr e l):=by
 unfold oneOr
 split
 ·exact litR_hd h
 ·exact litR_set he h
theorem litR_without {e:Expr} (he:litR e) (i:Nat):litR (withoutE e i):=litR_oneOr he fun a ha=>by
 rcases List.mem_append.1 ha with h | h
 ·exact litR_arg he (List.mem_of_mem_take h)
 ·exact litR_arg he (List.mem_of_mem_drop h)
theorem litR_list3 {e:Expr} (he:litR e) (b:Bool):∀ (l:List Expr),litR (list3 e b l).1
 | []=>he
 | a :: r=>by
  unfold list3
  split
  ·exact litR_truth _
  ·exact litR_list3 he b r
theorem litR_list2 {e:Expr} (he:litR e) (b:Bool):∀ (l:List Expr) (i:Nat),litR (list2 e b l i).1
 | [],i=>litR_list3 he b e.args
 | a :: r,i=>by
  unfold list2
  split
  ·exact litR_without he i
  ·exact litR_list2 he b r (i + 1)
theorem litR_list1 {e:Expr} (he:litR e) (b:Bool):∀ (l:List Expr) (i:Nat),(∀ a ∈ l,a ∈ e.args)→litR (list1 e b l i).1
 | [],i,_=>litR_list2 he b e.args 0
 | a :: r,i,h=>by
  unfold list1
  split
  ·have ha:=litR_arg he (h a (by simp))
   refine litR_set he fun x hx=>?_
   rcases List.mem_append.1 hx with h | h
   ·rcases List.mem_append.1 h with h | h
    ·exact litR_arg he (List.mem_of_mem_take h)
    ·exact litR_arg ha h
   ·exact litR_arg he (List.mem_of_mem_drop h)
  ·exact litR_list1 he b r (i + 1) fun x hx=>h x (by simp [hx])
theorem litR_notE {a:Expr} (ha:litR a):litR (notE a).1:=by
 unfold notE
 split
 ·exact litR_hd fun x hx=>litR_arg ha hx
 split
 ·exact litR_op fun x hx=>litR_arg ha hx
 split
 ·refine litR_op fun x hx=>?_
  obtain ⟨y,hy,rfl⟩:=List.mem_map.1 hx
  exact litR_op fun z hz=>by rw [List.mem_singleton.1 hz];exact litR_arg ha hy
 ·exact ha
theorem litR_case2 {e:Expr} (he:litR e) (n:Nat):∀ (k i:Nat),n - i ≤ k→litR (case2 e n i).1
 | k,i,hk=>by
  rw [case2]
  split
  ·split
   ·match k with
    | 0=>omega
    | k + 1=>exact litR_case2 he n k (i + 2) (by omega)
   ·exact he
  ·exact litR_last fun a ha=>litR_arg he ha
theorem litR_case1 {e:Expr} (he:litR e) (n:Nat):∀ (k i:Nat),n - i ≤ k→litR (case1 e n i).1
 | k,i,hk=>by
  rw [case1]
  split
  ·split
   ·refine litR_oneOr he ?_
    split
    ·intro a ha
     rcases List.mem_append.1 ha with h | h
     ·exact litR_arg he (List.mem_of_mem_take h)
     ·rw [List.mem_singleton.1 h];exact litR_getD (fun a ha=>litR_arg he ha) _
    ·intro a ha
     rcases List.mem_append.1 ha with h | h
     ·exact litR_arg he (List.mem_of_mem_take h)
     ·exact litR_arg he (List.mem_of_mem_drop h)
   ·match k with
    | 0=>omega
    | k + 1=>exact litR_case1 he n k (i + 2) (by omega)
  ·exact litR_case2 he n _ 1 (Nat.le_refl _)
theorem litR_first2 {e:Expr} (he:litR e) (cols:List Col) (n:Nat):∀ (k i:Nat),n - i ≤ k→litR (first2 e cols n i).1
 | k,i,hk=>by
  rw [first2]
  split
  ·split
   ·match k with
    | 0=>omega
    | k + 1=>exact litR_first2 he cols n k (i + 1) (by omega)
   ·show litR (if i=0 then hdE e.args else setA e (e.args.take (i + 1)))
    split
    ·exact litR_hd fun a ha=>litR_arg he ha
    ·exact litR_set he fun a ha=>litR_arg he (List.mem_of_mem_take ha)
  ·exact he
theorem litR_first1 {e:Expr} (he:litR e) (cols:List Col):∀ (l:List Expr) (i:Nat),litR (first1 e cols l i).1
 | [],i=>litR_first2 he cols _ _ 0 (Nat.le_refl _)
 | a :: r,i=>by
  unfold first1
  split
  ·exact litR_without he i
  ·exact litR_first1 he cols r (i + 1)
theorem litR_strictL {e:Expr} (he:litR e) (cols:List Col):∀ (l:List Expr),litR (strictL e cols l).1
 | []=>by
  have h2:=litR_hd fun a ha=>litR_arg (a:=a) he ha
  have h3:=litR_last fun a ha=>litR_arg (a:=a) he ha
  have pair:∀ op a b,litR a→litR b→litR (opE op [a,b]):=fun op a b ha hb=>litR_op fun x hx=>by
   simp only [List.mem_cons,List.not_mem_nil,or_false] at hx
   rcases hx with rfl | rfl
   ·exact ha
   ·exact hb
  unfold strictL
  split
  ·unfold comparedE
   split
   ·exact pair _ _ _ h3 h2
   split
   ·exact h2
   split
   ·exact litR_op fun x hx=>by rw [List.mem_singleton.1 hx];exact h2
   split
   ·exact litR_truth _
   ·exact he
  ·unfold computedE
   simp only
   split
   ·exact h2
   split
   ·exact h3
   split
   ·exact litR_lit (by constructor <;> decide)
   ·exact he
 | a :: r=>by
  unfold strictL
  split
  ·exact litR_lit inI_null
  ·exact litR_strictL he cols r
theorem step_litR {e:Expr} {cols:List Col} {k:Int} (hk:Has cols e k) (he:litR e):litR (stepE e cols).1:=by
 have h2:=litR_hd fun a ha=>litR_arg (a:=a) he ha
 have h3:=litR_last fun a ha=>litR_arg (a:=a) he ha
 have pair:∀ op a b,litR a→litR b→litR (opE op [a,b]):=fun op a b ha hb=>litR_op fun x hx=>by
  simp only [List.mem_cons,List.not_mem_nil,or_false] at hx
  rcases hx with rfl | rfl
  ·exact ha
  ·exact hb
 have one:∀ op a,litR a→litR (opE op [a]):=fun op a ha=>litR_op fun x hx=>by rw [List.mem_singleton.1 hx];exact ha
 unfold stepE
 split
 ·exact he
 rename_i h0
 have hne:e.args ≠ []:=by intro h;rw [h] at h0;exact h0 rfl
 split
 ·have:∀ (l:List Expr) (acc:List Val),(∀ a ∈ l,a ∈ e.args)→(∀ v ∈ acc,inI v)→(e.op=11→∀ v ∈ acc,v.text.size ≤ 4294967296)→(l=[]→acc ≠ [])→litR (constL e cols acc l).1:=by
   intro l
   induction l with
   | nil=>
    intro acc _ ha ht hn
    refine litR_lit (valueV_in ((litR_iff e).1 he).1 ha fun h=>?_)
    cases acc with
    | nil=>exact absurd rfl (hn rfl)
    | cons v r=>exact ht h v (by simp)
   | cons a r ih=>
    intro acc hl ha ht hn
    unfold constL
    split
    ·rename_i hlit
     have ham:=hl a (by simp)
     refine ih _ (fun x hx=>hl x (by simp [hx])) (fun v hv=>?_) (fun h v hv=>?_) (fun _=>by simp)
     ·rcases List.mem_append.1 hv with h | h
      ·exact ha v h
      ·rw [List.mem_singleton.1 h];exact ((litR_iff a).1 (litR_arg he ham)).1
     ·rcases List.mem_append.1 hv with h' | h'
      ·exact ht h v h'
      ·rw [List.mem_singleton.1 h']
       have h3:a.op=3:=by simpa [isLit] using hlit
       have:=rightV_size (nodeR_lit (wf_node (wf_arg hk.wf a ham)) h3).1
       omega
    ·exact he
  exact this e.args [] (fun a h=>h) (fun v h=>by cases h) (fun _ v h=>by cases h) (fun h=>absurd h hne)
 split
 ·exact litR_list1 he true e.args 0 fun a h=>h
 split
 ·exact litR_list1 he false e.args 0 fun a h=>h
 split
 ·exact litR_notE h2
 split
 ·exact litR_truth _
 split
 ·exact h2
 split
 ·unfold sameStepE
  split
  ·exact litR_truth _
  split
  ·exact one _ _ h3
  split
  ·exact one _ _ h2
  ·exact pair _ _ _ h2 h3
 split
 ·exact litR_case1 he _ _ 0 (Nat.le_refl _)
 split
 ·exact litR_first1 he cols e.args 0
 ·exact litR_strictL he cols e.args
theorem eval_in {cols:List Col} {row:List Val} (hf:FitR cols row) (hr:∀ v ∈ row,inI v):∀ (n:Nat) {e:Expr},e.size ≤ n→∀ {k:Int},Has cols e k→litR e→inI (evalE row e)
 | 0,e,hn,k,hk,he=>by
  obtain ⟨op,n,m,kind,lit,args,rels⟩:=e
  simp [Expr.size] at hn
 | n + 1,e,hn,k,hk,he=>by
  by_cases h1:e.op=1
  ·rw [evalE_eq,if_pos (by simp [h1])]
   exact inI_get hr _
  rw [evalE_op row h1]
  by_cases h3:e.op=3
  ·unfold valueV
   rw [if_pos (by simp [h3])]
   exact ((litR_iff e).1 he).1
  have h2:=no_two hk
  have hi:=nodeR_inner (wf_node hk.wf) h1 h2 h3
  obtain ⟨ha,hsig⟩:=has_elim hk hi.lo
  refine valueV_in ((litR_iff e).1 he).1 (fun v hv=>?_) fun h11=>?_
  ·obtain ⟨a,hm,rfl⟩:=List.mem_map.1 hv
   exact eval_in hf hr n (by have:=size_mem hm;omega) (ha a hm) (litR_arg he hm)
  ·obtain ⟨a,hab⟩:=args1 hi (by omega)
   rw [hab]
   show (evalE row a).text.size ≤ _
   have hm:a ∈ e.args:=by simp [hab]
   have hok:=eval_kind hf (ha a hm)
   have:=rightV_size hok.2.1
   omega
end Go.Proofs.YtgiedlcjlalpcaaGreat
namespace Go.Abs
open Go
end Go.Abs
namespace Go.Proofs.YtgiedlcjlalpcaaGreat
open Go.Abs
def rws (l:List (List Val)):List P:=l.map fun r=>.lst (Val.ps r)
theorem rws_nil:rws []=[]:=rfl
theorem rws_len (l:List (List Val)):(rws l).length=l.length:=by simp [rws]
theorem rws_get (l:List (List Val)) (i:Nat):(rws l)[i]? = l[i]?.map fun r=>.lst (Val.ps r):=by simp [rws]
theorem rws_idx (l:List (List Val)) (i:Nat) (h:i < (rws l).length):(rws l)[i] = .lst (Val.ps (l[i]'(by rw [rws_len] at h;exact h))):=by simp [rws]
theorem rws_ok (l:List (List Val)):sizesOk 1 (rws l)=true:=by
 simp only [sizesOk,List.all_eq_true,rws,List.mem_map]
 rintro _ ⟨e,_,rfl⟩
 rfl
theorem wl1' (a:List Val):P.lst [P.lst (Val.ps a)]=P.lst (rws [a]):=rfl
theorem wa1' (a:List Val) (z:Nat) (h:Bool):Blk.arr z [P.lst (Val.ps a)] h=Blk.arr z (rws [a]) h:=rfl
theorem ws1' (a:List Val) (l:List (List Val)):rws l ++ [P.lst (Val.ps a)]=rws (l ++ [a]):=by simp [rws]
theorem rws_app (l m:List (List Val)):rws l ++ rws m=rws (l ++ m):=by simp [rws]
theorem okP_rws {l:List (List Val)} (h:okP (.lst (rws l))):l.length ≤ 4294967296∧∀ r ∈ l,r.length ≤ 4294967296:=by
 simp only [okP,rws_len] at h
 refine ⟨h.1,fun r hr=>?_⟩
 have key:∀ (l:List (List Val)),okPs (rws l)→∀ r ∈ l,okP (.lst (Val.ps r)):=by
  intro l
  induction l with
  | nil=>intro _ r hr;cases hr
  | cons a t ih=>
   intro h r hr
   have h':okP (.lst (Val.ps a))∧okPs (rws t):=h
   rcases List.mem_cons.1 hr with rfl | hr
   ·exact h'.1
   ·exact ih h'.2 r hr
 have h3:=key l h.2 r hr
 simp only [okP,vps_len] at h3
 exact h3.1
end Go.Proofs.YtgiedlcjlalpcaaGreat
namespace Go.Proofs.YtgiedlcjlalpcaaGreat
open Go.Abs
def rowVal (raw:List Val) (i:Nat):Val:=
 if raw.length=0 then nullW
 else ⟨(raw.getD (i % raw.length) nullW).kind,w64 ((raw.getD (i % raw.length) nullW).int + ((i / raw.length:Nat):Int)),(raw.getD (i % raw.length) nullW).text⟩
def rowL (raw:List Val) (i:Nat):List Col→List Val
 | []=>[]
 | c :: r=>tameAs (rowVal raw i) c :: rowL raw (i + 1) r
def tameRow (cols:List Col) (raw:List Val):List Val:=rowL raw 0 cols
theorem rowVal_in (raw:List Val) (i:Nat):inI (rowVal raw i):=by
 unfold rowVal
 split
 ·exact inI_null
 ·exact w64_in _
theorem rowL_len (raw:List Val):∀ (l:List Col) (i:Nat),(rowL raw i l).length=l.length
 | [],_=>rfl
 | c :: r,i=>by simp [rowL,rowL_len raw r]
theorem rowL_get (raw:List Val):∀ (l:List Col) (i j:Nat) (h:j < l.length),(rowL raw i l).getD j nullW=tameAs (rowVal raw (i + j)) l[j]
 | c :: r,i,0,_=>rfl
 | c :: r,i,j + 1,h=>by
  have:=rowL_get raw r (i + 1) j (by simpa using h)
  simp only [rowL,List.getElem_cons_succ]
  rw [show i + (j + 1)=i + 1 + j by omega,← this]
  simp
theorem tameAs_in (v:Val) (c:Col) (h:inI v):inI (tameAs v c):=by
 unfold tameAs
 split
 ·exact inI_null
 split
 ·exact inI_bool _
 split
 ·exact inI_text _
 split
 ·exact h
 ·exact inI_w64 _
theorem tameAs_fit (v:Val) (c:Col) (hk:real c.kind=true):okV c.kind (tameAs v c)∧(c.null=false→(tameAs v c).kind ≠ 0):=by
 obtain ⟨k,n⟩:=c
 simp only at hk
 cases n with
 | true=>
  obtain ⟨h1,h2⟩:=tameAs_right v k hk
  exact ⟨⟨hk,h1,h2⟩,fun h=>by cases h⟩
 | false=>
  unfold tameAs
  rw [if_neg (by simp)]
  split
  ·rename_i h
   have h:k=2:=by simpa using h
   subst h
   exact ⟨okV_bool _,fun _=>by show (2:Int) ≠ 0;decide⟩
  split
  ·rename_i h
   have h:k=3:=by simpa using h
   subst h
   obtain ⟨h1,h2⟩:=tameTxt_ok v.text 3 0 ⟨#[]⟩ (by omega) (by decide) (by omega) printable_nil
   exact ⟨⟨rfl,right_txt h1 h2,.inr rfl⟩,fun _=>by show (3:Int) ≠ 0;decide⟩
  rename_i n2 n3
  have h:k=1:=by simp at n2 n3;simp [real] at hk;omega
  subst h
  split
  ·exact ⟨okV_int _,fun _=>by show (1:Int) ≠ 0;decide⟩
  ·exact ⟨okV_int _,fun _=>by show (1:Int) ≠ 0;decide⟩
theorem tameRow_fit {cols:List Col} (hc:∀ c ∈ cols,real c.kind=true) (raw:List Val):FitR cols (tameRow cols raw)∧(∀ v ∈ tameRow cols raw,inI v)∧(tameRow cols raw).length=cols.length:=by
 refine ⟨fun i h=>?_,?_,rowL_len raw cols 0⟩
 ·unfold tameRow
  rw [rowL_get raw cols 0 i h]
  exact tameAs_fit _ _ (hc _ (List.getElem_mem h))
 ·have:∀ (l:List Col) (i:Nat),∀ v ∈ rowL raw i l,inI v:=by
   intro l
   induction l with
   | nil=>intro i v hv;cases hv
   | cons c r ih=>
    intro i v hv
    rcases List.mem_cons.1 hv with rfl | hv
    ·exact tameAs_in _ _ (rowVal_in raw i)
    ·exact ih _ v hv
  exact this cols 0
theorem tameCols_real (l:List Col):∀ c ∈ tameCols l,real c.kind=true:=by
 obtain ⟨_,h2⟩:=tcL_good l 0 [] rfl (by omega) (fun c hc=>by cases hc)
 unfold tameCols
 split
 ·intro c hc
  rw [List.mem_singleton.1 hc];rfl
 ·exact h2
section
variable {cols:List Col}
theorem tipE_lit (raw:Expr) (k:Int) (h:inI raw.lit):litR (tipE raw cols k):=by
 have hcol:∀ j:Nat,litR (colE j):=fun j=>(litR_iff _).2 ⟨inI_null,fun a ha=>by cases ha⟩
 unfold tipE
 split
 ·rename_i hlt
  have:∀ (l:List Col) (i:Nat) (acc:List Expr),(∀ e ∈ acc,litR e)→∀ e ∈ tipL k i acc l,litR e:=by
   intro l
   induction l with
   | nil=>intro i acc h;exact h
   | cons c r ih=>
    intro i acc h
    unfold tipL
    split
    ·refine ih _ _ fun e he=>?_
     simp only [List.mem_append,List.mem_cons,List.not_mem_nil,or_false] at he
     rcases he with he | he | he
     ·exact h e he
     ·rw [he];exact hcol i
     ·rw [he];exact hcol i
    ·exact ih _ _ h
  exact this cols 0 [] (fun e he=>by cases he) _ (List.getElem_mem hlt)
 ·unfold tipV
  split
  ·exact litR_lit inI_null
  ·exact litR_lit (tameAs_in _ _ h)
theorem argN_lit {raw:Expr} (h:litR raw) (i:Nat):litR (argN raw i):=by
 have hx:=litR_getD (fun a ha=>litR_arg h ha) (l:=raw.args) (i % raw.args.length)
 unfold argN
 exact (litR_iff _).2 ⟨((litR_iff _).1 hx).1,fun a ha=>litR_arg hx ha⟩
theorem tameE_lit:∀ (d:Nat) (raw:Expr) (k:Int),litR raw→litR (tameE cols d raw k)
 | 0,raw,k,h=>tipE_lit raw k ((litR_iff raw).1 h).1
 | d + 1,raw,k,h=>by
  unfold tameE
  split
  ·exact tipE_lit raw k ((litR_iff raw).1 h).1
  ·unfold growE
   refine litR_op fun a ha=>?_
   obtain ⟨i,_,rfl⟩:=List.mem_map.1 ha
   exact tameE_lit d _ _ (argN_lit h i)
theorem tameIn_lit {raw:Expr} (k:Int) (D:Nat) (h:litR raw):litR (tameIn cols raw k D):=by
 unfold tameIn
 split
 ·exact h
 ·have:∀ (m i:Nat),D - i ≤ m→litR (tameLoop cols raw k D i):=by
   intro m
   induction m with
   | zero=>intro i hi;rw [tameLoop,dif_neg (by omega)];exact tameE_lit _ raw k h
   | succ m ih=>
    intro i hi
    rw [tameLoop]
    split
    ·split
     ·exact ih (i + 1) (by omega)
     ·exact tameE_lit _ raw k h
    ·exact tameE_lit _ raw k h
  exact this D 0 (by omega)
end
theorem cutE_lit:∀ (n:Nat) {e:Expr},e.size ≤ n→∀ l:Int,litR e→litR (cutE l e).1
 | 0,e,hn,l,h=>by
  obtain ⟨op,n,m,kind,lit,args,rels⟩:=e
  simp [Expr.size] at hn
 | n + 1,e,hn,l,h=>by
  rw [cutE_eq]
  have hl:=(litR_iff e).1 h
  refine (litR_iff _).2 ⟨hl.1,?_⟩
  have key:∀ (az:List Expr) (l:Int) (acc:List Expr),(∀ a ∈ az,a ∈ e.args)→(∀ a ∈ acc,litR a)→∀ a ∈ (cutL l acc az).1,litR a:=by
   intro az
   induction az with
   | nil=>intro l acc _ h;rw [cutL_nil];exact h
   | cons a r ih=>
    intro l acc hm hacc
    rw [cutL_cons]
    split
    ·refine ih _ _ (fun x hx=>hm x (by simp [hx])) fun x hx=>?_
     rcases List.mem_append.1 hx with hx | hx
     ·exact hacc x hx
     ·rw [List.mem_singleton.1 hx]
      have ha:=hm a (by simp)
      exact cutE_lit n (by have:=size_mem ha;omega) l (hl.2 a ha)
    ·exact hacc
  exact key e.args (l - 1) [] (fun a h=>h) (fun a ha=>by cases ha)
end Go.Proofs.YtgiedlcjlalpcaaGreat
namespace Go.Proofs.YtgiedlcjlalpcaaGreat
open Go.Abs
section
variable {row:List Val}
theorem ev_lit (k:Int) (v:Val):evalE row (litE k v)=v:=rfl
theorem ev_truth (b:Bool):evalE row (truthE b)=boolW b:=rfl
theorem ev_op3 {e:Expr} (h:e.op=3):evalE row e=e.lit:=by
 rw [evalE_op row (by omega)]
 unfold valueV
 rw [if_pos (by simp [h])]
theorem ev18 {e a b:Expr} (h:e.op=18) (hab:e.args=[a,b]):evalE row e=boolW (evalE row a == evalE row b):=by
 rw [evalE_op row (by omega),hab];unfold valueV;simp [h]
theorem ev19 {e:Expr} (h:e.op=19):evalE row e=andV (e.args.map (evalE row)):=by
 rw [evalE_op row (by omega)];unfold valueV;simp [h]
theorem ev20 {e:Expr} (h:e.op=20):evalE row e=orVs (e.args.map (evalE row)):=by
 rw [evalE_op row (by omega)];unfold valueV;simp [h]
theorem ev21 {e a:Expr} (h:e.op=21) (hab:e.args=[a]):evalE row e=notV (evalE row a):=by
 rw [evalE_op row (by omega),hab];unfold valueV;simp [h]
theorem ev22 {e a:Expr} (h:e.op=22) (hab:e.args=[a]):evalE row e=boolW ((evalE row a).kind == 0):=by
 rw [evalE_op row (by omega),hab];unfold valueV;simp [h]
theorem ev23 {e a:Expr} (h:e.op=23) (hab:e.args=[a]):evalE row e=boolW (trueV (evalE row a)):=by
 rw [evalE_op row (by omega),hab];unfold valueV;simp [h]
theorem ev24 {e:Expr} (h:e.op=24):evalE row e=caseV (lastV (e.args.map (evalE row))) (e.args.map (evalE row)):=by
 rw [evalE_op row (by omega)];unfold valueV;simp [h]
theorem ev25 {e:Expr} (h:e.op=25):evalE row e=coalV (e.args.map (evalE row)):=by
 rw [evalE_op row (by omega)];unfold valueV;simp [h]
theorem evS {e:Expr} (h4:4 ≤ e.op) (h17:e.op ≤ 17):evalE row e=if anyNullV (e.args.map (evalE row)) then nullW else strictV e.op (e.args.map (evalE row)):=by
 rw [evalE_op row (by omega)];unfold valueV
 rw [if_neg (by simp;omega),if_neg (by simp;omega),if_neg (by simp;omega),if_neg (by simp;omega),if_neg (by simp;omega),if_neg (by simp;omega),if_neg (by simp;omega),if_neg (by simp;omega),if_neg (by simp;omega)]
theorem evS2 {e a b:Expr} (h4:4 ≤ e.op) (h17:e.op ≤ 17) (hab:e.args=[a,b]):evalE row e=if (evalE row a).kind == 0 || (evalE row b).kind == 0 then nullW else strictV e.op [evalE row a,evalE row b]:=by
 rw [evS h4 h17,hab]
 simp only [List.map_cons,List.map_nil,anyNullV]
 cases ((evalE row a).kind == 0) <;> cases ((evalE row b).kind == 0) <;> simp
mutual
theorem same_eval:∀ (a b:Expr),sameE a b=true→evalE row a=evalE row b
 | .mk op n m k v args rels,.mk op' n' m' k' v' args' rels',h=>by
  rw [sameE] at h
  split at h
  ·cases h
  rename_i hc
  simp only [Expr.op,Expr.n,Expr.m,Expr.kind,Expr.lit,Expr.args,Expr.rels,Bool.or_eq_true,Bool.not_eq_true',not_or,Bool.not_eq_false,beq_iff_eq] at hc
  obtain ⟨⟨⟨⟨⟨⟨rfl,rfl⟩,rfl⟩,rfl⟩,rfl⟩,hl⟩,hr⟩:=hc
  have:=same_evalL args args' (by omega) h
  simp only [evalE,this]
  split
  ·rfl
  ·exact valueV_of rfl rfl _
theorem same_evalL:∀ (l m:List Expr),l.length=m.length→sameL l m=true→evalL row l=evalL row m
 | [],[],_,_=>rfl
 | a :: l,b :: m,hl,h=>by
  rw [sameL] at h
  by_cases hs:sameE a b=true
  ·rw [if_pos hs] at h
   simp only [evalL,same_eval a b hs,same_evalL l m (by simpa using hl) h]
  ·rw [if_neg hs] at h;cases h
end
theorem isV_eval {a:Expr} {v:Val} (h:isV a v=true):evalE row a=v:=by
 simp only [isV,Bool.and_eq_true,beq_iff_eq] at h
 rw [ev_op3 h.1,h.2]
def joinF (b:Bool) (l:List Val):Val:=if b then andV l else orVs l
theorem F_splice (b:Bool) (l m r:List Val):joinF b (l ++ joinF b m :: r)=joinF b (l ++ m ++ r):=by cases b;exact or_splice l m r;exact and_splice l m r
theorem F_drop (b:Bool) (l r:List Val) (v:Val) (h:v=boolW b ∨ v ∈ l):joinF b (l ++ v :: r)=joinF b (l ++ r):=by cases b;exact or_drop l r v h;exact and_drop l r v h
theorem F_single (b:Bool) {v:Val} (h:okV 2 v):joinF b [v]=v:=by cases b;exact or_single h;exact and_single h
theorem F_has (b:Bool) {l:List Val} (h:boolW (!b) ∈ l):joinF b l=boolW (!b):=by cases b;exact or_has h;exact and_has h
theorem goneL_or (a:Expr):∀ (l:List Expr) (g:Bool),goneL a g l=(g || l.any fun x=>sameE x a)
 | [],g=>by simp [goneL]
 | x :: r,g=>by rw [goneL,goneL_or a r,List.any_cons];cases g <;> simp
theorem split_at {l r:List Expr} {a:Expr} {i:Nat} (h:l.drop i=a :: r):i < l.length∧l=l.take i ++ a :: l.drop (i + 1)∧l.drop (i + 1)=r:=by
 have hi:i < l.length:=by
  rcases Nat.lt_or_ge i l.length with h' | h'
  ·exact h'
  ·rw [List.drop_eq_nil_of_le h'] at h;cases h
 rw [List.drop_eq_getElem_cons hi] at h
 obtain ⟨rfl,hr⟩:=List.cons.inj h
 refine ⟨hi,?_,hr⟩
 rw [← List.drop_eq_getElem_cons hi]
 exact (List.take_append_drop i l).symm
variable {cols:List Col}
theorem oneOr_F {e:Expr} {b:Bool} (evF:∀ x:Expr,x.op=e.op→evalE row x=joinF b (x.args.map (evalE row))) {l:List Expr} (hl:∀ a ∈ l,okV 2 (evalE row a)):evalE row (oneOr e l)=joinF b (l.map (evalE row)):=by
 unfold oneOr
 split
 ·rename_i h
  have h:l.length=1:=by simp at h;omega
  match l,h with
  | [a],_=>
   show evalE row a=joinF b [evalE row a]
   rw [F_single b (hl a (by simp))]
 ·rw [evF _ (setA_op e l),setA_args]
theorem listed_eval {e:Expr} {b:Bool} (evF:∀ x:Expr,x.op=e.op→evalE row x=joinF b (x.args.map (evalE row))) (hok:∀ a ∈ e.args,okV 2 (evalE row a)) (hs:(listedE e b).2=true):evalE row (listedE e b).1=evalE row e:=by
 rw [evF e rfl]
 have r3:∀ (l:List Expr),(∀ a ∈ l,a ∈ e.args)→(list3 e b l).2=true→evalE row (list3 e b l).1=joinF b (e.args.map (evalE row)):=by
  intro l
  induction l with
  | nil=>intro _ h;cases h
  | cons a r ih=>
   intro hl h
   unfold list3 at h ⊢
   split
   ·rename_i hv
    have h1:evalE row a=boolW (!b):=isV_eval hv
    have:boolW (!b) ∈ e.args.map (evalE row):=by rw [← h1];exact List.mem_map_of_mem (hl a (by simp))
    rw [F_has b this]
    exact ev_truth _
   ·rename_i hv
    rw [if_neg hv] at h
    exact ih (fun x hx=>hl x (by simp [hx])) h
 have r2:∀ (l:List Expr) (i:Nat),e.args.drop i=l→(list2 e b l i).2=true→evalE row (list2 e b l i).1=joinF b (e.args.map (evalE row)):=by
  intro l
  induction l with
  | nil=>intro i _ h;exact r3 e.args (fun a h=>h) h
  | cons a r ih=>
   intro i hd h
   obtain ⟨hi,hsp,hr⟩:=split_at hd
   unfold list2 at h ⊢
   split
   ·rename_i hg
    have hmem:∀ x ∈ e.args.take i ++ e.args.drop (i + 1),x ∈ e.args:=fun x hx=>by
     rcases List.mem_append.1 hx with h | h
     ·exact List.mem_of_mem_take h
     ·exact List.mem_of_mem_drop h
    show evalE row (oneOr e (e.args.take i ++ e.args.drop (i + 1)))=_
    rw [oneOr_F evF fun x hx=>hok x (hmem x hx)]
    have hsp2:e.args.map (evalE row)=(e.args.take i).map (evalE row) ++ evalE row a :: (e.args.drop (i + 1)).map (evalE row):=by
     have h1:=congrArg (List.map (evalE row)) hsp
     rw [List.map_append,List.map_cons] at h1
     exact h1
    rw [hsp2,List.map_append]
    refine (F_drop b _ _ _ ?_).symm
    rw [goneL_or,Bool.or_eq_true] at hg
    rcases hg with hg | hg
    ·exact .inl (isV_eval hg)
    ·refine .inr ?_
     obtain ⟨x,hx,hxa⟩:=List.any_eq_true.1 hg
     rw [← same_eval x a hxa]
     exact List.mem_map_of_mem hx
   ·rename_i hg
    rw [if_neg hg] at h
    exact ih (i + 1) hr h
 have r1:∀ (l:List Expr) (i:Nat),e.args.drop i=l→(list1 e b l i).2=true→evalE row (list1 e b l i).1=joinF b (e.args.map (evalE row)):=by
  intro l
  induction l with
  | nil=>intro i _ h;exact r2 e.args 0 rfl h
  | cons a r ih=>
   intro i hd h
   obtain ⟨hi,hsp,hr⟩:=split_at hd
   unfold list1 at h ⊢
   split
   ·rename_i hj
    simp only [joins,Bool.and_eq_true,beq_iff_eq] at hj
    show evalE row (setA e (e.args.take i ++ a.args ++ e.args.drop (i + 1)))=_
    rw [evF _ (setA_op _ _),setA_args]
    have hsp2:e.args.map (evalE row)=(e.args.take i).map (evalE row) ++ evalE row a :: (e.args.drop (i + 1)).map (evalE row):=by
     have h1:=congrArg (List.map (evalE row)) hsp
     rw [List.map_append,List.map_cons] at h1
     exact h1
    rw [hsp2,evF a hj.1,F_splice]
    simp
   ·rename_i hg
    rw [if_neg hg] at h
    exact ih (i + 1) hr h
 exact r1 e.args 0 rfl hs
theorem strict_pair {op:Int} {x y:Val} (h4:12 ≤ op) (h17:op ≤ 17):strictV op [x,y]=boolW (if op == 12 then compareV x y == 0 else if op == 13 then !(compareV x y == 0) else if op == 14 then decide (compareV x y < 0) else if op == 15 then decide (compareV x y ≤ 0) else if op == 16 then decide (compareV x y > 0) else decide (compareV x y ≥ 0)):=by
 have:op=12 ∨ op=13 ∨ op=14 ∨ op=15 ∨ op=16 ∨ op=17:=by omega
 rcases this with rfl | rfl | rfl | rfl | rfl | rfl <;> rfl
theorem not_bool (b:Bool):notV (boolW b)=boolW (!b):=by cases b <;> decide
theorem opposite_val {op:Int} {x y:Val} (h4:12 ≤ op) (h17:op ≤ 17):strictV (opposite op) [x,y]=notV (strictV op [x,y]):=by
 have hr:=opposite_range h4 h17
 rw [strict_pair h4 h17,strict_pair hr.1 hr.2,not_bool]
 generalize compareV x y=c
 have:op=12 ∨ op=13 ∨ op=14 ∨ op=15 ∨ op=16 ∨ op=17:=by omega
 rcases this with rfl | rfl | rfl | rfl | rfl | rfl
 ·rfl
 ·show boolW (c == 0)=boolW (!!(c == 0));rw [Bool.not_not]
 ·show boolW (decide (c ≥ 0))=boolW (!decide (c < 0));congr 1;rw [Bool.eq_iff_iff];simp
 ·show boolW (decide (c > 0))=boolW (!decide (c ≤ 0));congr 1;rw [Bool.eq_iff_iff];simp
 ·show boolW (decide (c ≤ 0))=boolW (!decide (c > 0));congr 1;rw [Bool.eq_iff_iff];simp
 ·show boolW (decide (c < 0))=boolW (!decide (c ≥ 0));congr 1;rw [Bool.eq_iff_iff];simp
theorem exchanged_val {op:Int} {x y:Val} (h4:12 ≤ op) (h17:op ≤ 17):strictV (exchanged op) [y,x]=strictV op [x,y]:=by
 have hr:=exchanged_range h4 h17
 rw [strict_pair h4 h17,strict_pair hr.1 hr.2,compare_anti x y]
 generalize compareV x y=c
 have:op=12 ∨ op=13 ∨ op=14 ∨ op=15 ∨ op=16 ∨ op=17:=by omega
 rcases this with rfl | rfl | rfl | rfl | rfl | rfl
 ·show boolW (-c == 0)=boolW (c == 0);congr 1;rw [Bool.eq_iff_iff];simp
 ·show boolW (!(-c == 0))=boolW (!(c == 0));congr 2;rw [Bool.eq_iff_iff];simp
 ·show boolW (decide (-c > 0))=boolW (decide (c < 0));congr 1;rw [Bool.eq_iff_iff];simp
 ·show boolW (decide (-c ≥ 0))=boolW (decide (c ≤ 0));congr 1;rw [Bool.eq_iff_iff];simp
 ·show boolW (decide (-c < 0))=boolW (decide (c > 0));congr 1;rw [Bool.eq_iff_iff];simp
 ·show boolW (decide (-c ≤ 0))=boolW (decide (c ≥ 0));congr 1;rw [Bool.eq_iff_iff];simp
theorem not_eval (hf:FitR cols row) {a:Expr} (ha:Has cols a 2) (hs:(notE a).2=true):evalE row (notE a).1=notV (evalE row a):=by
 have hi:a.op=21 ∨ (12 ≤ a.op∧a.op ≤ 17) ∨ a.op=19 ∨ a.op=20→Inner a:=fun h=>nodeR_inner (wf_node ha.wf) (by omega) (by omega) (by omega)
 unfold notE at hs ⊢
 split
 ·rename_i h
  have h:a.op=21:=by simpa using h
  obtain ⟨x,hx⟩:=args1 (hi (.inl h)) (by omega)
  obtain ⟨hax,hsig⟩:=has_elim ha (by omega)
  rw [hx,h] at hsig
  have hkx:kd cols x=2:=by simp [sig,allK1] at hsig;exact hsig
  have hxh:=hax x (by simp [hx])
  rw [hkx] at hxh
  rw [ev21 h hx,hx]
  exact (not_not (eval_kind hf hxh)).symm
 rename_i n21
 rw [if_neg n21] at hs
 split
 ·rename_i h
  simp only [Bool.and_eq_true,decide_eq_true_eq] at h
  obtain ⟨x,y,hxy⟩:=args2 (hi (.inr (.inl ⟨h.1,h.2⟩))) (by omega) (by omega) (by omega)
  have hr:=opposite_range h.1 h.2
  rw [evS2 (by omega) (by omega) hxy]
  show evalE row (opE (opposite a.op) a.args)=_
  rw [evS2 (e:=opE (opposite a.op) a.args) (show 4 ≤ opposite a.op by omega) (show opposite a.op ≤ 17 by omega) hxy]
  split
  ·rfl
  ·exact opposite_val h.1 h.2
 rename_i nc
 rw [if_neg nc] at hs
 split
 ·rename_i h
  have h:a.op=19 ∨ a.op=20:=by simpa using h
  obtain ⟨hax,hsig⟩:=has_elim ha (by omega)
  have hall:∀ v ∈ a.args.map (evalE row),okV 2 v:=fun v hv=>by
   obtain ⟨x,hx,rfl⟩:=List.mem_map.1 hv
   have hkx:kd cols x=2:=by
    have:allK1 2 (a.args.map (kd cols))=true:=by rcases h with h | h <;> (rw [h] at hsig;simp [sig] at hsig;exact hsig)
    exact allK1_mem this x hx
   have:=hax x hx
   rw [hkx] at this
   exact eval_kind hf this
  have hmap:(a.args.map fun x=>opE 21 [x]).map (evalE row)=(a.args.map (evalE row)).map notV:=by
   rw [List.map_map,List.map_map]
   exact List.map_congr_left fun x _=>ev21 (e:=opE 21 [x]) rfl rfl
  rcases h with h | h
  ·rw [ev19 h]
   show evalE row (opE (39 - a.op) (a.args.map fun x=>opE 21 [x]))=_
   rw [ev20 (e:=opE (39 - a.op) (a.args.map fun x=>opE 21 [x])) (show 39 - a.op=20 by omega)]
   show orVs ((a.args.map fun x=>opE 21 [x]).map (evalE row))=_
   rw [hmap,or_not hall]
  ·rw [ev20 h]
   show evalE row (opE (39 - a.op) (a.args.map fun x=>opE 21 [x]))=_
   rw [ev19 (e:=opE (39 - a.op) (a.args.map fun x=>opE 21 [x])) (show 39 - a.op=19 by omega)]
   show andV ((a.args.map fun x=>opE 21 [x]).map (evalE row))=_
   rw [hmap,and_not hall]
 ·rename_i nl
  rw [if_neg nl] at hs;cases hs
theorem isNull_eval {k:Int} {a:Expr} (ha:Has cols a k) (h:isNull a=true):evalE row a=nullW:=by
 simp only [isNull,Bool.and_eq_true,beq_iff_eq] at h
 rw [ev_op3 h.1]
 exact okV_zero (okV_lit ha h.1) h.2
theorem null_eq {k:Int} {v:Val} (h:okV k v):(nullW == v)=(v.kind == 0):=by
 rw [Bool.eq_iff_iff]
 simp only [beq_iff_eq]
 constructor
 ·intro h;rw [← h];rfl
 ·intro h0;exact (okV_zero h h0).symm
theorem sameStep_eval (hf:FitR cols row) {e a b:Expr} {ka kb:Int} (ho:e.op=18) (hab:e.args=[a,b]) (ha:Has cols a ka) (hb:Has cols b kb) (hs:(sameStepE cols a b).2=true):evalE row (sameStepE cols a b).1=evalE row e:=by
 have va:=eval_kind hf ha
 have vb:=eval_kind hf hb
 rw [ev18 ho hab]
 unfold sameStepE at hs ⊢
 split
 ·rename_i h
  rw [same_eval a b h]
  show boolW true=_
  simp
 rename_i n1
 rw [if_neg n1] at hs
 split
 ·rename_i h
  rw [isNull_eval ha h,null_eq vb]
  exact ev22 (e:=opE 22 [b]) rfl rfl
 rename_i n2
 rw [if_neg n2] at hs
 split
 ·rename_i h
  have:(evalE row a == evalE row b)=(nullW == evalE row a):=by
   rw [isNull_eval hb h,Bool.eq_iff_iff];simp only [beq_iff_eq];exact ⟨fun h=>h.symm,fun h=>h.symm⟩
  rw [this,null_eq va]
  exact ev22 (e:=opE 22 [a]) rfl rfl
 ·rename_i n3
  rw [if_neg n3] at hs
  simp only [Bool.and_eq_true,Bool.not_eq_true'] at hs
  have na:=sure_eval hf a.size (Nat.le_refl _) ha hs.1
  have nb:=sure_eval hf b.size (Nat.le_refl _) hb hs.2
  show evalE row (opE 12 [a,b])=_
  rw [evS2 (e:=opE 12 [a,b]) (show (4:Int) ≤ 12 by decide) (show (12:Int) ≤ 17 by decide) rfl,if_neg (by simp [na,nb])]
  show strictV 12 [evalE row a,evalE row b]=_
  rw [strict_pair (by decide) (by decide)]
  show boolW (compareV _ _ == 0)=_
  rw [compare_eq]
end
end Go.Proofs.YtgiedlcjlalpcaaGreat
namespace Go.Proofs.YtgiedlcjlalpcaaGreat
open Go.Abs
section
variable {row:List Val} {cols:List Col}
theorem lastV_app (l:List Val) (v:Val):lastV (l ++ [v])=v:=by unfold lastV;simp
theorem lastV_app' {l m:List Val} (h:m ≠ []):lastV (l ++ m)=lastV m:=by
 unfold lastV
 rw [List.getLastD_eq_getLast?,List.getLastD_eq_getLast?,List.getLast?_append,List.getLast?_eq_some_getLast h]
 rfl
theorem lastE_eval {l:List Expr} (h:l ≠ []):evalE row (lastE l)=lastV (l.map (evalE row)):=by
 unfold lastE lastV
 rw [List.getLastD_eq_getLast?,List.getLastD_eq_getLast?,List.getLast?_map,List.getLast?_eq_some_getLast h]
 rfl
theorem take_two {l:List Val} {i:Nat} (h:i + 1 < l.length):l=l.take i ++ l[i] :: l[i + 1] :: l.drop (i + 2):=by
 rw [← List.drop_eq_getElem_cons (show i + 1 < l.length from h),← List.drop_eq_getElem_cons (show i < l.length by omega)]
 exact (List.take_append_drop i l).symm
theorem oneOr_case {e:Expr} (ho:e.op=24) {l:List Expr} (hl:l ≠ []):evalE row (oneOr e l)=caseV (lastV (l.map (evalE row))) (l.map (evalE row)):=by
 unfold oneOr
 split
 ·rename_i h
  have h:l.length=1:=by simp at h;omega
  match l,h with
  | [a],_=>rfl
 ·rw [ev24 (by rw [setA_op];exact ho),setA_args]
theorem isLit_true {k:Int} {a:Expr} (ha:Has cols a k) (h:isLit a=true):evalE row a=a.lit:=ev_op3 (by simpa [isLit] using h)
theorem case2_eval {e:Expr} (ho:e.op=24) (q:Nat) (hq:e.args.length=2 * q + 1):∀ (d m:Nat),q - m ≤ d→m ≤ q→(∀ j,j < m→evalE row (e.args.getD (2 * j + 1) zeroE)=evalE row (lastE e.args))→(case2 e (2 * q) (2 * m + 1)).2=true→evalE row (case2 e (2 * q) (2 * m + 1)).1=evalE row e
 | d,m,hd,hm,hp,hs=>by
  rw [case2] at hs ⊢
  split
  ·rename_i hi
   rw [dif_pos hi] at hs
   split
   ·rename_i hse
    rw [if_pos hse] at hs
    match d with
    | 0=>omega
    | d + 1=>
     have:=case2_eval ho q hq d (m + 1) (by omega) (by omega) (fun j hj=>by
      rcases Nat.lt_or_ge j m with h | h
      ·exact hp j h
      ·have:j=m:=by omega
       subst this
       exact same_eval _ _ hse)
     exact this hs
   ·rename_i hse
    rw [if_neg hse] at hs
    try cases hs
  ·rename_i hi
   have hmq:m=q:=by omega
   subst hmq
   have hne:e.args ≠ []:=by
    intro h;rw [h] at hq;simp at hq
   show evalE row (lastE e.args)=_
   rw [ev24 ho,← lastE_eval hne]
   refine (caseV_same _ m _ (by simpa using hq) fun j hj=>?_).symm
   have h1:2 * j + 1 < e.args.length:=by omega
   have h2:=hp j hj
   rw [getD_E _ _ h1] at h2
   rw [← h2]
   simp [List.getD_eq_getElem?_getD,h1]
theorem case1_eval {e:Expr} (hk:∀ a ∈ e.args,∃ k,Has cols a k) (ho:e.op=24) (q:Nat) (hq:e.args.length=2 * q + 1):∀ (d m:Nat),q - m ≤ d→m ≤ q→(case1 e (2 * q) (2 * m)).2=true→evalE row (case1 e (2 * q) (2 * m)).1=evalE row e
 | d,m,hd,hm,hs=>by
  have hne:e.args ≠ []:=by intro h;rw [h] at hq;simp at hq
  rw [case1] at hs ⊢
  split
  ·rename_i hi
   rw [dif_pos hi] at hs
   split
   ·rename_i hl
    have h0:2 * m < e.args.length:=by omega
    have h1:2 * m + 1 < e.args.length:=by omega
    rw [getD_E _ _ h0] at hl ⊢
    rw [getD_E _ _ h1]
    obtain ⟨k0,hk0⟩:=hk _ (List.getElem_mem h0)
    have hv0:evalE row e.args[2 * m]=e.args[2 * m].lit:=isLit_true hk0 hl
    have hsp:=take_two (l:=e.args.map (evalE row)) (i:=2 * m) (by simpa using h1)
    simp only [List.getElem_map] at hsp
    rw [ev24 ho]
    have hpre:((e.args.map (evalE row)).take (2 * m)).length=2 * m:=by simp;omega
    show evalE row (oneOr e _)=_
    by_cases ht:trueV e.args[2 * m].lit=true
    ·rw [if_pos ht,oneOr_case ho (by simp)]
     rw [List.map_append,List.map_cons,List.map_nil,lastV_app]
     conv=>rhs;rw [hsp]
     rw [List.map_take]
     refine caseV_pre _ _ _ _ ?_ m _ hpre
     rw [caseV,hv0,if_pos ht]
     rfl
    ·rw [if_neg ht]
     have hdn:e.args.drop (2 * m + 2) ≠ []:=by
      intro h;have:=congrArg List.length h;simp at this;omega
     rw [oneOr_case ho (by simp [hdn])]
     rw [List.map_append,List.map_take,List.map_drop]
     have hdn2:(e.args.map (evalE row)).drop (2 * m + 2) ≠ []:=by
      intro h;have:=congrArg List.length h;simp at this;omega
     have hlast:lastV (e.args.map (evalE row))=lastV ((e.args.map (evalE row)).take (2 * m) ++ (e.args.map (evalE row)).drop (2 * m + 2)):=by
      rw [lastV_app' hdn2]
      conv=>lhs;rw [hsp]
      rw [lastV_app' (by simp),show evalE row e.args[2 * m] :: evalE row e.args[2 * m + 1] :: (e.args.map (evalE row)).drop (2 * m + 2)=[evalE row e.args[2 * m],evalE row e.args[2 * m + 1]] ++ (e.args.map (evalE row)).drop (2 * m + 2) from rfl,lastV_app' hdn2]
     rw [← hlast]
     generalize lastV (e.args.map (evalE row))=last
     conv=>rhs;rw [hsp]
     refine caseV_pre _ _ _ _ ?_ m _ hpre
     rw [caseV,hv0,if_neg ht]
   ·rename_i hl
    rw [if_neg hl] at hs
    match d with
    | 0=>omega
    | d + 1=>
     have:=case1_eval hk ho q hq d (m + 1) (by omega) (by omega)
     exact this hs
  ·rename_i hi
   rw [dif_neg hi] at hs
   exact case2_eval ho q hq q 0 (by omega) (by omega) (fun j hj=>by omega) hs
theorem oneOr_coal {e:Expr} (ho:e.op=25) {l:List Expr} {k:Int} (hk:∀ a ∈ l,okV k (evalE row a)):evalE row (oneOr e l)=coalV (l.map (evalE row)):=by
 unfold oneOr
 split
 ·rename_i h
  have h:l.length=1:=by simp at h;omega
  match l,h with
  | [a],_=>exact (coalV_single (hk a (by simp))).symm
 ·rw [ev25 (by rw [setA_op];exact ho),setA_args]
theorem first_eval (hf:FitR cols row) {e:Expr} {k:Int} (hk:∀ a ∈ e.args,Has cols a k) (ho:e.op=25) (h2:2 ≤ e.args.length) (hs:(firstE e cols).2=true):evalE row (firstE e cols).1=evalE row e:=by
 have hok:∀ a ∈ e.args,okV k (evalE row a):=fun a h=>eval_kind hf (hk a h)
 rw [ev25 ho]
 have r2:∀ (d i:Nat),e.args.length - 1 - i ≤ d→(first2 e cols (e.args.length - 1) i).2=true→evalE row (first2 e cols (e.args.length - 1) i).1=coalV (e.args.map (evalE row)):=by
  intro d
  induction d with
  | zero=>
   intro i hd h
   rw [first2,dif_neg (by omega)] at h
   cases h
  | succ d ih=>
   intro i hd h
   rw [first2] at h ⊢
   split
   ·rename_i hi
    rw [dif_pos hi] at h
    have hlt:i < e.args.length:=by omega
    split
    ·rename_i hn
     rw [if_pos hn] at h
     exact ih (i + 1) (by omega) h
    ·rename_i hn
     rw [getD_E _ _ hlt] at hn
     have hv:=sure_eval hf _ (Nat.le_refl _) (hk _ (List.getElem_mem hlt)) (by simpa using hn)
     have hsp:e.args.map (evalE row)=(e.args.take i).map (evalE row) ++ evalE row e.args[i] :: (e.args.drop (i + 1)).map (evalE row):=by
      have h1:e.args=e.args.take i ++ e.args[i] :: e.args.drop (i + 1):=by
       rw [← List.drop_eq_getElem_cons hlt];exact (List.take_append_drop i e.args).symm
      have h2:=congrArg (List.map (evalE row)) h1
      rw [List.map_append,List.map_cons] at h2
      exact h2
     rw [hsp,coalV_stop _ _ _ hv]
     show evalE row (if i=0 then hdE e.args else setA e (e.args.take (i + 1)))=_
     by_cases h0:i=0
     ·subst h0
      rw [if_pos rfl,← hdE_get hlt]
      simp only [List.take_zero,List.map_nil,List.nil_append]
      exact (coalV_single (hok _ (List.getElem_mem hlt))).symm
     ·rw [if_neg h0,ev25 (by rw [setA_op];exact ho),setA_args,List.take_succ_eq_append_getElem hlt,List.map_append]
      rfl
   ·rename_i hi
    rw [dif_neg hi] at h
    cases h
 have r1:∀ (l:List Expr) (i:Nat),e.args.drop i=l→(first1 e cols l i).2=true→evalE row (first1 e cols l i).1=coalV (e.args.map (evalE row)):=by
  intro l
  induction l with
  | nil=>intro i _ h;exact r2 _ 0 (Nat.le_refl _) h
  | cons a r ih=>
   intro i hd h
   obtain ⟨hi,hsp,hr⟩:=split_at hd
   unfold first1 at h ⊢
   split
   ·rename_i hn
    have ha:a ∈ e.args:=by rw [hsp];simp
    have hsp2:e.args.map (evalE row)=(e.args.take i).map (evalE row) ++ evalE row a :: (e.args.drop (i + 1)).map (evalE row):=by
     have h1:=congrArg (List.map (evalE row)) hsp
     rw [List.map_append,List.map_cons] at h1
     exact h1
    show evalE row (oneOr e (e.args.take i ++ e.args.drop (i + 1)))=_
    rw [oneOr_coal ho (k:=k) fun x hx=>hok x (by
     rcases List.mem_append.1 hx with h | h
     ·exact List.mem_of_mem_take h
     ·exact List.mem_of_mem_drop h)]
    rw [hsp2,List.map_append]
    exact (coalV_drop _ _ _ (by rw [isNull_eval (hk a ha) hn];rfl)).symm
   ·rename_i hn
    rw [if_neg hn] at h
    exact ih (i + 1) hr h
 exact r1 e.args 0 rfl hs
theorem evS_null {e a:Expr} (h4:4 ≤ e.op) (h17:e.op ≤ 17) (ha:a ∈ e.args) (hn:(evalE row a).kind=0):evalE row e=nullW:=by
 rw [evS h4 h17,if_pos]
 rw [anyNullV_iff]
 exact List.any_eq_true.2 ⟨_,List.mem_map_of_mem ha,by simpa using hn⟩
theorem eq_bool (x t:Bool):(if (boolW x).kind == 0 || (boolW t).kind == 0 then nullW else strictV 12 [boolW x,boolW t])=boolW (x == t):=by
 rw [if_neg (by cases x <;> cases t <;> decide),strict_pair (by decide) (by decide)]
 show boolW (compareV (boolW x) (boolW t) == 0)=_
 rw [compare_eq]
 cases x <;> cases t <;> decide
theorem compared_eval (hf:FitR cols row) {e a b:Expr} {k:Int} (h4:12 ≤ e.op) (h17:e.op ≤ 17) (hab:e.args=[a,b]) (ha:Has cols a k) (hb:Has cols b k) (hs:(comparedE e cols a b).2=true):evalE row (comparedE e cols a b).1=evalE row e:=by
 have va:=eval_kind hf ha
 have vb:=eval_kind hf hb
 rw [evS2 (by omega) h17 hab]
 unfold comparedE at hs ⊢
 split
 ·have hr:=exchanged_range h4 h17
  show evalE row (opE (exchanged e.op) [b,a])=_
  rw [evS2 (e:=opE (exchanged e.op) [b,a]) (show 4 ≤ exchanged e.op by omega) (show exchanged e.op ≤ 17 by omega) rfl,Bool.or_comm]
  split
  ·rfl
  ·exact exchanged_val h4 h17
 rename_i n1
 rw [if_neg n1] at hs
 have bval:∀ t:Bool,isV b (boolW t)=true→k=2:=fun t h=>by
  have h1:=isV_eval (row:=row) h
  rw [h1] at vb
  rcases vb.2.2 with h | h
  ·cases h
  ·exact h.symm
 split
 ·rename_i h
  simp only [Bool.and_eq_true,beq_iff_eq] at h
  have hk:=bval _ h.2
  subst hk
  rw [isV_eval h.2,h.1]
  show evalE row a=_
  rcases okV_two va with hv | hv | hv <;> rw [hv]
  ·rfl
  ·rw [eq_bool];rfl
  ·rw [eq_bool];rfl
 rename_i n2
 rw [if_neg n2] at hs
 split
 ·rename_i h
  simp only [Bool.and_eq_true,beq_iff_eq] at h
  have hk:=bval _ h.2
  subst hk
  rw [isV_eval h.2,h.1]
  show evalE row (opE 21 [a])=_
  rw [ev21 (e:=opE 21 [a]) rfl rfl]
  rcases okV_two va with hv | hv | hv <;> rw [hv]
  ·rfl
  ·rw [eq_bool];rfl
  ·rw [eq_bool];rfl
 rename_i n3
 rw [if_neg n3] at hs
 split
 ·rename_i h
  simp only [Bool.and_eq_true,Bool.not_eq_true'] at h
  have hna:=sure_eval hf a.size (Nat.le_refl _) ha h.2
  rw [← same_eval a b h.1,if_neg (by simp [hna]),strict_pair h4 h17,compare_self]
  show boolW _=_
  congr 1
  have:e.op=12 ∨ e.op=13 ∨ e.op=14 ∨ e.op=15 ∨ e.op=16 ∨ e.op=17:=by omega
  rcases this with h | h | h | h | h | h <;> rw [h] <;> decide
 ·rename_i n4
  rw [if_neg n4] at hs
  cases hs
theorem strict_op {op:Int} {x y:Val}:strictV 4 [x,y]=intW (w64 (x.int + y.int))∧strictV 5 [x,y]=intW (w64 (x.int - y.int))∧strictV 6 [x,y]=intW (w64 (x.int * y.int))∧strictV 7 [x,y]=divided 7 x.int y.int∧strictV 10 [x,y]=textW (catText x.text y.text):=⟨rfl,rfl,rfl,rfl,rfl⟩
theorem cat_nil {s:ByteArray} (h:s.size ≤ 200):catText s ⟨#[]⟩=s∧catText ⟨#[]⟩ s=s:=by
 have e1:s ++ (⟨#[]⟩:ByteArray)=s:=ByteArray.append_empty
 have e2:(⟨#[]⟩:ByteArray) ++ s=s:=ByteArray.empty_append
 unfold catText
 rw [e1,e2,if_neg (by omega),Int.toNat_natCast,ByteArray.extract_zero_size]
 exact ⟨rfl,rfl⟩
theorem computed_eval (hf:FitR cols row) (hr:∀ v ∈ row,inI v) {e:Expr} {k:Int} (h4:4 ≤ e.op) (h11:e.op ≤ 11) (hk:Has cols e k) (he:litR e) (hs:(computedE e cols).2=true):evalE row (computedE e cols).1=evalE row e:=by
 have hi:=nodeR_inner (wf_node hk.wf) (by omega) (by omega) (by omega)
 obtain ⟨hax,hsig⟩:=has_elim hk h4
 by_cases h2:e.op=9 ∨ e.op=11
 ·exfalso
  unfold computedE at hs
  rcases h2 with h | h <;> simp [h] at hs
 obtain ⟨a,b,hab⟩:=args2 hi (by omega) (by omega) (by omega)
 have ha:=hax a (by simp [hab])
 have hb:=hax b (by simp [hab])
 have e1:hdE e.args=a:=by rw [hab];rfl
 have e2:lastE e.args=b:=by rw [hab];rfl
 have la:=litR_arg he (a:=a) (by simp [hab])
 have lb:=litR_arg he (a:=b) (by simp [hab])
 have ia:=eval_in hf hr a.size (Nat.le_refl _) ha la
 have ib:=eval_in hf hr b.size (Nat.le_refl _) hb lb
 have va:=eval_kind hf ha
 have vb:=eval_kind hf hb
 have kinds:(e.op=10→kd cols a=3∧kd cols b=3)∧(e.op ≠ 10→kd cols a=1∧kd cols b=1):=by
  rw [hab] at hsig
  constructor
  ·intro h;simp [sig,h,allK1] at hsig;exact hsig.1
  ·intro h
   have:e.op=4 ∨ e.op=5 ∨ e.op=6 ∨ e.op=7 ∨ e.op=8:=by omega
   rcases this with h | h | h | h | h <;> (simp [sig,h,allK1] at hsig;exact hsig.1)
 have hev:=evS2 (row:=row) h4 (by omega) hab
 unfold computedE at hs ⊢
 rw [e1,e2] at hs ⊢
 dsimp only at hs ⊢
 generalize hx:evalE row a=x at *
 generalize hy:evalE row b=y at *
 have numA:e.op ≠ 10→x.kind ≠ 0→x=intW x.int:=fun h h0=>by rw [(kinds.2 h).1] at va;exact okV_one va h0
 have numB:e.op ≠ 10→y.kind ≠ 0→y=intW y.int:=fun h h0=>by rw [(kinds.2 h).2] at vb;exact okV_one vb h0
 have nulA:x.kind=0→x=nullW:=fun h0=>okV_zero va h0
 have nulB:y.kind=0→y=nullW:=fun h0=>okV_zero vb h0
 split
 ·rename_i h
  rw [hx,hev]
  simp only [Bool.or_eq_true,Bool.and_eq_true,beq_iff_eq] at h
  by_cases h0:x.kind=0
  ·rw [nulA h0];rfl
  rcases h with (((h | h) | h) | h) | h
  ·have hy':=isV_eval (row:=row) h.2
   rw [hy] at hy'
   subst hy'
   rw [h.1,if_neg (by simp [h0,intW])]
   show x=intW (w64 (x.int + 0))
   rw [Int.add_zero,w64_self ia];exact numA (by omega) h0
  ·have hy':=isV_eval (row:=row) h.2
   rw [hy] at hy'
   subst hy'
   rw [h.1,if_neg (by simp [h0,intW])]
   show x=intW (w64 (x.int - 0))
   rw [Int.sub_zero,w64_self ia];exact numA (by omega) h0
  ·have hy':=isV_eval (row:=row) h.2
   rw [hy] at hy'
   subst hy'
   rw [h.1,if_neg (by simp [h0,intW])]
   show x=intW (w64 (x.int * 1))
   rw [Int.mul_one,w64_self ia];exact numA (by omega) h0
  ·have hy':=isV_eval (row:=row) h.2
   rw [hy] at hy'
   subst hy'
   rw [h.1,if_neg (by simp [h0,intW])]
   show x=intW (w64 (x.int.tdiv 1))
   rw [Int.tdiv_one,w64_self ia];exact numA (by omega) h0
  ·have hy':=isV_eval (row:=row) h.2
   rw [hy] at hy'
   subst hy'
   rw [(kinds.1 h.1).1] at va
   obtain ⟨t1,t2⟩:=okV_three va h0
   rw [h.1,if_neg (by simp [h0,textW])]
   show x=textW (catText x.text ⟨#[]⟩)
   rw [(cat_nil t2).1];exact t1
 rename_i n1
 rw [if_neg n1] at hs
 split
 ·rename_i h
  rw [hy,hev]
  simp only [Bool.or_eq_true,Bool.and_eq_true,beq_iff_eq] at h
  by_cases h0:y.kind=0
  ·rw [nulB h0];simp [nullW]
  rcases h with (h | h) | h
  ·have hx':=isV_eval (row:=row) h.2
   rw [hx] at hx'
   subst hx'
   rw [h.1,if_neg (by simp [h0,intW])]
   show y=intW (w64 (0 + y.int))
   rw [Int.zero_add,w64_self ib];exact numB (by omega) h0
  ·have hx':=isV_eval (row:=row) h.2
   rw [hx] at hx'
   subst hx'
   rw [h.1,if_neg (by simp [h0,intW])]
   show y=intW (w64 (1 * y.int))
   rw [Int.one_mul,w64_self ib];exact numB (by omega) h0
  ·have hx':=isV_eval (row:=row) h.2
   rw [hx] at hx'
   subst hx'
   rw [(kinds.1 h.1).2] at vb
   obtain ⟨t1,t2⟩:=okV_three vb h0
   rw [h.1,if_neg (by simp [h0,textW])]
   show y=textW (catText ⟨#[]⟩ y.text)
   rw [(cat_nil t2).2];exact t1
 rename_i n2
 rw [if_neg n2] at hs
 split
 ·rename_i h
  rw [hev]
  simp only [Bool.or_eq_true,Bool.and_eq_true,beq_iff_eq,Bool.not_eq_true'] at h
  show intW 0=_
  rcases h with h | h
  ·have h0:=sure_eval hf a.size (Nat.le_refl _) ha h.2
   rw [hx] at h0
   have hy':=isV_eval (row:=row) h.1.2
   rw [hy] at hy'
   subst hy'
   rw [h.1.1,if_neg (by simp [h0,intW])]
   show intW 0=intW (w64 (x.int * 0))
   rw [Int.mul_zero]
   first | done | rfl
  ·have h0:=sure_eval hf b.size (Nat.le_refl _) hb h.2
   rw [hy] at h0
   have hx':=isV_eval (row:=row) h.1.2
   rw [hx] at hx'
   subst hx'
   rw [h.1.1,if_neg (by simp [h0,intW])]
   show intW 0=intW (w64 (0 * y.int))
   rw [Int.zero_mul]
   first | done | rfl
 ·rename_i n3
  rw [if_neg n3] at hs
  try cases hs
theorem step_eval (hf:FitR cols row) (hr:∀ v ∈ row,inI v) {e:Expr} {k:Int} (hk:Has cols e k) (he:litR e) (hs:(stepE e cols).2=true):evalE row (stepE e cols).1=evalE row e:=by
 unfold stepE at hs ⊢
 split
 ·rename_i h;rw [if_pos h] at hs;try cases hs
 rename_i n0
 rw [if_neg n0] at hs
 have hne:e.args ≠ []:=by intro h;rw [h] at n0;exact n0 rfl
 have hn:=wf_node hk.wf
 have hi:Inner e:=nodeR_inner hn (fun h=>hne (nodeR_leaf hn (.inl h))) (fun h=>hne (nodeR_leaf hn (.inr h))) (fun h=>hne (nodeR_lit hn h).2.2.2.2.2.1)
 have hlo:=hi.lo
 have hhi:=hi.hi
 obtain ⟨hax,hsig⟩:=has_elim hk hlo
 split
 ·rename_i hc
  have key:∀ (l:List Expr) (acc:List Val),(constL e cols acc l).2=true→(∀ a ∈ l,a.op=3)∧(constL e cols acc l).1=litE (kindE cols e).1.kind (valueV e (acc ++ l.map Expr.lit)):=by
   intro l
   induction l with
   | nil=>intro acc _;exact ⟨fun a h=>(by cases h),by rw [List.map_nil,List.append_nil];rfl⟩
   | cons a r ih=>
    intro acc h
    unfold constL at h ⊢
    split
    ·rename_i hl
     rw [if_pos hl] at h
     obtain ⟨g1,g2⟩:=ih _ h
     refine ⟨fun x hx=>?_,by rw [g2];simp⟩
     rcases List.mem_cons.1 hx with rfl | hx
     ·simpa [isLit] using hl
     ·exact g1 x hx
    ·rename_i hl
     rw [if_neg hl] at h;cases h
  obtain ⟨g1,g2⟩:=key e.args [] hc
  show evalE row (constL e cols [] e.args).1=_
  rw [g2,ev_lit,List.nil_append,evalE_op row (by omega)]
  congr 1
  exact List.map_congr_left fun a ha=>(ev_op3 (g1 a ha)).symm
 rename_i nc
 rw [if_neg nc] at hs
 have bools:(e.op=19 ∨ e.op=20)→∀ a ∈ e.args,okV 2 (evalE row a):=fun h a ha=>by
  have h1:allK1 2 (e.args.map (kd cols))=true:=by rcases h with h | h <;> (rw [h] at hsig;simp [sig] at hsig;exact hsig.1)
  have:=hax a ha
  rw [allK1_mem h1 a ha] at this
  exact eval_kind hf this
 split
 ·rename_i h
  rw [if_pos h] at hs
  have h:e.op=19:=by simpa using h
  exact listed_eval (b:=true) (fun x hx=>ev19 (by omega)) (bools (.inl h)) hs
 rename_i n19
 rw [if_neg n19] at hs
 split
 ·rename_i h
  rw [if_pos h] at hs
  have h:e.op=20:=by simpa using h
  exact listed_eval (b:=false) (fun x hx=>ev20 (by omega)) (bools (.inr h)) hs
 rename_i n20
 rw [if_neg n20] at hs
 split
 ·rename_i h
  rw [if_pos h] at hs
  have h:e.op=21:=by simpa using h
  obtain ⟨a,hab⟩:=args1 hi (by omega)
  have ha:=hax a (by simp [hab])
  have hka:kd cols a=2:=by rw [hab,h] at hsig;simp [sig,allK1] at hsig;exact hsig.1
  rw [hka] at ha
  have e1:hdE e.args=a:=by rw [hab];rfl
  rw [e1] at hs ⊢
  rw [ev21 h hab]
  exact not_eval hf ha hs
 rename_i n21
 rw [if_neg n21] at hs
 split
 ·rename_i h
  rw [if_pos h] at hs
  have h:e.op=22:=by simpa using h
  obtain ⟨a,hab⟩:=args1 hi (by omega)
  have ha:=hax a (by simp [hab])
  have e1:hdE e.args=a:=by rw [hab];rfl
  rw [e1] at hs
  have h0:=sure_eval hf a.size (Nat.le_refl _) ha (by simpa using hs)
  rw [ev22 h hab]
  show boolW false=_
  congr 1
  exact (beq_eq_false_iff_ne.2 h0).symm
 rename_i n22
 rw [if_neg n22] at hs
 split
 ·rename_i h
  rw [if_pos h] at hs
  have h:e.op=23:=by simpa using h
  obtain ⟨a,hab⟩:=args1 hi (by omega)
  have ha:=hax a (by simp [hab])
  have hka:kd cols a=2:=by rw [hab,h] at hsig;simp [sig,allK1] at hsig;exact hsig.1
  rw [hka] at ha
  have e1:hdE e.args=a:=by rw [hab];rfl
  rw [e1] at hs
  have h0:=sure_eval hf a.size (Nat.le_refl _) ha (by simpa using hs)
  rw [ev23 h hab]
  show evalE row (hdE e.args)=_
  rw [e1]
  rcases okV_two (eval_kind hf ha) with hv | hv | hv
  ·rw [hv] at h0;exact absurd rfl h0
  ·rw [hv];rfl
  ·rw [hv];rfl
 rename_i n23
 rw [if_neg n23] at hs
 split
 ·rename_i h
  rw [if_pos h] at hs
  have h:e.op=18:=by simpa using h
  obtain ⟨a,b,hab⟩:=args2 hi (by omega) (by omega) (by omega)
  have e1:hdE e.args=a:=by rw [hab];rfl
  have e2:lastE e.args=b:=by rw [hab];rfl
  rw [e1,e2] at hs ⊢
  exact sameStep_eval hf h hab (hax a (by simp [hab])) (hax b (by simp [hab])) hs
 rename_i n18
 rw [if_neg n18] at hs
 split
 ·rename_i h
  rw [if_pos h] at hs
  have h:e.op=24:=by simpa using h
  obtain ⟨_,hodd⟩:=args_case hi h
  have hq:e.args.length=2 * (e.args.length / 2) + 1:=by omega
  unfold casesE at hs ⊢
  rw [show e.args.length - 1=2 * (e.args.length / 2) by omega] at hs ⊢
  exact case1_eval (fun a ha=>⟨_,hax a ha⟩) h _ hq _ 0 (Nat.le_refl _) (by omega) hs
 rename_i n24
 rw [if_neg n24] at hs
 split
 ·rename_i h
  rw [if_pos h] at hs
  have h:e.op=25:=by simpa using h
  have hall:allK1 k (e.args.map (kd cols))=true:=by rw [h] at hsig;exact hsig
  exact first_eval hf (k:=k) (fun a ha=>by have:=hax a ha;rw [allK1_mem hall a ha] at this;exact this) h (args_list hi (by omega)).1 hs
 rename_i n25
 rw [if_neg n25] at hs
 simp only [beq_iff_eq] at n19 n20 n21 n22 n23 n18 n24 n25
 have h17:e.op ≤ 17:=by omega
 have key:∀ (l:List Expr),(∀ a ∈ l,a ∈ e.args)→(strictL e cols l).2=true→evalE row (strictL e cols l).1=evalE row e:=by
  intro l
  induction l with
  | nil=>
   intro _ h
   unfold strictL at h ⊢
   split
   ·rename_i hc
    rw [if_pos hc] at h
    simp only [Bool.and_eq_true,decide_eq_true_eq] at hc
    obtain ⟨a,b,hab⟩:=args2 hi (by omega) (by omega) (by omega)
    have e1:hdE e.args=a:=by rw [hab];rfl
    have e2:lastE e.args=b:=by rw [hab];rfl
    rw [e1,e2] at h ⊢
    have hall:kd cols b=kd cols a:=by
     rw [hab] at hsig
     have:e.op=12 ∨ e.op=13 ∨ e.op=14 ∨ e.op=15 ∨ e.op=16 ∨ e.op=17:=by omega
     rcases this with h | h | h | h | h | h <;> (simp [sig,h,allK1] at hsig;exact hsig.1)
    have hb:=hax b (by simp [hab])
    rw [hall] at hb
    exact compared_eval hf hc.1 hc.2 hab (hax a (by simp [hab])) hb h
   ·rename_i hc
    rw [if_neg hc] at h
    simp only [Bool.and_eq_true,decide_eq_true_eq] at hc
    exact computed_eval hf hr hlo (by omega) hk he h
  | cons a r ih=>
   intro hl h
   unfold strictL at h ⊢
   split
   ·rename_i hn
    have ham:=hl a (by simp)
    have h0:=isNull_eval (row:=row) (hax a ham) hn
    exact (evS_null hlo h17 ham (by rw [h0];rfl)).symm
   ·rename_i hn
    rw [if_neg hn] at h
    exact ih (fun x hx=>hl x (by simp [hx])) h
 exact key e.args (fun a h=>h) hs
theorem simp_eval (hf:FitR cols row) (hr:∀ v ∈ row,inI v) {e y:Expr} (hs:Simp cols e y):∀ {k:Int},Has cols e k→litR e→litR y∧evalE row y=evalE row e:=by
 have key:∀ {e:Expr} {xs:List Expr} {k:Int},Has cols e k→litR e→e.args.length=xs.length→(∀ (i:Nat) (h1:i < e.args.length) (h2:i < xs.length),litR xs[i]∧evalE row xs[i]=evalE row e.args[i])→litR (setA e xs)∧evalE row (setA e xs)=evalE row e:=by
  intro e xs k hk he hl hx
  refine ⟨litR_set he fun a ha=>?_,?_⟩
  ·obtain ⟨i,hi,rfl⟩:=List.getElem_of_mem ha
   exact (hx i (by omega) hi).1
  ·have hm:xs.map (evalE row)=e.args.map (evalE row):=by
    refine List.ext_getElem (by simp [hl]) fun i h1 h2=>?_
    simp only [List.getElem_map]
    exact (hx i (by simpa using h2) (by simpa using h1)).2
   rw [evalE_eq,evalE_eq row e,setA_args,hm,setA_op]
   split
   ·show row.getD e.n.toNat nullW=_;rfl
   ·exact valueV_of (setA_op e xs) rfl _
 induction hs with
 | stay e xs hl h hs ih=>intro k hk he;exact key hk he hl fun i h1 h2=>ih i h1 h2 (arg_has hk (List.getElem_mem h1)) (litR_arg he (List.getElem_mem h1))
 | go e xs y hl h hs hy ih ihy=>
  intro k hk he
  have hA:Has cols (setA e xs) k:=has_args hk hl fun i h1 h2=>simp_has (h i h1 h2) (arg_has hk (List.getElem_mem h1))
  obtain ⟨g1,g2⟩:=key hk he hl fun i h1 h2=>ih i h1 h2 (arg_has hk (List.getElem_mem h1)) (litR_arg he (List.getElem_mem h1))
  obtain ⟨k1,k2⟩:=ihy (step_has hA hs) (step_litR hA g1)
  exact ⟨k1,by rw [k2,step_eval hf hr hA g1 hs,g2]⟩
end
end Go.Proofs.YtgiedlcjlalpcaaGreat
namespace Go.Proofs.YtgiedlcjlalpcaaGreat
open Go.Abs
section
variable {row:List Val} {cols:List Col}
theorem true_bool (b:Bool):trueV (boolW b)=b:=by cases b <;> decide
theorem true_and {l:List Val} (h:∀ v ∈ l,okV 2 v):trueV (andV l)=l.all trueV:=by
 induction l with
 | nil=>decide
 | cons a r ih=>
  have hr:=ih fun v hv=>h v (by simp [hv])
  rw [List.all_cons,← hr]
  have hcons:andV (a :: r)=andV [a,andV r]:=by
   have:=and_splice [a] r []
   simp only [List.cons_append,List.nil_append,List.append_nil] at this
   exact this.symm
  rw [hcons]
  have h2:andV r=boolW true ∨ andV r=boolW false ∨ andV r=nullW:=by
   rw [and_if]
   split
   ·exact .inr (.inl rfl)
   split
   ·exact .inr (.inr rfl)
   ·exact .inl rfl
  rcases okV_two (h a (by simp)) with ha | ha | ha <;> rcases h2 with h2 | h2 | h2 <;> rw [ha,h2] <;> decide
theorem true_or {l:List Val} (h:∀ v ∈ l,okV 2 v):trueV (orVs l)=l.any trueV:=by
 induction l with
 | nil=>decide
 | cons a r ih=>
  have hr:=ih fun v hv=>h v (by simp [hv])
  rw [List.any_cons,← hr]
  have hcons:orVs (a :: r)=orVs [a,orVs r]:=by
   have:=or_splice [a] r []
   simp only [List.cons_append,List.nil_append,List.append_nil] at this
   exact this.symm
  rw [hcons]
  have h2:orVs r=boolW true ∨ orVs r=boolW false ∨ orVs r=nullW:=by
   rw [or_if]
   split
   ·exact .inl rfl
   split
   ·exact .inr (.inr rfl)
   ·exact .inr (.inl rfl)
  rcases okV_two (h a (by simp)) with ha | ha | ha <;> rcases h2 with h2 | h2 | h2 <;> rw [ha,h2] <;> decide
theorem isTrue_val {s:Expr} (h:Has cols s 2) (h3:s.op=3):isTrue s=trueV s.lit:=by
 unfold isTrue
 rw [h3]
 rcases okV_two (okV_lit h h3) with hv | hv | hv <;> rw [hv] <;> decide
theorem cond_eval (hf:FitR cols row) (hr:∀ v ∈ row,inI v) {e y:Expr} (h:CondS cols e y):Has cols e 2→litR e→litR y∧trueV (evalE row y)=trueV (evalE row e):=by
 induction h with
 | lit e s hs h=>
  intro hk he
  obtain ⟨g1,g2⟩:=simp_eval hf hr hs hk he
  refine ⟨litR_truth _,?_⟩
  rw [ev_truth,true_bool,← g2,ev_op3 h,isTrue_val (simp_has hs hk) h]
 | istrue e s y a hs h ha hy ih=>
  intro hk he
  obtain ⟨g1,g2⟩:=simp_eval hf hr hs hk he
  have hsk:=simp_has hs hk
  obtain ⟨k1,k2⟩:=ih (has_istrue_elim hsk h ha) (litR_arg g1 (by rw [ha];simp))
  refine ⟨k1,?_⟩
  rw [k2,← g2,ev23 h ha,true_bool]
 | coal e s y a b hs h ha hb hy ih=>
  intro hk he
  obtain ⟨g1,g2⟩:=simp_eval hf hr hs hk he
  have hsk:=simp_has hs hk
  have hka:=has_coal_elim hsk h a (by rw [ha];simp)
  obtain ⟨k1,k2⟩:=ih hka (litR_arg g1 (by rw [ha];simp))
  refine ⟨k1,?_⟩
  have hbv:evalE row b=boolW false:=isV_eval hb
  rw [k2,← g2,ev25 h,ha]
  simp only [List.map_cons,List.map_nil,hbv]
  rcases okV_two (eval_kind hf hka) with hv | hv | hv <;> rw [hv] <;> decide
 | coal1 e n m k v a b c l r hs=>
  intro hk he
  obtain ⟨g1,g2⟩:=simp_eval hf hr hs hk he
  exact ⟨g1,by rw [g2]⟩
 | coal2 e n m k v a b r hs hb=>
  intro hk he
  obtain ⟨g1,g2⟩:=simp_eval hf hr hs hk he
  exact ⟨g1,by rw [g2]⟩
 | other e s hs h3 h23 h19 h20 h25=>
  intro hk he
  obtain ⟨g1,g2⟩:=simp_eval hf hr hs hk he
  exact ⟨g1,by rw [g2]⟩
 | same e s xs hs hop hl h hq ih=>
  intro hk he
  obtain ⟨g1,g2⟩:=simp_eval hf hr hs hk he
  exact ⟨g1,by rw [g2]⟩
 | go e s y xs hs hop hl h hq hy ih ihy=>
  intro hk he
  obtain ⟨g1,g2⟩:=simp_eval hf hr hs hk he
  have hsk:=simp_has hs hk
  have hargs:=has_list_elim hsk hop
  have hx:∀ a ∈ xs,Has cols a 2:=by
   intro a ha
   obtain ⟨i,hi,rfl⟩:=List.getElem_of_mem ha
   exact cond_has (h i (by omega) hi) (hargs _ (List.getElem_mem _))
  have hxl:∀ a ∈ xs,litR a:=by
   intro a ha
   obtain ⟨i,hi,rfl⟩:=List.getElem_of_mem ha
   exact (ih i (by omega) hi (hargs _ (List.getElem_mem _)) (litR_arg g1 (List.getElem_mem _))).1
  obtain ⟨k1,k2⟩:=ihy (go_has hsk hop hl hx) (litR_op hxl)
  refine ⟨k1,?_⟩
  rw [k2,← g2]
  have hm:(xs.map (evalE row)).map trueV=(s.args.map (evalE row)).map trueV:=by
   refine List.ext_getElem (by simp [hl]) fun i h1 h2=>?_
   simp only [List.getElem_map]
   have i1:i < s.args.length:=by simpa using h2
   have i2:i < xs.length:=by simpa using h1
   exact (ih i i1 i2 (hargs _ (List.getElem_mem _)) (litR_arg g1 (List.getElem_mem _))).2
  have ok1:∀ v ∈ xs.map (evalE row),okV 2 v:=fun v hv=>by
   obtain ⟨a,ha,rfl⟩:=List.mem_map.1 hv
   exact eval_kind hf (hx a ha)
  have ok2:∀ v ∈ s.args.map (evalE row),okV 2 v:=fun v hv=>by
   obtain ⟨a,ha,rfl⟩:=List.mem_map.1 hv
   exact eval_kind hf (hargs a ha)
  rcases hop with h | h
  ·rw [ev19 (e:=opE s.op xs) h,ev19 h]
   show trueV (andV (xs.map (evalE row)))=_
   rw [true_and ok1,true_and ok2]
   have e1:∀ l:List Val,l.all trueV=(l.map trueV).all id:=fun l=>by rw [List.all_map];rfl
   rw [e1,e1,hm]
  ·rw [ev20 (e:=opE s.op xs) h,ev20 h]
   show trueV (orVs (xs.map (evalE row)))=_
   rw [true_or ok1,true_or ok2]
   have e1:∀ l:List Val,l.any trueV=(l.map trueV).any id:=fun l=>by rw [List.any_map];rfl
   rw [e1,e1,hm]
end
end Go.Proofs.YtgiedlcjlalpcaaGreat
