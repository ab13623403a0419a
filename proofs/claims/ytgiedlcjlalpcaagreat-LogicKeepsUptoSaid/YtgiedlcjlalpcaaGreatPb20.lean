/- Part of a proof: V2. -/
import Derived.Test.YtgiedlcjlalpcaaGreatPb19
set_option linter.all false
namespace Go.Proofs.YtgiedlcjlalpcaaGreat
open Go.Abs
theorem has_list_elim {cols:List Col} {e:Expr} (h:Has cols e 2) (ho:e.op=19 ∨ e.op=20):∀ a ∈ e.args,Has cols a 2:=by
 obtain ⟨ha,hs⟩:=has_elim h (by rcases ho with h | h <;> omega)
 rw [sig_list ho] at hs
 simp only [Bool.and_eq_true] at hs
 have hk:=allK1_iff.1 hs.1
 exact fun a hm=>⟨(ha a hm).wf,(ha a hm).ok,hk a hm⟩
theorem has_istrue_elim {cols:List Col} {e a:Expr} {k:Int} (h:Has cols e k) (ho:e.op=23) (hargs:e.args=[a]):Has cols a 2:=by
 obtain ⟨ha,hs⟩:=has_elim h (by omega)
 have h1:=ha a (by rw [hargs];simp)
 refine ⟨h1.wf,h1.ok,?_⟩
 rw [hargs,ho] at hs
 simp [sig,allK1] at hs
 exact hs.1
theorem has_coal_elim {cols:List Col} {e:Expr} {k:Int} (h:Has cols e k) (ho:e.op=25):∀ a ∈ e.args,Has cols a k:=by
 obtain ⟨ha,hs⟩:=has_elim h (by omega)
 intro a hm
 refine ⟨(ha a hm).wf,(ha a hm).ok,?_⟩
 rw [ho] at hs
 have hs':allK1 k (e.args.map (kd cols))=true:=hs
 exact allK1_iff.1 hs' a hm
theorem cond_has {cols:List Col} {e y:Expr} (h:CondS cols e y):Has cols e 2→Has cols y 2:=by
 induction h with
 | lit e s hs h=>intro _;exact has_truth cols _
 | istrue e s y a hs h ha hy ih=>intro hk;exact ih (has_istrue_elim (simp_has hs hk) h ha)
 | coal e s y a b hs h ha hb hy ih=>intro hk;exact ih (has_coal_elim (simp_has hs hk) h a (by rw [ha];simp))
 | coal1 e n m k v a b c l r hs=>intro hk;exact simp_has hs hk
 | coal2 e n m k v a b r hs hb=>intro hk;exact simp_has hs hk
 | other e s hs h3 h23 h19 h20 h25=>intro hk;exact simp_has hs hk
 | same e s xs hs hop hl h hq ih=>intro hk;exact simp_has hs hk
 | go e s y xs hs hop hl h hq hy ih ihy=>
  intro hk
  have hs2:=simp_has hs hk
  have hargs:=has_list_elim hs2 hop
  have hx:∀ a ∈ xs,Has cols a 2:=by
   intro a ha
   obtain ⟨i,hi,rfl⟩:=List.getElem_of_mem ha
   exact ih i (by omega) hi (hargs _ (List.getElem_mem _))
  refine ihy ?_
  have hi:=nodeR_inner (wf_node hs2.wf) (by rcases hop with h | h <;> omega) (by rcases hop with h | h <;> omega) (by rcases hop with h | h <;> omega)
  refine has_op (by rcases hop with h | h <;> omega) (by rcases hop with h | h <;> omega) (by rw [← hl];exact hi.many) (fun a ha=>has_self (hx a ha)) ?_
  rw [sig_list hop]
  have:allK1 2 (xs.map (kd cols))=true:=allK1_iff.2 fun a ha=>(hx a ha).kind
  rw [this];rfl
theorem go_has {cols:List Col} {s:Expr} {xs:List Expr} (hs2:Has cols s 2) (hop:s.op=19 ∨ s.op=20) (hl:s.args.length=xs.length) (hx:∀ a ∈ xs,Has cols a 2):Has cols (opE s.op xs) 2:=by
 have hi:=nodeR_inner (wf_node hs2.wf) (by rcases hop with h | h <;> omega) (by rcases hop with h | h <;> omega) (by rcases hop with h | h <;> omega)
 refine has_op (by rcases hop with h | h <;> omega) (by rcases hop with h | h <;> omega) (by rw [← hl];exact hi.many) (fun a ha=>has_self (hx a ha)) ?_
 rw [sig_list hop]
 have:allK1 2 (xs.map (kd cols))=true:=allK1_iff.2 fun a ha=>(hx a ha).kind
 rw [this];rfl
theorem cal59 {cols:List Col} {e y:Expr} (h:CondS cols e y):Has cols e 2→Cal 59 [L cols,e.p] [y.p]:=by
 induction h with
 | lit e s hs h=>intro hk;exact s59_lit e s cols (cal51 hs hk) h
 | istrue e s y a hs h ha hy ih=>intro hk;exact s59_istrue e s y cols (cal51 hs hk) h a ha (ih (has_istrue_elim (simp_has hs hk) h ha))
 | coal e s y a b hs h ha hb hy ih=>intro hk;exact s59_coal e s y cols (cal51 hs hk) h a b ha hb (ih (has_coal_elim (simp_has hs hk) h a (by rw [ha];simp)))
 | coal1 e n m k v a b c l r hs=>intro hk;exact s59_coal1 e cols n m k v a b c l r (cal51 hs hk)
 | coal2 e n m k v a b r hs hb=>intro hk;exact s59_coal2 e cols n m k v a b r (cal51 hs hk) hb
 | other e s hs h3 h23 h19 h20 h25=>intro hk;exact s59_else e s cols (cal51 hs hk) h3 h23 h19 h20 h25
 | same e s xs hs hop hl h hq ih=>
  intro hk
  have hs2:=simp_has hs hk
  have hargs:=has_list_elim hs2 hop
  have hx:∀ a ∈ xs,Has cols a 2:=by
   intro a ha
   obtain ⟨i,hi,rfl⟩:=List.getElem_of_mem ha
   exact cond_has (h i (by omega) hi) (hargs _ (List.getElem_mem _))
  have hlen:=wf_len hs2.wf
  have c103:=cal103 xs s.args (fun a ha=>(hx a ha).wf) (fun a ha=>(hargs a ha).wf)
  rw [hq] at c103
  exact s59_same e s cols s.op hop xs (cal51 hs hk) rfl hl (by omega) (fun i h1 h2=>ih i h1 h2 (hargs _ (List.getElem_mem _))) c103
 | go e s y xs hs hop hl h hq hy ih ihy=>
  intro hk
  have hs2:=simp_has hs hk
  have hargs:=has_list_elim hs2 hop
  have hx:∀ a ∈ xs,Has cols a 2:=by
   intro a ha
   obtain ⟨i,hi,rfl⟩:=List.getElem_of_mem ha
   exact cond_has (h i (by omega) hi) (hargs _ (List.getElem_mem _))
  have hlen:=wf_len hs2.wf
  have c103:=cal103 xs s.args (fun a ha=>(hx a ha).wf) (fun a ha=>(hargs a ha).wf)
  rw [hq] at c103
  exact s59_go e s y cols s.op hop xs (cal51 hs hk) rfl hl (by omega) (fun i h1 h2=>ih i h1 h2 (hargs _ (List.getElem_mem _))) c103 (ihy (go_has hs2 hop hl hx))
end Go.Proofs.YtgiedlcjlalpcaaGreat
