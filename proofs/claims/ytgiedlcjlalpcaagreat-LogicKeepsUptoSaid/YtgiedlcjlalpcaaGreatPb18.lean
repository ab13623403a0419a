/- Part of a proof: R2 R3 R4. -/
import Derived.Test.YtgiedlcjlalpcaaGreatPb14
import Derived.Test.YtgiedlcjlalpcaaGreatPb16
import Derived.Test.YtgiedlcjlalpcaaGreatPb17
set_option linter.all false
namespace Go.Proofs.YtgiedlcjlalpcaaGreat
open Go.Abs
def firstOf (e:Expr):List (Expr × Bool)→Expr × Bool
 | []=>(e,false)
 | r :: l=>if r.2 then (r.1,true) else firstOf e l
abbrev St1 (cols:List Col) (e:Expr) (g:FuncId) (r:Expr × Bool):Prop:=Cal g [L cols,e.p] [r.1.p,.bool r.2]
def Agree (a b:Expr × Bool):Prop:=a.2=b.2∧(b.2=true→a.1=b.1)
theorem Agree.refl (a:Expr × Bool):Agree a a:=⟨rfl,fun _=>rfl⟩
theorem agree_eq {a b:Expr × Bool} (h:a=b):Agree a b:=h ▸ Agree.refl a
structure Tail (cols:List Col) (e:Expr) (x:Expr × Bool):Prop where
 ex:∃ rs:List (Expr × Bool),rs.length=11∧(∀ (i:Nat) (h:i < rs.length),St1 cols e (143 + i) rs[i])∧Agree (firstOf e rs) x
variable {cols:List Col} {e:Expr} {k:Int}
theorem tail_mk {x r1 r2 r3 r4 r5 r6 r7 r8 r9 r10 r11:Expr × Bool} (h1:St1 cols e 143 r1) (h2:St1 cols e 144 r2) (h3:St1 cols e 145 r3) (h4:St1 cols e 146 r4) (h5:St1 cols e 147 r5) (h6:St1 cols e 148 r6) (h7:St1 cols e 149 r7)
  (h8:St1 cols e 150 r8) (h9:St1 cols e 151 r9) (h10:St1 cols e 152 r10) (h11:St1 cols e 153 r11) (hx:Agree (firstOf e [r1,r2,r3,r4,r5,r6,r7,r8,r9,r10,r11]) x):Tail cols e x:=
 ⟨_,rfl,fun i h=>match i,h with
  | 0,_=>h1 | 1,_=>h2 | 2,_=>h3 | 3,_=>h4 | 4,_=>h5 | 5,_=>h6 | 6,_=>h7 | 7,_=>h8 | 8,_=>h9 | 9,_=>h10 | 10,_=>h11
  | i + 11,h=>absurd h (by simp),hx⟩
theorem opp_zero {op:Int} (h:op < 12 ∨ 17 < op):opposite op=0:=by
 unfold opposite
 have e1:(op == 12)=false:=by simp;omega
 have e2:(op == 13)=false:=by simp;omega
 have e3:(op == 14)=false:=by simp;omega
 have e4:(op == 15)=false:=by simp;omega
 have e5:(op == 16)=false:=by simp;omega
 have e6:(op == 17)=false:=by simp;omega
 simp [e1,e2,e3,e4,e5,e6]
theorem opp_pos {op:Int} (h1:12 ≤ op) (h2:op ≤ 17):(opposite op == 0)=false:=by
 obtain h | h | h | h | h | h:op=12 ∨ op=13 ∨ op=14 ∨ op=15 ∨ op=16 ∨ op=17:=by omega
 all_goals subst h;rfl
theorem n143 (h1:e.op ≠ 19) (h2:e.op ≠ 20):St1 cols e 143 (e,false):=v143_no e cols h1 h2
theorem n144 (h:e.op ≠ 21):St1 cols e 144 (e,false):=v144_no e cols h
theorem n145 (hh:Has cols e k) (h:¬ (4 ≤ e.op∧e.op ≤ 17)):St1 cols e 145 (e,false):=v145_no e cols k hh h
theorem n146 (h4:e.op ≠ 4) (h5:e.op ≠ 5) (h6:e.op ≠ 6) (h7:e.op ≠ 7) (h10:e.op ≠ 10):St1 cols e 146 (e,false):=v146_no e cols h4 h5 h6 h7 h10
theorem n147 (h:e.op < 12 ∨ 17 < e.op):St1 cols e 147 (e,false):=v147_no e cols (opp_zero h)
theorem n148 (h:e.op ≠ 12):St1 cols e 148 (e,false):=v148_no e cols h
theorem n149 (h:e.op < 12 ∨ 17 < e.op):St1 cols e 149 (e,false):=v149_no e cols (opp_zero h)
theorem n150 (h1:e.op ≠ 22) (h2:e.op ≠ 23):St1 cols e 150 (e,false):=v150_no e cols h1 h2
theorem n151 (h:e.op ≠ 18):St1 cols e 151 (e,false):=v151_no e cols h
theorem n152 (h:e.op ≠ 24):St1 cols e 152 (e,false):=v152_no e cols h
theorem n153 (h:e.op ≠ 25):St1 cols e 153 (e,false):=v153_no e cols h
theorem tail_leaf (h:Has cols e k) (h3:e.op < 4):Tail cols e (e,false):=
 tail_mk (n143 (by omega) (by omega)) (n144 (by omega)) (n145 h (by omega)) (n146 (by omega) (by omega) (by omega) (by omega) (by omega)) (n147 (by omega)) (n148 (by omega)) (n149 (by omega)) (n150 (by omega) (by omega)) (n151 (by omega)) (n152 (by omega)) (n153 (by omega)) (Agree.refl _)
theorem first_none (e:Expr):∀ (n:Nat),firstOf e (List.replicate n (e,false))=(e,false)
 | 0=>rfl
 | n + 1=>first_none e n
theorem first_at (r:Expr × Bool) (n m:Nat):Agree (firstOf e (List.replicate n (e,false) ++ r :: List.replicate m (e,false))) r:=by
 induction n with
 | zero=>
  obtain ⟨a,b⟩:=r
  cases b
  ·show Agree (firstOf e (List.replicate m (e,false))) _
   rw [first_none]
   exact ⟨rfl,fun h=>by cases h⟩
  ·exact ⟨rfl,fun _=>rfl⟩
 | succ n ih=>exact ih
theorem tail_list (h:Has cols e k) (ho:e.op=19 ∨ e.op=20):Tail cols e (listedE e (e.op == 19)):=by
 have hi:=nodeR_inner (wf_node h.wf) (by omega) (by omega) (by omega)
 have h2:=(args_list hi (by omega)).1
 have h20:(e.op == 20) = !(e.op == 19):=by rcases ho with ho | ho <;> rw [ho] <;> rfl
 refine tail_mk (r1:=jn1 e (truthE (e.op == 19)) (truthE (!(e.op == 19))) e.args 0) (v143 e cols (e.op == 19) rfl h20 h.wf h2) (n144 (by omega)) (n145 h (by omega)) (n146 (by omega) (by omega) (by omega) (by omega) (by omega)) (n147 (by omega)) (n148 (by omega)) (n149 (by omega)) (n150 (by omega) (by omega)) (n151 (by omega)) (n152 (by omega)) (n153 (by omega)) ?_
 rw [jn1_eq (wf_arg h.wf)]
 exact first_at (e:=e) (listedE e (e.op == 19)) 0 10
theorem tail_case (h:Has cols e k) (ho:e.op=24):Tail cols e (casesE e):=by
 have hi:=nodeR_inner (wf_node h.wf) (by omega) (by omega) (by omega)
 obtain ⟨h3,hodd⟩:=args_case hi ho
 obtain ⟨q,hq⟩:∃ q,2 * q + 1=e.args.length:=⟨e.args.length / 2,by omega⟩
 refine tail_mk (r10:=cs e (2 * q) 0 true) (n143 (by omega) (by omega)) (n144 (by omega)) (n145 h (by omega)) (n146 (by omega) (by omega) (by omega) (by omega) (by omega)) (n147 (by omega)) (n148 (by omega)) (n149 (by omega)) (n150 (by omega) (by omega)) (n151 (by omega)) (v152 e cols ho h.wf (2 * q) hq.symm (by omega)) (n153 (by omega)) ?_
 rw [cs_eqE (wf_arg h.wf) q hq]
 exact first_at (e:=e) (casesE e) 9 1
theorem tail_coal (h:Has cols e k) (ho:e.op=25):Tail cols e (firstE e cols):=by
 have hi:=nodeR_inner (wf_node h.wf) (by omega) (by omega) (by omega)
 have h2:=(args_list hi (by omega)).1
 refine tail_mk (r11:=co cols e) (n143 (by omega) (by omega)) (n144 (by omega)) (n145 h (by omega)) (n146 (by omega) (by omega) (by omega) (by omega) (by omega)) (n147 (by omega)) (n148 (by omega)) (n149 (by omega)) (n150 (by omega) (by omega)) (n151 (by omega)) (n152 (by omega)) (v153 e cols k h ho) ?_
 rw [co_eqE cols h2]
 exact first_at (e:=e) (firstE e cols) 10 0
theorem kd2 {a:Expr} (h:Has cols e k) (hab:e.args=[a]):∃ ka,Has cols a ka:=⟨_,arg_has h (a:=a) (by simp [hab])⟩
theorem tail_22 (h:Has cols e k) (ho:e.op=22):Tail cols e (truthE false, !nullE cols (hdE e.args)):=by
 have hi:=nodeR_inner (wf_node h.wf) (by omega) (by omega) (by omega)
 obtain ⟨a,hab⟩:=args1 hi (by omega)
 have c:=v150_22 e cols k h a hab ho
 refine tail_mk (r8:=(if !nullE cols a then (truthE false,true) else (e,false))) (n143 (by omega) (by omega)) (n144 (by omega)) (n145 h (by omega)) (n146 (by omega) (by omega) (by omega) (by omega) (by omega)) (n147 (by omega)) (n148 (by omega)) (n149 (by omega)) c (n151 (by omega)) (n152 (by omega)) (n153 (by omega)) ?_
 rw [hab]
 show Agree _ (truthE false, !nullE cols a)
 cases nullE cols a
 ·exact ⟨rfl,fun _=>rfl⟩
 ·exact ⟨rfl,fun h=>by cases h⟩
theorem tail_23 (h:Has cols e k) (ho:e.op=23):Tail cols e (hdE e.args, !nullE cols (hdE e.args)):=by
 have hi:=nodeR_inner (wf_node h.wf) (by omega) (by omega) (by omega)
 obtain ⟨a,hab⟩:=args1 hi (by omega)
 have c:=v150_23 e cols k h a hab ho
 refine tail_mk (r8:=(if !nullE cols a then (a,true) else (e,false))) (n143 (by omega) (by omega)) (n144 (by omega)) (n145 h (by omega)) (n146 (by omega) (by omega) (by omega) (by omega) (by omega)) (n147 (by omega)) (n148 (by omega)) (n149 (by omega)) c (n151 (by omega)) (n152 (by omega)) (n153 (by omega)) ?_
 rw [hab]
 show Agree _ (a, !nullE cols a)
 cases nullE cols a
 ·exact ⟨rfl,fun _=>rfl⟩
 ·exact ⟨rfl,fun h=>by cases h⟩
theorem tail_18 (h:Has cols e k) (ho:e.op=18):Tail cols e (sameStepE cols (hdE e.args) (lastE e.args)):=by
 have hi:=nodeR_inner (wf_node h.wf) (by omega) (by omega) (by omega)
 obtain ⟨a,b,hab⟩:=args2 hi (by omega) (by omega) (by omega)
 have c:=v151_18 e cols k h a b hab ho
 refine tail_mk (n143 (by omega) (by omega)) (n144 (by omega)) (n145 h (by omega)) (n146 (by omega) (by omega) (by omega) (by omega) (by omega)) (n147 (by omega)) (n148 (by omega)) (n149 (by omega)) (n150 (by omega) (by omega)) c (n152 (by omega)) (n153 (by omega)) ?_
 rw [hab]
 show Agree _ (sameStepE cols a b)
 unfold sameStepE
 cases sameE a b
 ·cases isNull a
  ·cases isNull b
   ·cases nullE cols a
    ·cases nullE cols b
     ·exact ⟨rfl,fun _=>rfl⟩
     ·exact ⟨rfl,fun h=>by cases h⟩
    ·exact ⟨rfl,fun h=>by cases h⟩
   ·exact ⟨rfl,fun _=>rfl⟩
  ·exact ⟨rfl,fun _=>rfl⟩
 ·exact ⟨rfl,fun _=>rfl⟩
theorem tail_21 (h:Has cols e k) (ho:e.op=21):Tail cols e (notE (hdE e.args)):=by
 have hi:=nodeR_inner (wf_node h.wf) (by omega) (by omega) (by omega)
 obtain ⟨a,hab⟩:=args1 hi (by omega)
 obtain ⟨ka,ha⟩:=kd2 h hab
 have mk:∀ (r2:Expr × Bool),St1 cols e 144 r2→Agree r2 (notE a)→Tail cols e (notE (hdE e.args)):=fun r2 c hr=>by
  refine tail_mk (r2:=r2) (n143 (by omega) (by omega)) c (n145 h (by omega)) (n146 (by omega) (by omega) (by omega) (by omega) (by omega)) (n147 (by omega)) (n148 (by omega)) (n149 (by omega)) (n150 (by omega) (by omega)) (n151 (by omega)) (n152 (by omega)) (n153 (by omega)) ?_
  rw [hab]
  have:=first_at (e:=e) r2 1 9
  exact ⟨this.1.trans hr.1,fun hx=>(this.2 (by rw [hr.1];exact hx)).trans (hr.2 hx)⟩
 by_cases h21:a.op=21
 ·have hia:=nodeR_inner (wf_node ha.wf) (by omega) (by omega) (by omega)
  obtain ⟨x,hx⟩:=args1 hia (by omega)
  refine mk (x,true) (v144_21 e cols a hab ho x hx h21) (agree_eq ?_)
  unfold notE
  rw [h21,hx];rfl
 ·have b21:(a.op == 21)=false:=by simpa using h21
  by_cases hc:12 ≤ a.op∧a.op ≤ 17
  ·refine mk (opE (opposite a.op) a.args,true) (v144_12 e cols a hab ho (opp_pos hc.1 hc.2) h21) (agree_eq ?_)
   unfold notE
   rw [b21]
   simp [hc.1,hc.2]
  ·have ho0:opposite a.op=0:=opp_zero (by omega)
   have bc:(decide (a.op ≥ 12) && decide (a.op ≤ 17))=false:=by
    rw [Bool.and_eq_false_iff];simp;omega
   by_cases hl:a.op=19 ∨ a.op=20
   ·refine mk (opE (39 - a.op) (a.args.map notL),true) (v144_19 e cols a hab ho ha.wf hl ho0) (agree_eq ?_)
    unfold notE
    rw [b21,bc]
    have:(a.op == 19 || a.op == 20)=true:=by rcases hl with hl | hl <;> rw [hl] <;> rfl
    rw [this]
    rfl
   ·refine mk (e,false) (v144_else e cols a hab ho h21 (fun h=>hl (.inl h)) (fun h=>hl (.inr h)) ho0) ?_
    unfold notE
    have h19:(a.op == 19 || a.op == 20)=false:=by
     rw [Bool.or_eq_false_iff];simp;omega
    rw [b21,bc,h19]
    exact ⟨rfl,fun h=>by cases h⟩
end Go.Proofs.YtgiedlcjlalpcaaGreat
namespace Go.Proofs.YtgiedlcjlalpcaaGreat
open Go.Abs
variable {cols:List Col} {e:Expr} {k:Int}
theorem strictL_any (e:Expr) (cols:List Col):∀ (l:List Expr),strictL e cols l=if l.any isNull then (litE (kindE cols e).1.kind nullW,true) else (if decide (e.op ≥ 12) && decide (e.op ≤ 17) then comparedE e cols (hdE e.args) (lastE e.args) else computedE e cols)
 | []=>rfl
 | a :: r=>by
  rw [strictL,strictL_any e cols r]
  by_cases h:isNull a=true
  ·simp [h]
  ·simp [h]
theorem isFalse_isV (b:Expr):isFalse b=isV b (boolW false):=rfl
theorem isTrue_isV (b:Expr):isTrue b=isV b (boolW true):=rfl
theorem tail_cmp (h:Has cols e k) (h1:12 ≤ e.op) (h2:e.op ≤ 17):Tail cols e (strictL e cols e.args):=by
 have hi:=nodeR_inner (wf_node h.wf) (by omega) (by omega) (by omega)
 obtain ⟨a,b,hab⟩:=args2 hi (by omega) (by omega) (by omega)
 have hop:(decide (4 ≤ e.op) && decide (e.op ≤ 17))=true:=by simp;omega
 have hopp:=opp_pos h1 h2
 have c3:=v145 e cols k h hop
 have c5:=v147_cmp e cols a b hab hopp
 have c7:=v149_cmp e cols k h a b hab hopp
 have hk:(kindE cols e).1.kind=k:=h.kind
 have hc:(decide (e.op ≥ 12) && decide (e.op ≤ 17))=true:=by simp;omega
 have hx:strictL e cols e.args=if e.args.any isNull then (litE k nullW,true) else comparedE e cols a b:=by
  rw [strictL_any,hc,hk,hab];rfl
 rw [hx]
 by_cases h12:e.op=12
 ·have c6:=v148_eq e cols a b hab h12
  refine tail_mk (n143 (by omega) (by omega)) (n144 (by omega)) c3 (n146 (by omega) (by omega) (by omega) (by omega) (by omega)) c5 c6 c7 (n150 (by omega) (by omega)) (n151 (by omega)) (n152 (by omega)) (n153 (by omega)) ?_
  have e12:(e.op == 12)=true:=by simp [h12]
  unfold comparedE
  rw [isTrue_isV,isFalse_isV,e12,Bool.true_and,Bool.true_and]
  refine agree_eq ?_
  cases e.args.any isNull <;> cases isLit a <;> cases isLit b <;> cases isV b (boolW true) <;> cases isV b (boolW false) <;> cases sameE a b <;> cases nullE cols a <;> rfl
 ·have e12:(e.op == 12)=false:=by simpa using h12
  refine tail_mk (n143 (by omega) (by omega)) (n144 (by omega)) c3 (n146 (by omega) (by omega) (by omega) (by omega) (by omega)) c5 (n148 h12) c7 (n150 (by omega) (by omega)) (n151 (by omega)) (n152 (by omega)) (n153 (by omega)) ?_
  unfold comparedE
  rw [e12,Bool.false_and,Bool.false_and]
  refine agree_eq ?_
  cases e.args.any isNull <;> cases isLit a <;> cases isLit b <;> cases sameE a b <;> cases nullE cols a <;> rfl
theorem null_lit {x:Expr} (hx:Has cols x k) {v:Val} (hv:v.kind ≠ 0) (h:isV x v=true):nullE cols x=false∧x=litE v.kind v:=by
 obtain ⟨h3,hl⟩:=isV_op h
 have he:=lit_eta hx.wf h3 hv hl
 refine ⟨?_,he⟩
 unfold nullE
 rw [kind_lit cols x h3]
 have:x.args.all (okk cols)=true:=by rw [he];rfl
 rw [if_pos this]
 show (x.lit.kind == 0)=false
 rw [hl];simpa using hv
theorem tail_arith (h:Has cols e k) (h1:4 ≤ e.op) (h2:e.op ≤ 11):Tail cols e (strictL e cols e.args):=by
 have hi:=nodeR_inner (wf_node h.wf) (by omega) (by omega) (by omega)
 have hop:(decide (4 ≤ e.op) && decide (e.op ≤ 17))=true:=by simp;omega
 have c3:=v145 e cols k h hop
 have hk:(kindE cols e).1.kind=k:=h.kind
 have hc:(decide (e.op ≥ 12) && decide (e.op ≤ 17))=false:=by rw [Bool.and_eq_false_iff];simp;omega
 have hx:strictL e cols e.args=if e.args.any isNull then (litE k nullW,true) else computedE e cols:=by
  rw [strictL_any,hc,hk];rfl
 rw [hx]
 have mk:∀ (r4:Expr × Bool),St1 cols e 146 r4→Agree r4 (computedE e cols)→Tail cols e (if e.args.any isNull then (litE k nullW,true) else computedE e cols):=fun r4 c hr=>by
  refine tail_mk (r4:=r4) (n143 (by omega) (by omega)) (n144 (by omega)) c3 c (n147 (by omega)) (n148 (by omega)) (n149 (by omega)) (n150 (by omega) (by omega)) (n151 (by omega)) (n152 (by omega)) (n153 (by omega)) ?_
  cases e.args.any isNull
  ·have:=first_at (e:=e) r4 3 7
   exact ⟨this.1.trans hr.1,fun hx=>(this.2 (by rw [hr.1];exact hx)).trans (hr.2 hx)⟩
  ·exact ⟨rfl,fun _=>rfl⟩
 have two:e.op ≠ 9→e.op ≠ 11→∃ a b,e.args=[a,b]:=fun h9 h11=>args2 hi (by omega) h9 h11
 by_cases h4:e.op=4
 ·obtain ⟨a,b,hab⟩:=two (by omega) (by omega)
  have ha:=arg_has h (a:=a) (by simp [hab])
  have hb:=arg_has h (a:=b) (by simp [hab])
  refine mk _ (v146_4 e cols a b hab h4 _ _ ha hb) (agree_eq ?_)
  unfold computedE
  rw [hab,h4,same_num ha.wf,same_num hb.wf]
  show _=if true && isV b (intW 0) || false && _ || false && _ || false && _ || false && _ then (a,true) else if true && isV a (intW 0) || false && _ || false && _ then (b,true) else if false && _ && _ || false && _ && _ then _ else _
  simp only [Bool.true_and,Bool.false_and,Bool.or_false]
  rfl
 by_cases h5:e.op=5
 ·obtain ⟨a,b,hab⟩:=two (by omega) (by omega)
  have ha:=arg_has h (a:=a) (by simp [hab])
  have hb:=arg_has h (a:=b) (by simp [hab])
  refine mk _ (v146_5 e cols a b hab h5 _ _ ha hb) (agree_eq ?_)
  unfold computedE
  rw [hab,h5,same_num hb.wf]
  show _=if false && _ || true && isV b (intW 0) || false && _ || false && _ || false && _ then (a,true) else if false && _ || false && _ || false && _ then _ else if false && _ && _ || false && _ && _ then _ else _
  simp only [Bool.true_and,Bool.false_and,Bool.or_false,Bool.false_or]
  rfl
 by_cases h7:e.op=7
 ·obtain ⟨a,b,hab⟩:=two (by omega) (by omega)
  have ha:=arg_has h (a:=a) (by simp [hab])
  have hb:=arg_has h (a:=b) (by simp [hab])
  refine mk _ (v146_7 e cols a b hab h7 _ _ ha hb) (agree_eq ?_)
  unfold computedE
  rw [hab,h7,same_num hb.wf]
  show _=if false && _ || false && _ || false && _ || true && isV b (intW 1) || false && _ then (a,true) else if false && _ || false && _ || false && _ then _ else if false && _ && _ || false && _ && _ then _ else _
  simp only [Bool.true_and,Bool.false_and,Bool.or_false,Bool.false_or]
  rfl
 by_cases h10:e.op=10
 ·obtain ⟨a,b,hab⟩:=two (by omega) (by omega)
  have ha:=arg_has h (a:=a) (by simp [hab])
  have hb:=arg_has h (a:=b) (by simp [hab])
  refine mk _ (v146_10 e cols a b hab h10 _ _ ha hb) (agree_eq ?_)
  unfold computedE
  rw [hab,h10,same_empty ha.wf,same_empty hb.wf]
  show _=if false && _ || false && _ || false && _ || false && _ || true && isV b (textW ⟨#[]⟩) then (a,true) else if false && _ || false && _ || true && isV a (textW ⟨#[]⟩) then (b,true) else if false && _ && _ || false && _ && _ then _ else _
  simp only [Bool.true_and,Bool.false_and,Bool.or_false,Bool.false_or]
  rfl
 by_cases h6:e.op=6
 ·obtain ⟨a,b,hab⟩:=two (by omega) (by omega)
  have ha:=arg_has h (a:=a) (by simp [hab])
  have hb:=arg_has h (a:=b) (by simp [hab])
  refine mk _ (v146_6 e cols a b hab h6 _ _ ha hb) (agree_eq ?_)
  unfold computedE
  rw [hab,h6,same_num ha.wf,same_num hb.wf,same_num ha.wf,same_num hb.wf]
  show _=if false && _ || false && _ || true && isV b (intW 1) || false && _ || false && _ then (a,true) else if false && _ || true && isV a (intW 1) || false && _ then (b,true) else if true && isV b (intW 0) && !nullE cols a || true && isV a (intW 0) && !nullE cols b then (litE 1 (intW 0),true) else (e,false)
  simp only [Bool.true_and,Bool.false_and,Bool.or_false,Bool.false_or]
  have hn:numE 0=litE 1 (intW 0):=rfl
  rw [hn]
  have za:isV a (intW 0)=true→a=litE 1 (intW 0):=fun hv=>(null_lit ha (v:=intW 0) (show (1:Int) ≠ 0 by decide) hv).2
  have zb:isV b (intW 0)=true→b=litE 1 (intW 0):=fun hv=>(null_lit hb (v:=intW 0) (show (1:Int) ≠ 0 by decide) hv).2
  have oa:isV a (intW 1)=true→nullE cols a=false∧isV a (intW 0)=false:=fun hv=>⟨(null_lit ha (v:=intW 1) (show (1:Int) ≠ 0 by decide) hv).1,by
   rw [(null_lit ha (v:=intW 1) (show (1:Int) ≠ 0 by decide) hv).2];rfl⟩
  have ob:isV b (intW 1)=true→nullE cols b=false∧isV b (intW 0)=false:=fun hv=>⟨(null_lit hb (v:=intW 1) (show (1:Int) ≠ 0 by decide) hv).1,by
   rw [(null_lit hb (v:=intW 1) (show (1:Int) ≠ 0 by decide) hv).2];rfl⟩
  cases h1a:isV a (intW 1) <;> cases h1b:isV b (intW 1) <;> cases h0a:isV a (intW 0) <;> cases h0b:isV b (intW 0) <;> cases hna:nullE cols a <;> cases hnb:nullE cols b <;> simp_all
 ·refine mk (e,false) (n146 h4 h5 h6 h7 h10) ?_
  unfold computedE
  have b4:(e.op == 4)=false:=by simpa using h4
  have b5:(e.op == 5)=false:=by simpa using h5
  have b6:(e.op == 6)=false:=by simpa using h6
  have b7:(e.op == 7)=false:=by simpa using h7
  have b10:(e.op == 10)=false:=by simpa using h10
  rw [b4,b5,b6,b7,b10]
  exact ⟨rfl,fun h=>by cases h⟩
end Go.Proofs.YtgiedlcjlalpcaaGreat
namespace Go.Proofs.YtgiedlcjlalpcaaGreat
open Go.Abs
variable {cols:List Col} {e:Expr} {k:Int}
def restE (e:Expr) (cols:List Col):Expr × Bool:=
 if e.op == 19 then listedE e true
 else if e.op == 20 then listedE e false
 else if e.op == 21 then notE (hdE e.args)
 else if e.op == 22 then (truthE false, !nullE cols (hdE e.args))
 else if e.op == 23 then (hdE e.args, !nullE cols (hdE e.args))
 else if e.op == 18 then sameStepE cols (hdE e.args) (lastE e.args)
 else if e.op == 24 then casesE e
 else if e.op == 25 then firstE e cols
 else strictL e cols e.args
theorem tail_rest (h:Has cols e k) (h4:4 ≤ e.op):Tail cols e (restE e cols):=by
 have hi:=nodeR_inner (wf_node h.wf) (by omega) (by omega) (by omega)
 have h25:=hi.hi
 have ne:∀ {n:Int},e.op ≠ n→(e.op == n)=false:=fun hn=>by simpa using hn
 by_cases h19:e.op=19
 ·have:=tail_list h (.inl h19)
  rw [show (e.op == 19)=true by simp [h19]] at this
  unfold restE
  rw [show (e.op == 19)=true by simp [h19],if_pos rfl]
  exact this
 by_cases h20:e.op=20
 ·have:=tail_list h (.inr h20)
  rw [ne h19] at this
  unfold restE
  rw [ne h19,show (e.op == 20)=true by simp [h20]]
  exact this
 by_cases h21:e.op=21
 ·have:=tail_21 h h21
  unfold restE
  rw [ne h19,ne h20,show (e.op == 21)=true by simp [h21]]
  exact this
 by_cases h22:e.op=22
 ·have:=tail_22 h h22
  unfold restE
  rw [ne h19,ne h20,ne h21,show (e.op == 22)=true by simp [h22]]
  exact this
 by_cases h23:e.op=23
 ·have:=tail_23 h h23
  unfold restE
  rw [ne h19,ne h20,ne h21,ne h22,show (e.op == 23)=true by simp [h23]]
  exact this
 by_cases h18:e.op=18
 ·have:=tail_18 h h18
  unfold restE
  rw [ne h19,ne h20,ne h21,ne h22,ne h23,show (e.op == 18)=true by simp [h18]]
  exact this
 by_cases h24:e.op=24
 ·have:=tail_case h h24
  unfold restE
  rw [ne h19,ne h20,ne h21,ne h22,ne h23,ne h18,show (e.op == 24)=true by simp [h24]]
  exact this
 by_cases h25':e.op=25
 ·have:=tail_coal h h25'
  unfold restE
  rw [ne h19,ne h20,ne h21,ne h22,ne h23,ne h18,ne h24,show (e.op == 25)=true by simp [h25']]
  exact this
 unfold restE
 rw [ne h19,ne h20,ne h21,ne h22,ne h23,ne h18,ne h24,ne h25']
 by_cases hc:12 ≤ e.op
 ·exact tail_cmp h hc (by omega)
 ·exact tail_arith h h4 (by omega)
theorem step_law (h:Has cols e k):∃ rs:List (Expr × Bool),rs.length=12∧(∀ (i:Nat) (h:i < rs.length),St1 cols e (142 + i) rs[i])∧Agree (firstOf e rs) (stepE e cols):=by
 have cons:∀ {r0 x:Expr × Bool},St1 cols e 142 r0→Tail cols e x→∃ rs:List (Expr × Bool),rs.length=12∧(∀ (i:Nat) (h:i < rs.length),St1 cols e (142 + i) rs[i])∧Agree (firstOf e rs) (if r0.2 then (r0.1,true) else x):=by
  rintro r0 x c0 ⟨rs,hl,hc,ha⟩
  refine ⟨r0 :: rs,by simp [hl],fun i hi=>?_,?_⟩
  ·cases i with
   | zero=>exact c0
   | succ i=>
    have:=hc i (by simpa using hi)
    rw [show 143 + i=142 + (i + 1) by omega] at this
    exact this
  ·obtain ⟨x0,b0⟩:=r0
   cases b0
   ·exact ha
   ·exact ⟨rfl,fun _=>rfl⟩
 by_cases h4:4 ≤ e.op
 ·have hi:=nodeR_inner (wf_node h.wf) (by omega) (by omega) (by omega)
  have hpos:=many_pos hi.many
  have h0:((e.args.length:Int) == 0)=false:=by simp;intro hn;rw [hn] at hpos;simp at hpos
  have hne:¬ e.args.length=0:=by omega
  have hst:stepE e cols=if (constantE e cols).2 then ((constantE e cols).1,true) else restE e cols:=by
   unfold stepE restE
   rw [h0];rfl
  rw [hst]
  have hce:constantE e cols=if e.args.all isLit then (litE k (valueV e (e.args.map Expr.lit)),true) else (e,false):=by
   have hk:(kindE cols e).1.kind=k:=h.kind
   rw [constantE,constL_eq,hk];rfl
  by_cases hall:e.args.all isLit=true
  ·have hany:(e.args.any fun a=>!isLit a)=false:=by
    rw [List.any_eq_false]
    intro a ha
    have:=List.all_eq_true.1 hall a ha
    simp [this]
   have hl3:∀ a ∈ e.args,a.op=3:=fun a ha=>isLit_op.1 (List.all_eq_true.1 hall a ha)
   have c:=v142_yes e cols k h _ hne hany (cal223V h h4 hl3)
   have:=cons (r0:=(litE k (valueV e (e.args.map Expr.lit)),true)) c (tail_rest h h4)
   rw [hce,if_pos hall]
   exact this
  ·have hany:(e.args.any fun a=>!isLit a)=true:=by
    rw [List.any_eq_true]
    simp only [List.all_eq_true,Classical.not_forall] at hall
    obtain ⟨a,ha,hn⟩:=hall
    exact ⟨a,ha,by simpa using hn⟩
   have:=cons (r0:=(e,false)) (v142_no e cols hne hany) (tail_rest h h4)
   rw [hce,if_neg hall]
   exact this
 ·have hargs:e.args=[]:=by
   have hn:=wf_node h.wf
   have h1:e.op=1 ∨ e.op=2 ∨ e.op=3:=by
    by_cases g1:e.op=1
    ·exact .inl g1
    by_cases g2:e.op=2
    ·exact .inr (.inl g2)
    by_cases g3:e.op=3
    ·exact .inr (.inr g3)
    have:=(nodeR_inner hn g1 g2 g3).lo
    omega
   rcases h1 with g | g | g
   ·exact nodeR_leaf hn (.inl g)
   ·exact nodeR_leaf hn (.inr g)
   ·exact (nodeR_lit hn g).2.2.2.2.2.1
  have hst:stepE e cols=(e,false):=by
   unfold stepE
   rw [hargs];rfl
  rw [hst]
  exact cons (r0:=(e,false)) (v142_leaf e cols hargs) (tail_leaf h (by omega))
end Go.Proofs.YtgiedlcjlalpcaaGreat
