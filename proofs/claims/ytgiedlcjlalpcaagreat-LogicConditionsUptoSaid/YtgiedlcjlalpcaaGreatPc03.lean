/- Part of a proof: L6. -/
import Derived.Test.YtgiedlcjlalpcaaGreatPc02
set_option linter.all false
namespace Go.Proofs.YtgiedlcjlalpcaaGreat
open Go.Abs
theorem allSmall_of:∀ (l:List Val),(∀ v ∈ l,v.text.size ≤ 200)→allSmall l=true
 | [],_=>rfl
 | a :: r,h=>by
  simp only [allSmall,Bool.and_eq_true,smallV,decide_eq_true_eq]
  exact ⟨h a (by simp),allSmall_of r fun v hv=>h v (by simp [hv])⟩
theorem computed_1 (e:Expr) (cols:List Col) (a:Expr) (hab:e.args=[a]) (h:e.op=9 ∨ e.op=11):computedE e cols=(e,false):=by
 rcases h with h | h <;> simp [computedE,h]
theorem cal99 (e:Expr) (cols:List Col) (hw:wf e=true) (hi:Inner e) (ho:e.op < 12):Cal 99 [e.p,.lst (Col.ps cols)] [(computedE e cols).1.p,.bool (computedE e cols).2]:=by
 have hin:=inner_len hi
 have h4:=hi.lo
 by_cases h1:e.op=9 ∨ e.op=11
 ·obtain ⟨a,hab⟩:=len1 (hin.1 (by omega))
  rw [computed_1 e cols a hab h1]
  rcases h1 with h1 | h1
  ·exact v99_9 e cols hw h1 a hab
  ·exact v99_11 e cols hw h1 a hab
 ·obtain ⟨a,b,hab⟩:=len2 (hin.2.2.2 (by omega) (by omega) (by omega))
  have hcase:e.op=4 ∨ e.op=5 ∨ e.op=6 ∨ e.op=7 ∨ e.op=8 ∨ e.op=10:=by omega
  have ha:hdE e.args=a:=by rw [hab];rfl
  have hb:lastE e.args=b:=by rw [hab];rfl
  rcases hcase with h | h | h | h | h | h
  ·rw [show computedE e cols=(if isV b (intW 0) then (a,true) else if isV a (intW 0) then (b,true) else (e,false)) by simp [computedE,h,ha,hb]]
   exact v99_4 e cols hw h a b hab
  ·rw [show computedE e cols=(if isV b (intW 0) then (a,true) else (e,false)) by simp [computedE,h,ha,hb]]
   exact v99_5 e cols hw h a b hab
  ·rw [show computedE e cols=(if isV b (intW 1) then (a,true) else if isV a (intW 1) then (b,true) else if isV b (intW 0) && !nullE cols a || isV a (intW 0) && !nullE cols b then (litE 1 (intW 0),true) else (e,false)) by simp [computedE,h,ha,hb]]
   exact v99_6 e cols hw h a b hab
  ·rw [show computedE e cols=(if isV b (intW 1) then (a,true) else (e,false)) by simp [computedE,h,ha,hb]]
   exact v99_7 e cols hw h a b hab
  ·rw [show computedE e cols=(e,false) by simp [computedE,h]]
   exact v99_8 e cols hw h a b hab
  ·rw [show computedE e cols=(if isV b (textW ⟨#[]⟩) then (a,true) else if isV a (textW ⟨#[]⟩) then (b,true) else (e,false)) by simp [computedE,h,ha,hb]]
   exact v99_10 e cols hw h a b hab
theorem cal98' (e:Expr) (cols:List Col) (hw:wf e=true) (hi:Inner e) (h1:12 ≤ e.op) (h2:e.op ≤ 17):Cal 98 [e.p,.lst (Col.ps cols)] [(comparedE e cols (hdE e.args) (lastE e.args)).1.p,.bool (comparedE e cols (hdE e.args) (lastE e.args)).2]:=by
 obtain ⟨a,b,hab⟩:=len2 ((inner_len hi).2.2.2 (by omega) (by omega) (by omega))
 rw [show hdE e.args=a by rw [hab];rfl,show lastE e.args=b by rw [hab];rfl]
 exact cal98 e cols hw a b hab (cal159 e.op (by omega))
theorem leaf_args {e:Expr} (hw:wf e=true) (h:e.op=1 ∨ e.op=2 ∨ e.op=3):e.args=[]:=by
 rcases h with h | h | h
 ·exact nodeR_leaf (wf_node hw) (.inl h)
 ·exact nodeR_leaf (wf_node hw) (.inr h)
 ·exact (nodeR_lit (wf_node hw) h).2.2.2.2.2.1
theorem cal57 (e:Expr) (cols:List Col) (hw:wf e=true):Cal 57 [e.p,.lst (Col.ps cols)] [(stepE e cols).1.p,.bool (stepE e cols).2]:=by
 by_cases hl:e.op=1 ∨ e.op=2 ∨ e.op=3
 ·have h:=leaf_args hw hl
  rw [show stepE e cols=(e,false) by simp [stepE,h]]
  exact s57_none e cols hw h
 ·have hi:=nodeR_inner (wf_node hw) (by omega) (by omega) (by omega)
  have hin:=inner_len hi
  have hlo:=hi.lo
  have hhi:=hi.hi
  have hpos:0 < e.args.length:=nodeR_args (wf_node hw) (by simp;omega) (by simp;omega) (by simp;omega)
  have h0:((e.args.length:Int) == 0)=false:=by simp;intro h;rw [h] at hpos;simp at hpos
  have h91:=cal91 e cols hw fun l h1 h2=>cal79 e hi l h1 h2
  cases hc:(constantE e cols).2 with
  | true=>
   rw [show stepE e cols=((constantE e cols).1,true) by unfold stepE;rw [if_neg (by rw [h0];simp),if_pos hc]]
   exact s57_const e cols hw h91 h0 hc
  | false=>
   have hs:stepE e cols=(if e.op == 19 then listedE e true
     else if e.op == 20 then listedE e false
     else if e.op == 21 then notE (hdE e.args)
     else if e.op == 22 then (truthE false, !nullE cols (hdE e.args))
     else if e.op == 23 then (hdE e.args, !nullE cols (hdE e.args))
     else if e.op == 18 then sameStepE cols (hdE e.args) (lastE e.args)
     else if e.op == 24 then casesE e
     else if e.op == 25 then firstE e cols
     else strictL e cols e.args):=by
    unfold stepE
    rw [if_neg (by rw [h0];simp),if_neg (by rw [hc];simp)]
   rw [hs]
   clear hs
   by_cases h19:e.op=19
   ·rw [if_pos (by simp [h19])]
    exact s57_19 e cols hw h91 h0 hc h19
   by_cases h20:e.op=20
   ·rw [if_neg (by simp [h20]),if_pos (by simp [h20])]
    exact s57_20 e cols hw h91 h0 hc h20
   by_cases h21:e.op=21
   ·obtain ⟨a,hab⟩:=len1 (hin.1 (by omega))
    rw [if_neg (by simp [h21]),if_neg (by simp [h21]),if_pos (by simp [h21]),show hdE e.args=a by rw [hab];rfl]
    exact s57_21 e cols hw h91 h0 hc h21 a hab
   by_cases h22:e.op=22
   ·obtain ⟨a,hab⟩:=len1 (hin.1 (by omega))
    rw [if_neg (by simp [h22]),if_neg (by simp [h22]),if_neg (by simp [h22]),if_pos (by simp [h22]),show hdE e.args=a by rw [hab];rfl]
    exact s57_22 e cols hw h91 h0 hc h22 a hab
   by_cases h23:e.op=23
   ·obtain ⟨a,hab⟩:=len1 (hin.1 (by omega))
    rw [if_neg (by simp [h23]),if_neg (by simp [h23]),if_neg (by simp [h23]),if_neg (by simp [h23]),if_pos (by simp [h23]),show hdE e.args=a by rw [hab];rfl]
    exact s57_23 e cols hw h91 h0 hc h23 a hab
   by_cases h18:e.op=18
   ·obtain ⟨a,b,hab⟩:=len2 (hin.2.2.2 (by omega) (by omega) (by omega))
    rw [if_neg (by simp [h18]),if_neg (by simp [h18]),if_neg (by simp [h18]),if_neg (by simp [h18]),if_neg (by simp [h18]),if_pos (by simp [h18]),show hdE e.args=a by rw [hab];rfl,show lastE e.args=b by rw [hab];rfl]
    exact s57_18 e cols hw h91 h0 hc h18 a b hab
   by_cases h24:e.op=24
   ·have:=(hin.2.2.1 h24).1
    rw [if_neg (by simp [h24]),if_neg (by simp [h24]),if_neg (by simp [h24]),if_neg (by simp [h24]),if_neg (by simp [h24]),if_neg (by simp [h24]),if_pos (by simp [h24])]
    exact s57_24 e cols hw h91 h0 hc h24 (e.args.length - 1) (by omega) (by omega)
   by_cases h25:e.op=25
   ·have:=hin.2.1 (by omega)
    rw [if_neg (by simp [h25]),if_neg (by simp [h25]),if_neg (by simp [h25]),if_neg (by simp [h25]),if_neg (by simp [h25]),if_neg (by simp [h25]),if_neg (by simp [h25]),if_pos (by simp [h25])]
    exact s57_25 e cols hw h91 h0 hc h25 (e.args.length - 1) (by omega)
   rw [if_neg (by simpa using h19),if_neg (by simpa using h20),if_neg (by simpa using h21),if_neg (by simpa using h22),if_neg (by simpa using h23),if_neg (by simpa using h18),if_neg (by simpa using h24),if_neg (by simpa using h25)]
   exact s57_s e cols hw h91 h0 hc (by omega) (fun h=>cal98' e cols hw hi h (by omega)) (fun h=>cal99 e cols hw hi h)
end Go.Proofs.YtgiedlcjlalpcaaGreat
