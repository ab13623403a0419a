/- Part of a proof: Ops8 Eval Code Func Tab. -/
import Derived.Laws.AppendOwn
import Derived.KernelRfl
import Derived.Test.YtgiedlcjlalpcaaGreatProg
import Derived.Test.YtgiedlcjlalpcaaGreatPb02
set_option linter.all false
namespace Go.Abs
open Go.RowKit
section
variable {cfg:Cfg} {base:Base} {P:Program} {o:Oper} {a:Act} {w:World} {E:Env} {μ:Places} {S:St} {d:Nat} {r:V × Blks × List Nat}
def RowAt (E:Env) (w:World) (bs:Option Addr) (sz:Nat) (ys:List Abs.P) (news:List Value):Prop:=
 news.length=ys.length * sz∧(ys=[] ∨ ∃ A:Addr,bs=some A∧∀ (j:Nat) (v:Value),news[j]? = some v→w.cell? (A.add j)=some v) ∧
  (∀ (i:Nat) (x:Abs.P),ys[i]? = some x→∀ (j:Nat) (y:Abs.P),x.cells[j]? = some y→∃ v,news[i * sz + j]? = some v∧RepP E v y)
theorem cell_index {sz:Nat} {ys:List Abs.P} (hok:sizesOk sz ys=true) {q:Nat} (hq:q < ys.length * sz):∃ i x j y,ys[i]? = some x∧x.cells[j]? = some y∧q=i * sz + j∧oneP y=true:=by
 have hsz:0 < sz:=by
  rcases Nat.eq_zero_or_pos sz with h | h
  ·subst h;simp at hq
  ·exact h
 have h1:q / sz < ys.length:=(Nat.div_lt_iff_lt_mul hsz).2 hq
 have hx:ys[q / sz]? = some ys[q / sz]:=by simp [h1]
 obtain ⟨h2,h3⟩:=sizesOk_get hok hx
 have h4:q % sz < ys[q / sz].cells.length:=by rw [h2];exact Nat.mod_lt _ hsz
 exact ⟨q / sz,ys[q / sz],q % sz,ys[q / sz].cells[q % sz],hx,by simp [h4],by rw [Nat.mul_comm,Nat.div_add_mod],h3 _ (List.getElem_mem h4)⟩
theorem rowAt_mk {sz:Nat} {ys:List Abs.P} (hok:sizesOk sz ys=true) {B off:Nat} {g:Nat→Option Value}
  (h:∀ (i:Nat) (x:Abs.P),ys[i]? = some x→∀ (j:Nat) (y:Abs.P),x.cells[j]? = some y→∃ v,g (i * sz + j)=some v∧w.cell? ⟨B,off + (i * sz + j),none⟩=some v∧RepP E v y) :
  ∃ news,RowAt E w (some ⟨B,off,none⟩) sz ys news:=by
 refine ⟨(List.range (ys.length * sz)).map fun q=>(g q).getD undef,by simp,.inr ⟨_,rfl,fun q v hv=>?_⟩,fun i x hi j y hj=>?_⟩
 ·simp only [List.getElem?_map,Option.map_eq_some_iff] at hv
  obtain ⟨q',hq',rfl⟩:=hv
  have hlt:q < ys.length * sz:=by
   rcases Nat.lt_or_ge q (ys.length * sz) with h' | h'
   ·exact h'
   ·simp [List.getElem?_eq_none,h'] at hq'
  rw [List.getElem?_range hlt] at hq'
  cases hq'
  obtain ⟨i,x,j,y,e1,e2,e3,_⟩:=cell_index hok hlt
  obtain ⟨v,g1,g2,g3⟩:=h i x e1 j y e2
  rw [add_plain,e3,g2,g1];rfl
 ·obtain ⟨v,g1,g2,g3⟩:=h i x hi j y hj
  have hlt:i * sz + j < ys.length * sz:=by
   have e1:i < ys.length:=by
    rcases Nat.lt_or_ge i ys.length with h | h
    ·exact h
    ·simp [List.getElem?_eq_none h] at hi
   have e2:j < x.cells.length:=by
    rcases Nat.lt_or_ge j x.cells.length with h | h
    ·exact h
    ·simp [List.getElem?_eq_none h] at hj
   rw [(sizesOk_get hok hi).1] at e2
   calc i * sz + j < i * sz + sz:=by omega
    _=(i + 1) * sz:=by rw [Nat.add_mul,Nat.one_mul]
    _ ≤ ys.length * sz:=Nat.mul_le_mul_right _ e1
  exact ⟨v,by simp [List.getElem?_range hlt,g1],g3⟩
theorem added_sound (hm:Mem cfg base E μ S.b S.u w) {v:V} {cv:Value} (hr:Rep E μ S.b S.u cv v) {ys:List Abs.P} {b:Blks} (h:addedP S.b v=some (ys,b)) {sz:Nat} (hok:sizesOk sz ys=true) :
  b=S.b∧∃ bs cap news,cv = .slice bs ys.length cap∧RowAt E w bs sz ys news:=by
 unfold addedP at h
 split at h
 ·rename_i es
  simp only [Option.some.injEq,Prod.mk.injEq] at h
  obtain ⟨rfl,rfl⟩:=h
  refine ⟨rfl,?_⟩
  have h2:=hr.inv_p
  cases h2 with
  | lst bs cap _ f B off sz' hcap hlim hb hsz' hcc hrr=>
   by_cases hne:es=[]
   ·subst hne
    exact ⟨bs,cap,[],rfl,(by simp),.inl rfl,fun i x hi=>by simp at hi⟩
   ·rw [hb hne]
    have hs:sz'=sz:=by
     obtain ⟨x,r,rfl⟩:=List.exists_cons_of_ne_nil hne
     rw [← hsz' 0 x rfl,(sizesOk_get hok (i:=0) rfl).1]
    subst hs
    obtain ⟨news,hnews⟩:=rowAt_mk (E:=E) (w:=w) hok (B:=B) (off:=off) (g:=fun q=>w.cell? ⟨B,off + q,none⟩) (fun i x hi j y hj=>by
     have:=hm.cell _ _ _ (hcc i x hi j y hj)
     rw [Nat.add_assoc] at this
     exact ⟨f i j,this,this,hrr i x hi j y hj⟩)
    exact ⟨_,cap,news,rfl,hnews⟩
 ·simp only [Option.some.injEq,Prod.mk.injEq] at h
  obtain ⟨rfl,rfl⟩:=h
  refine ⟨rfl,?_⟩
  cases hr with
  | nils=>exact ⟨none,0,[],rfl,(by simp),.inl rfl,fun i x hi=>by simp at hi⟩
 ·rename_i nm len
  split at h
  ·rename_i sz' es sh hb
   split at h
   ·rename_i hl
    simp only [Option.some.injEq,Prod.mk.injEq] at h
    obtain ⟨rfl,rfl⟩:=h
    refine ⟨rfl,?_⟩
    cases hr with
    | own _ _ _ sz'' es' sh' hu hb' hs hl' hv=>
     rw [hb] at hb'
     cases hb'
     have hcur:=hv hl.symm
     obtain ⟨hsz2,hkk⟩:=hm.blk nm _ hb
     rcases hkk with ⟨f1,f2⟩ | ⟨B,cap,c,f1,f2,f3,f4,f5,f6⟩
     ·subst f2
      simp only [cur,f1] at hcur
      exact ⟨none,0,[],hcur,(by simp),.inl rfl,fun i x hi=>by simp at hi⟩
     ·simp only [cur,f1] at hcur
      by_cases hne:es=[]
      ·subst hne
       simp at hl
       subst hl
       exact ⟨_,cap,[],hcur,(by simp),.inl rfl,fun i x hi=>by simp at hi⟩
      ·have hs:sz'=sz:=by
        obtain ⟨x,r,rfl⟩:=List.exists_cons_of_ne_nil hne
        rw [← hsz2.2 0 x rfl,(sizesOk_get hok (i:=0) rfl).1]
       subst hs
       obtain ⟨news,hnews⟩:=rowAt_mk (E:=E) (w:=w) hok (B:=B) (off:=0) (g:=fun q=>c[q]?) (fun i x hi j y hj=>by
        obtain ⟨v,g1,g2,_⟩:=f5 i x hi j y hj
        exact ⟨v,g1,by rw [cell_of_blockAt f2,Nat.zero_add];exact g1,g2⟩)
       rw [← hl] at hcur
       exact ⟨_,cap,news,hcur,hnews⟩
   ·cases h
  ·cases h
 ·cases h
theorem run_app_zero {t t' ty e e':TypeId} (hu:P.underlying t=some (.slice e)) (hu':P.underlying t'=some (.slice e')) {i:TypeInfo} (hi:P.info? e=some i) (bs:Option Addr) (cap:Nat) :
  (Builtin.append_ #[t,t'] ty #[.slice none 0 0,.slice bs 0 cap]).run P w = .ok (.slice none 0 0) w:=by
 cases bs with
 | none=>simp [Builtin.append_,run_underlying hu,run_underlying hu',sizeOf,typeInfo,hi,Builtin.lenOf,Builtin.firstCells]
 | some A=>
  have:=run_firstCells_some (P:=P) w i.size 0 A 0 cap [] (by simp) (fun j v h=>by simp at h)
  simp [Builtin.append_,run_underlying hu,run_underlying hu',sizeOf,typeInfo,hi,Builtin.lenOf,this]
theorem run_app_new {t t' ty e e':TypeId} (hu:P.underlying t=some (.slice e)) (hu':P.underlying t'=some (.slice e')) {i:TypeInfo} {z:Value} (hi:P.info? e=some i) (hz:i.zero=some z)
  {bo:Option Addr} {sLen sCap:Nat} {xs:List Abs.P} {olds:List Value} (holds:RowAt E w bo i.size xs olds) (hlen:xs.length=sLen) {bn:Option Addr} {ys:List Abs.P} {c:Nat} {news:List Value} (hnews:RowAt E w bn i.size ys news)
  (hg:sCap < sLen + ys.length) (hle:sLen ≤ sCap) (hfit:(sLen + ys.length) * i.bytes ≤ 70368744177664) (hb0:sLen + ys.length ≤ 70368744177664) :
  (Builtin.append_ #[t,t'] ty #[.slice bo sLen sCap,.slice bn ys.length c]).run P w =
   .ok (.slice (some ⟨w.heap.size,0,none⟩) (sLen + ys.length) (grownCap w (sLen + ys.length) sCap e))
    (w.drew.alloc (.cells (olds.toArray ++ news.toArray ++ Builtin.zeroCells z.cells (grownCap w (sLen + ys.length) sCap e - (sLen + ys.length))) e)):=by
 have hn:¬ (sLen + ys.length ≤ sCap):=by omega
 have hne:ys ≠ []:=by intro h;subst h;simp at hg;omega
 obtain ⟨n1,n2,n3⟩:=hnews
 obtain ⟨A,rfl,n4⟩:=n2.resolve_left hne
 have hf:=run_firstCells_some (P:=P) w.drew i.size ys.length A ys.length c news n1 n4
 obtain ⟨o1,o2,o3⟩:=holds
 have hfo:(Builtin.firstCells i.size sLen (.slice bo sLen sCap)).run P w.drew = .ok olds.toArray w.drew:=by
  rcases o2 with h | ⟨A',rfl,o2⟩
  ·subst h
   simp at hlen
   subst hlen
   simp at o1
   subst o1
   cases bo with
   | none=>simp [Builtin.firstCells]
   | some A'=>exact run_firstCells_some (P:=P) w.drew i.size 0 A' 0 sCap [] (by simp) (fun j v h=>by simp at h)
  ·exact run_firstCells_some (P:=P) w.drew i.size sLen A' sLen sCap olds (by rw [o1,hlen]) o2
 have h48:Builtin.nextslicecap (sLen + ys.length) sCap * i.bytes ≤ 281474976710656:=growslice_fits (by omega) (by omega)
 have h48':¬ (281474976710656 < Builtin.nextslicecap (sLen + ys.length) sCap * i.bytes):=by omega
 have h63:¬ (9223372036854775807 < ((sLen:Int) + (ys.length:Int))):=by omega
 simp [Builtin.append_,run_underlying hu,run_underlying hu',sizeOf,typeInfo,zeroValue,hi,hz,Builtin.lenOf,hn,h48',h63,Question.forced,hf,hfo,newRow,grownCap]
 congr 2
 apply Array.ext'
 simp [List.append_assoc]
theorem run_app_room {t t' ty e e':TypeId} (hu:P.underlying t=some (.slice e)) (hu':P.underlying t'=some (.slice e')) {i:TypeInfo} (hi:P.info? e=some i)
  {B sLen sCap:Nat} {c₀:Array Value} {tt:TypeId} (hB:w.heap[B]? = some (.cells c₀ tt (0,0))) {bn:Option Addr} {ys:List Abs.P} {c:Nat} {news:List Value} (hnews:RowAt E w bn i.size ys news) (hone:∀ v ∈ news,v.oneCell'=true)
  (hg:sLen + ys.length ≤ sCap) (hfit:(sLen + ys.length) * i.size ≤ c₀.size) :
  (Builtin.append_ #[t,t'] ty #[.slice (some ⟨B,0,none⟩) sLen sCap,.slice bn ys.length c]).run P w =
   .ok (.slice (some ⟨B,0,none⟩) (sLen + ys.length) sCap) (w.setRow B (c₀.toList.take (sLen * i.size) ++ news ++ c₀.toList.drop (sLen * i.size + news.length)).toArray):=by
 obtain ⟨n1,n2,n3⟩:=hnews
 have hf:(Builtin.firstCells i.size ys.length (.slice bn ys.length c)).run P w = .ok news.toArray w:=by
  rcases n2 with h | ⟨A',rfl,n2⟩
  ·subst h
   simp at n1
   subst n1
   cases bn with
   | none=>simp [Builtin.firstCells]
   | some A'=>exact run_firstCells_some (P:=P) w i.size 0 A' 0 c [] (by simp) (fun j v h=>by simp at h)
  ·exact run_firstCells_some (P:=P) w i.size ys.length A' ys.length c news n1 n2
 have hl:sLen * i.size + news.length ≤ c₀.size:=by rw [n1,← Nat.add_mul];exact hfit
 have hst:=run_storeCells_at P B (sLen * i.size) tt news 0 c₀ w hB (by simpa using hl) hone
 simp only [Nat.add_zero] at hst
 simp [Builtin.append_,run_underlying hu,run_underlying hu',sizeOf,typeInfo,hi,Builtin.lenOf,hg,hf,add_plain,hst]
theorem rows_append {sz:Nat} {xs ys:List Abs.P} {olds news:List Value} {rest:Array Value} (hx:olds.length=xs.length * sz) (hsx:∀ (i:Nat) (x:Abs.P),xs[i]? = some x→x.cells.length=sz) (hok:sizesOk sz ys=true)
  (ho:∀ (i:Nat) (x:Abs.P),xs[i]? = some x→∀ (j:Nat) (y:Abs.P),x.cells[j]? = some y→∃ v,olds[i * sz + j]? = some v∧RepP E v y)
  (hnl:news.length=ys.length * sz) (hn:∀ (i:Nat) (x:Abs.P),ys[i]? = some x→∀ (j:Nat) (y:Abs.P),x.cells[j]? = some y→∃ v,news[i * sz + j]? = some v∧RepP E v y) :
  ∀ (i:Nat) (x:Abs.P),(xs ++ ys)[i]? = some x→∀ (j:Nat) (y:Abs.P),x.cells[j]? = some y→∃ v,(olds.toArray ++ news.toArray ++ rest)[i * sz + j]? = some v∧RepP E v y:=by
 intro i x hi j y hj
 have hjlt:∀ n,x.cells.length=n→j < n:=by
  intro n hn
  subst hn
  rcases Nat.lt_or_ge j x.cells.length with h | h
  ·exact h
  ·simp [List.getElem?_eq_none h] at hj
 by_cases h:i < xs.length
 ·rw [List.getElem?_append_left h] at hi
  obtain ⟨v,h1,h2⟩:=ho i x hi j y hj
  have hlt:i * sz + j < olds.length:=by
   rw [hx]
   calc i * sz + j < i * sz + sz:=by have:=hjlt sz (hsx i x hi);omega
    _=(i + 1) * sz:=by rw [Nat.add_mul,Nat.one_mul]
    _ ≤ xs.length * sz:=Nat.mul_le_mul_right _ h
  refine ⟨v,?_,h2⟩
  rw [Array.append_assoc,Array.getElem?_append_left (by simpa using hlt)]
  simpa using h1
 ·rw [List.getElem?_append_right (by omega)] at hi
  obtain ⟨v,h1,h2⟩:=hn _ x hi j y hj
  have hi':i - xs.length < ys.length:=by
   rcases Nat.lt_or_ge (i - xs.length) ys.length with h | h
   ·exact h
   ·simp [List.getElem?_eq_none h] at hi
  have e1:i * sz + j=olds.length + ((i - xs.length) * sz + j):=by
   rw [hx,← Nat.add_assoc,← Nat.add_mul]
   congr 2
   omega
  have hlt:(i - xs.length) * sz + j < news.length:=by
   rw [hnl]
   calc (i - xs.length) * sz + j < (i - xs.length) * sz + sz:=by have:=hjlt sz (sizesOk_get hok hi).1;omega
    _=(i - xs.length + 1) * sz:=by rw [Nat.add_mul,Nat.one_mul]
    _ ≤ ys.length * sz:=Nat.mul_le_mul_right _ hi'
  refine ⟨v,?_,h2⟩
  rw [Array.append_assoc,Array.getElem?_append_right (by simp;omega),Array.getElem?_append_left (by simp;omega)]
  simp only [List.size_toArray,List.getElem?_toArray]
  rw [show i * sz + j - olds.length=(i - xs.length) * sz + j by omega]
  exact h1
theorem does_append (hc:CfgOk cfg P) (hm:Mem cfg base E μ S.b S.u w) (ht:Tm E μ S a) {x y:Operand} {t t':TypeId} (ho:o.op = .call { callee:=.builtin .append,args:=#[x,y],argTypes:=#[t,t'] })
  (he:evalOp cfg d (.call { callee:=.builtin .append,args:=#[x,y],argTypes:=#[t,t'] }) S=some r):Does cfg base P o a w E μ S.b S.u r:=by
 have h1:=rep_opnd ht x
 have h3:=rep_opnd ht y
 simp only [evalOp,List.map_cons,List.map_nil] at he
 ·split at he
  ·rename_i e' _ _ _ _ hi'
   obtain ⟨_,_,d',_,_,_,_,_,_,hu',hk'⟩:=hc.info hi'
   have hd':∃ e'',d' = .slice e'':=by cases d' <;> simp [kindB] at hk';exact ⟨_,rfl⟩
   obtain ⟨e'',rfl⟩:=hd'
   unfold appendV at he
   split at he
   ·rename_i e _ _ _ _ hi
    obtain ⟨_,_,dd,_,_,_,_,_,_,hu,hk⟩:=hc.info hi
    have hd:dd = .slice e:=by cases dd <;> simp [kindB] at hk;subst hk;rfl
    subst hd
    split at he
    ·rename_i i hie
     obtain ⟨inf,z,_,q1,q2,q3,q4,q5,q6,_,_⟩:=hc.info hie
     split at he
     ·rename_i ys b hys
      split at he
      ·rename_i hok
       obtain ⟨rfl,bs,capy,news,hcy,hrow⟩:=added_sound hm h3 hys hok
       have hexec:∀ (cv:Value) (w':World) (v:Value),a.eval x=cv→(Builtin.append_ #[t,t'] o.type #[cv,.slice bs ys.length capy]).run P w = .ok v w'→(execOp a.eval o).run P w = .ok (.value v) w':=by
        intro cv w' v hcv hrun
        simp [execOp,ho,hcv,hcy,resolve,invoke,builtin,hrun]
       rw [← q2] at hok hrow
       have hzs:z.cells.size=inf.size:=by rw [q6,q2]
       split at he
       ·
        rename_i hvx
        split at he
        ·rename_i hroom
         simp only [roomFor,decide_eq_true_eq] at hroom
         split at he
         ·cases he
         ·rename_i hdu
          simp only [Option.some.injEq] at he
          subst he
          obtain ⟨cv,hcv⟩:∃ cv,a.eval x=cv:=⟨_,rfl⟩
          rw [hcv,hvx] at h1
          cases h1 with
          | nils=>
           by_cases hne:ys=[]
           ·subst hne
            have hrun:=hexec _ _ _ hcv (run_app_zero (ty:=o.type) (w:=w) hu hu' q1 bs capy)
            let μ':Places:=fun m=>if m=d then none else μ m
            have hchg:Chg E E μ μ' S.b (setB S.b d (.arr i.size [] false)) S.u (d :: S.u):=Chg.fresh (Env.le_refl E) hdu (fun m hmn=>by simp [μ',hmn])
            refine ⟨E, μ',w,_,hchg,?_,?_,.inl hrun⟩
            ·refine hm.step hchg (by simp) (fun m hmn=>by simp [μ',hmn]) w.heap.size (fun C e h=>by simp [μ'] at h) (.inr (Nat.le_refl _)) (fun _ _ _=>rfl) (Nat.le_refl _) rfl rfl rfl (fun _ _ _=>rfl) (fun _=>rfl) (fun o' v hv=>hm.cell _ _ _ hv) ?_
             exact ⟨⟨by simp,fun i x hi=>by simp at hi⟩,.inl ⟨by simp [μ'],rfl⟩⟩
            ·exact .own _ d 0 i.size [] false (by simp) (by rw [getB_setB,if_pos rfl]) rfl (Nat.le_refl _) fun _=>by simp [cur, μ']
           ·have hpos:0 < ys.length:=List.length_pos_iff.2 hne
            have hrun:=hexec _ _ _ hcv (run_app_new (E:=E) (ty:=o.type) (w:=w) hu hu' q1 q4 (bo:=none) (sLen:=0) (sCap:=0) (xs:=[]) (olds:=[]) ⟨by simp,.inl rfl,fun i x hi=>by simp at hi⟩ rfl hrow (by omega) (Nat.le_refl _)
             (by rw [q3];simpa using hroom.1) (by omega))
            obtain ⟨E₂, μ₂,r1,r2,r3⟩:=new_arr (es₀:=[]) (sh₀:=false) hm (w₁:=w.drew) (n:=d) (u':=d :: S.u) (sz:=i.size) (es:=ys) (sh:=false)
             (c:=([]:List Value).toArray ++ news.toArray ++ Builtin.zeroCells z.cells (grownCap w (0 + ys.length) 0 e - (0 + ys.length))) (cap:=grownCap w (0 + ys.length) 0 e) (t:=e) (.inl ⟨hdu,rfl,rfl⟩) (fun _ _=>rfl) rfl rfl rfl rfl (by omega) (fun j x hx=>by rw [(sizesOk_get hok hx).1,q2])
             (by
              have:=grownCap_ge w (0 + ys.length) 0 e
              simp only [Array.size_append,List.size_toArray,List.length_nil,size_zeroCells,hzs,hrow.1,q2,Nat.zero_add] at this ⊢
              rw [← Nat.add_mul];congr 1;omega) (by simpa using grownCap_ge w (0 + ys.length) 0 e)
             (by
              have:=rows_append (E:=E) (sz:=i.size) (xs:=[]) (ys:=ys) (olds:=[]) (news:=news) (rest:=Builtin.zeroCells z.cells (grownCap w (0 + ys.length) 0 e - (0 + ys.length))) (by simp) (fun i x hi=>by simp at hi) (by rw [← q2];exact hok) (fun i x hi=>by simp at hi) (by rw [← q2];exact hrow.1) (by rw [← q2];exact hrow.2.2)
              simpa only [List.nil_append] using this)
            rw [Nat.zero_add] at hrun r2 r3
            exact ⟨E₂, μ₂,_,_,r1,r2,r3,.inl hrun⟩
        ·cases he
       ·
        rename_i nm len hvx
        split at he
        ·rename_i sz es sh hb
         split at he
         ·rename_i hcond
          obtain ⟨hl,hsz⟩:=hcond
          split at he
          ·rename_i hroom
           simp only [roomFor,decide_eq_true_eq] at hroom
           simp only [Option.some.injEq] at he
           subst he
           subst hsz
           obtain ⟨cv,hcv⟩:∃ cv,a.eval x=cv:=⟨_,rfl⟩
           rw [hcv,hvx] at h1
           cases h1 with
           | own _ _ _ sz'' es' sh' hu₁ hb' hs hl' hv=>
            rw [hb] at hb'
            cases hb'
            have hcur:=hv hl.symm
            obtain ⟨hsz2,hkk⟩:=hm.blk nm _ hb
            rcases hkk with ⟨f1,f2⟩ | ⟨B,cap,c,f1,⟨tt,f2⟩,f3,f4,f5,f6⟩
            ·
             subst f2
             simp at hl
             subst hl
             simp only [cur,f1] at hcur
             subst hcur
             by_cases hne:ys=[]
             ·subst hne
              have hrun:=hexec _ _ _ hcv (run_app_zero (ty:=o.type) (w:=w) hu hu' q1 bs capy)
              have hchg:Chg E E μ μ S.b (setB S.b nm (.arr i.size ([] ++ []) sh)) S.u S.u:=Chg.grow (Env.le_refl E) hb (Nat.le_refl _) (fun _ _=>rfl) (fun _=>rfl)
              refine ⟨E, μ,w,_,hchg,?_,?_,.inl hrun⟩
              ·refine hm.step hchg hu₁ (fun _ _=>rfl) w.heap.size (fun C e h=>by rw [f1] at h;cases h) (.inr (Nat.le_refl _)) (fun _ _ _=>rfl) (Nat.le_refl _) rfl rfl rfl (fun _ _ _=>rfl) (fun _=>rfl) (fun o' v hv=>hm.cell _ _ _ hv) ?_
               exact ⟨⟨by simp,fun i x hi=>by simp at hi⟩,.inl ⟨f1,rfl⟩⟩
              ·exact .own _ nm 0 i.size [] sh hu₁ (by rw [getB_setB,if_pos rfl];rfl) rfl (Nat.le_refl _) fun _=>by simp [cur,f1]
             ·have hpos:0 < ys.length:=List.length_pos_iff.2 hne
              have hrun:=hexec _ _ _ hcv (run_app_new (E:=E) (ty:=o.type) (w:=w) hu hu' q1 q4 (bo:=none) (sLen:=0) (sCap:=0) (xs:=[]) (olds:=[]) ⟨by simp,.inl rfl,fun i x hi=>by simp at hi⟩ rfl hrow (by omega) (Nat.le_refl _)
               (by rw [q3];simpa using hroom.1) (by omega))
              obtain ⟨E₂, μ₂,r1,r2,r3⟩:=new_arr (es₀:=[]) (sh₀:=false) hm (w₁:=w.drew) (n:=nm) (u':=S.u) (sz:=i.size) (es:=ys) (sh:=sh)
               (c:=([]:List Value).toArray ++ news.toArray ++ Builtin.zeroCells z.cells (grownCap w (0 + ys.length) 0 e - (0 + ys.length))) (cap:=grownCap w (0 + ys.length) 0 e) (t:=e) (.inr ⟨hu₁,rfl,hb,hpos⟩) (fun _ _=>rfl) rfl rfl rfl rfl (by omega) (fun j x hx=>by rw [(sizesOk_get hok hx).1,q2])
               (by
                have:=grownCap_ge w (0 + ys.length) 0 e
                simp only [Array.size_append,List.size_toArray,List.length_nil,size_zeroCells,hzs,hrow.1,q2,Nat.zero_add] at this ⊢
                rw [← Nat.add_mul];congr 1;omega) (by simpa using grownCap_ge w (0 + ys.length) 0 e)
               (by
                have:=rows_append (E:=E) (sz:=i.size) (xs:=[]) (ys:=ys) (olds:=[]) (news:=news) (rest:=Builtin.zeroCells z.cells (grownCap w (0 + ys.length) 0 e - (0 + ys.length))) (by simp) (fun i x hi=>by simp at hi) (by rw [← q2];exact hok) (fun i x hi=>by simp at hi) (by rw [← q2];exact hrow.1) (by rw [← q2];exact hrow.2.2)
                simpa only [List.nil_append] using this)
              rw [Nat.zero_add] at hrun r2 r3
              simp only [List.nil_append,Nat.zero_add]
              exact ⟨E₂, μ₂,_,_,r1,r2,r3,.inl hrun⟩
            ·simp only [cur,f1] at hcur
             subst hcur
             have hcap:∀ (i₁:Nat) (x₁:Abs.P),es[i₁]? = some x₁→∀ (j:Nat) (y:Abs.P),x₁.cells[j]? = some y→∃ v,(c.toList.take (len * i.size))[i₁ * i.size + j]? = some v∧RepP E v y∧w.cell? ⟨B,0 + (i₁ * i.size + j),none⟩=some v:=by
              intro i₁ x₁ hx₁ j y hj
              obtain ⟨v,g1,g2,g3⟩:=f5 i₁ x₁ hx₁ j y hj
              have e1:i₁ < es.length:=by
               rcases Nat.lt_or_ge i₁ es.length with h | h
               ·exact h
               ·simp [List.getElem?_eq_none h] at hx₁
              have e2:j < i.size:=by
               rw [← hsz2.2 _ _ hx₁]
               rcases Nat.lt_or_ge j x₁.cells.length with h | h
               ·exact h
               ·simp [List.getElem?_eq_none h] at hj
              have hlt:i₁ * i.size + j < len * i.size:=by
               calc i₁ * i.size + j < i₁ * i.size + i.size:=by omega
                _=(i₁ + 1) * i.size:=by rw [Nat.add_mul,Nat.one_mul]
                _ ≤ len * i.size:=Nat.mul_le_mul_right _ (by omega)
              refine ⟨v,?_,g2,?_⟩
              ·rw [List.getElem?_take_of_lt hlt];simpa using g1
              ·rw [cell_of_blockAt ⟨tt,f2⟩,Nat.zero_add];exact g1
             have hlenc:len * i.size ≤ c.size:=by rw [← f3];exact Nat.mul_le_mul_right _ (by omega)
             have holdl:(c.toList.take (len * i.size)).length=es.length * i.size:=by simp;rw [hl];omega
             by_cases hroom':len + ys.length ≤ cap
             ·
              have hone:∀ v ∈ news,v.oneCell'=true:=by
               intro v hv
               obtain ⟨q,hq,rfl⟩:=List.mem_iff_getElem.1 hv
               obtain ⟨i₁,x₁,j,y,e1,e2,e3,e4⟩:=cell_index hok (q:=q) (by rw [← hrow.1];exact hq)
               obtain ⟨v',g1,g2⟩:=hrow.2.2 i₁ x₁ e1 j y e2
               rw [← e3,List.getElem?_eq_getElem hq] at g1
               cases g1
               exact oneCell_of_repP g2 e4
              have hfit:(len + ys.length) * inf.size ≤ c.size:=by rw [q2,← f3];exact Nat.mul_le_mul_right _ hroom'
              have hrun:=hexec _ _ _ hcv (run_app_room (E:=E) (ty:=o.type) (w:=w) hu hu' q1 f2 (sLen:=len) (sCap:=cap) hrow hone hroom' hfit)
              have hnl:=hrow.1
              rw [q2] at hfit hnl hrun
              have hspl:len * i.size + news.length ≤ c.toList.length:=by simp;rw [hnl,← Nat.add_mul];exact hfit
              have hc':=rows_append (E:=E) (sz:=i.size) (xs:=es) (ys:=ys) (olds:=c.toList.take (len * i.size)) (news:=news) (rest:=(c.toList.drop (len * i.size + news.length)).toArray) holdl hsz2.2 (by rw [← q2];exact hok)
               (fun i₁ x₁ hx₁ j y hj=>by obtain ⟨v,g1,g2,_⟩:=hcap i₁ x₁ hx₁ j y hj;exact ⟨v,g1,g2⟩) hnl (by rw [← q2];exact hrow.2.2)
              have hrowe:(c.toList.take (len * i.size) ++ news ++ c.toList.drop (len * i.size + news.length)).toArray=(c.toList.take (len * i.size)).toArray ++ news.toArray ++ (c.toList.drop (len * i.size + news.length)).toArray:=by simp
              rw [hrowe] at hrun
              generalize hnc:(c.toList.take (len * i.size)).toArray ++ news.toArray ++ (c.toList.drop (len * i.size + news.length)).toArray=nc at hrun hc'
              have hncs:nc.size=c.size:=by
               rw [← hnc,← hrowe,List.size_toArray,length_splice _ _ _ hspl];simp
              have hsame:∀ q,q < len * i.size→nc[q]? = c[q]?:=by
               intro q hq
               rw [← hnc,← hrowe,List.getElem?_toArray,getElem?_splice _ _ _ _ hspl,if_pos hq];simp
              have hlen2:(es ++ ys).length=len + ys.length:=by simp [hl]
              let E':Env:=if sh=true then E.prom B nc ((es ++ ys).length * i.size) else E
              have hbnd:len * i.size ≤ (es ++ ys).length * i.size:=Nat.mul_le_mul_right _ (by rw [hlen2];omega)
              have hprev:∀ q v,E.cell B q=some v→q < len * i.size∧c[q]? = some v:=by
               intro q v hv
               have h7:¬ (sh=true→es.length * i.size ≤ q):=fun h=>by rw [f6 q h] at hv;cases hv
               have h8:=hm.cell B q v hv
               rw [cell_of_blockAt ⟨tt,f2⟩] at h8
               exact ⟨Classical.byContradiction fun h=>h7 fun _=>by rw [hl];omega,h8⟩
              have hle':E.le E':=by
               simp only [E']
               split
               ·refine Env.le_prom fun q v hv=>?_
                obtain ⟨g1,g2⟩:=hprev q v hv
                exact ⟨by omega,by rw [hsame q g1];exact g2⟩
               ·exact Env.le_refl E
              have hchg:Chg E E' μ μ S.b (setB S.b nm (.arr i.size (es ++ ys) sh)) S.u S.u:=Chg.grow hle' hb (by simp) (fun _ _=>rfl) (fun _=>rfl)
              refine ⟨E', μ,_,_,hchg,?_,?_,.inl hrun⟩
              ·refine hm.step hchg hu₁ (fun _ _=>rfl) B (fun C e h=>by rw [f1] at h;cases h;rfl) (.inl ⟨_,cap,hb,rfl,f1⟩) (fun j hj hlt=>setRow_other w B j _ hj) (by simp) rfl rfl rfl
                (fun C q h=>by simp only [E'];split <;> simp [Env.prom,h]) (fun C=>by simp only [E'];split <;> rfl) ?_ ?_ (fun C=>by simp only [E'];split <;> rfl)
               ·intro q v hv
                rw [cell_of_blockAt ⟨tt,setRow_heap w B c nc tt (0,0) f2⟩]
                simp only [E'] at hv
                split at hv
                ·simp only [Env.prom,if_true] at hv
                 split at hv
                 ·exact hv
                 ·cases hv
                ·obtain ⟨g1,g2⟩:=hprev q v hv
                 rw [hsame q g1];exact g2
               ·refine ⟨⟨by rw [hlen2];omega,?_⟩,.inr ⟨B,cap,nc,f1,⟨tt,setRow_heap w B c nc tt (0,0) f2⟩,by rw [hncs];exact f3,by rw [hlen2];exact hroom',fun i₁ x₁ hx₁ j y hj=>?_,fun q hq=>?_⟩⟩
                ·intro i₁ x₁ hx₁
                 by_cases h:i₁ < es.length
                 ·rw [List.getElem?_append_left h] at hx₁;exact hsz2.2 _ _ hx₁
                 ·rw [List.getElem?_append_right (by omega)] at hx₁
                  rw [(sizesOk_get hok hx₁).1,q2]
                ·obtain ⟨v,g1,g2⟩:=hc' i₁ x₁ hx₁ j y hj
                 refine ⟨v,g1,g2.mono hle',fun e=>?_⟩
                 simp only [E',e,if_true,Env.prom]
                 have hx₁':x₁.cells.length=i.size:=by
                  by_cases h:i₁ < es.length
                  ·rw [List.getElem?_append_left h] at hx₁;exact hsz2.2 _ _ hx₁
                  ·rw [List.getElem?_append_right (by omega)] at hx₁
                   rw [(sizesOk_get hok hx₁).1,q2]
                 have e1:i₁ < (es ++ ys).length:=by
                  rcases Nat.lt_or_ge i₁ (es ++ ys).length with h | h
                  ·exact h
                  ·rw [List.getElem?_eq_none h] at hx₁;cases hx₁
                 have e2:j < x₁.cells.length:=by
                  rcases Nat.lt_or_ge j x₁.cells.length with h | h
                  ·exact h
                  ·simp [List.getElem?_eq_none h] at hj
                 rw [if_pos,g1]
                 calc i₁ * i.size + j < i₁ * i.size + i.size:=by omega
                  _=(i₁ + 1) * i.size:=by rw [Nat.add_mul,Nat.one_mul]
                  _ ≤ (es ++ ys).length * i.size:=Nat.mul_le_mul_right _ e1
                ·simp only [E']
                 split
                 ·rename_i e
                  simp only [Env.prom,if_true]
                  rw [if_neg (by have:=hq e;omega)]
                 ·rename_i e
                  exact f6 q (fun h=>(e h).elim)
              ·refine .own _ nm (len + ys.length) i.size (es ++ ys) sh hu₁ (by rw [getB_setB,if_pos rfl]) rfl (by omega) fun _=>?_
               simp only [cur,f1]
             ·
              have hrun:=hexec _ _ _ hcv (run_app_new (E:=E) (ty:=o.type) (w:=w) hu hu' q1 q4 (bo:=some ⟨B,0,none⟩) (sLen:=len) (sCap:=cap) (xs:=es) (olds:=c.toList.take (len * i.size))
               ⟨by rw [q2];exact holdl,.inr ⟨_,rfl,fun q v hv=>by
                rw [add_plain,Nat.zero_add,cell_of_blockAt ⟨tt,f2⟩]
                have hlt:q < len * i.size:=by
                 rcases Nat.lt_or_ge q (len * i.size) with h | h
                 ·exact h
                 ·rw [List.getElem?_take_eq_none h] at hv;cases hv
                rw [List.getElem?_take_of_lt hlt] at hv
                simpa using hv⟩,fun i₁ x₁ hx₁ j y hj=>by rw [q2];obtain ⟨v,g1,g2,_⟩:=hcap i₁ x₁ hx₁ j y hj;exact ⟨v,g1,g2⟩⟩ hl hrow (by omega) (by omega)
               (by rw [q3];exact hroom.1) (by have:=hroom.2;omega))
              have hpos:0 < ys.length:=by omega
              have hok':sizesOk i.size ys=true:=by rw [← q2];exact hok
              have hc':=rows_append (E:=E) (sz:=i.size) (xs:=es) (ys:=ys) (olds:=c.toList.take (len * i.size)) (news:=news) (rest:=Builtin.zeroCells z.cells (grownCap w (len + ys.length) cap e - (len + ys.length))) holdl hsz2.2 hok'
               (fun i₁ x₁ hx₁ j y hj=>by obtain ⟨v,g1,g2,_⟩:=hcap i₁ x₁ hx₁ j y hj;exact ⟨v,g1,g2⟩) (by rw [← q2];exact hrow.1) (by rw [← q2];exact hrow.2.2)
              have hlen2:(es ++ ys).length=len + ys.length:=by simp [hl]
              obtain ⟨E₂, μ₂,r1,r2,r3⟩:=new_arr (es₀:=es) (sh₀:=sh) hm (w₁:=w.drew) (n:=nm) (u':=S.u) (sz:=i.size) (es:=es ++ ys) (sh:=sh)
               (c:=(c.toList.take (len * i.size)).toArray ++ news.toArray ++ Builtin.zeroCells z.cells (grownCap w (len + ys.length) cap e - (len + ys.length))) (cap:=grownCap w (len + ys.length) cap e) (t:=e) (.inr ⟨hu₁,rfl,hb,by rw [hlen2];omega⟩) (fun _ _=>rfl) rfl rfl rfl rfl (by rw [hlen2];omega)
               (fun j x hx=>by
                by_cases h:j < es.length
                ·rw [List.getElem?_append_left h] at hx;exact hsz2.2 _ _ hx
                ·rw [List.getElem?_append_right (by omega)] at hx
                 rw [(sizesOk_get hok hx).1,q2])
               (by
                have:=grownCap_ge w (len + ys.length) cap e
                have hnl:=hrow.1
                rw [q2] at hnl
                simp only [Array.size_append,List.size_toArray,holdl,size_zeroCells,hzs,hnl,q2]
                rw [← Nat.add_mul,← Nat.add_mul];congr 1;omega) (by rw [hlen2];exact grownCap_ge w (len + ys.length) cap e) hc'
              rw [hlen2] at r3
              exact ⟨E₂, μ₂,_,_,r1,r2,r3,.inl hrun⟩
          ·cases he
         ·cases he
        ·cases he
       ·cases he
      ·cases he
     ·cases he
    ·cases he
   ·cases he
  ·cases he
end
end Go.Abs
namespace Go.Abs
open Go.RowKit
section
variable {cfg:Cfg} {base:Base} {P:Program} {o:Oper} {a:Act} {w:World} {E:Env} {μ:Places} {S:St} {d:Nat} {r:V × Blks × List Nat}
theorem arr_one {α:Type} {xs:Array α} {x:α} (h:xs.toList=[x]):xs = #[x]:=Array.ext' h
theorem arr_two {α:Type} {xs:Array α} {x y:α} (h:xs.toList=[x,y]):xs = #[x,y]:=Array.ext' h
theorem map_two {α β:Type} {xs:List α} {f:α→β} {p q:β} (h:xs.map f=[p,q]):∃ x y,xs=[x,y]∧f x=p∧f y=q:=by
 match xs with
 | [x,y]=>simp at h;exact ⟨x,y,rfl,h.1,h.2⟩
 | []=>simp at h
 | [_]=>simp at h
 | _ :: _ :: _ :: _=>simp at h
theorem map_one {α β:Type} {xs:List α} {f:α→β} {p:β} (h:xs.map f=[p]):∃ x,xs=[x]∧f x=p:=by
 match xs with
 | [x]=>simp at h;exact ⟨x,rfl,h⟩
 | []=>simp at h
 | _ :: _ :: _=>simp at h
theorem does_builtin (hc:CfgOk cfg P) (hm:Mem cfg base E μ S.b S.u w) (ht:Tm E μ S a) {q:Builtin} {xs:Array Operand} {ts:Array TypeId} (ho:o.op = .call { callee:=.builtin q,args:=xs,argTypes:=ts })
  (he:evalOp cfg d (.call { callee:=.builtin q,args:=xs,argTypes:=ts }) S=some r):Does cfg base P o a w E μ S.b S.u r:=by
 have he':=he
 simp only [evalOp] at he'
 split at he'
 ·rename_i v t h1 h2
  obtain ⟨x,hx,_⟩:=map_one h1
  have:=arr_one hx
  subst this
  have:=arr_one h2
  subst this
  exact does_len hc hm ht ho he
 ·rename_i x' y' t t' h1 h2
  obtain ⟨x,y,hx,_,_⟩:=map_two h1
  have:=arr_two hx
  subst this
  have:=arr_two h2
  subst this
  exact does_append hc hm ht ho he
 ·rename_i h1
  obtain ⟨x,y,hx,_,_⟩:=map_two h1
  have:=arr_two hx
  subst this
  exact does_minmax hm ht (.inl rfl) ho he
 ·rename_i h1
  obtain ⟨x,y,hx,_,_⟩:=map_two h1
  have:=arr_two hx
  subst this
  exact does_minmax hm ht (.inr rfl) ho he
 ·cases he'
theorem evalOp_sound (hc:CfgOk cfg P) (hm:Mem cfg base E μ S.b S.u w) (ht:Tm E μ S a) {op:Op} (ho:o.op=op) (he:evalOp cfg d op S=some r):Does cfg base P o a w E μ S.b S.u r:=by
 cases op with
 | move x=>exact does_move hm ht ho he
 | assign x=>exact does_assign hm ht ho he
 | pick c x y=>exact does_pick hm ht ho he
 | alloc t=>exact does_alloc hc hm ht ho he
 | box t x=>exact does_box hm ht ho he
 | build t parts=>exact does_build hc hm ht ho he
 | buildSlice t len parts=>exact does_buildSlice hc hm ht ho he
 | load t x=>exact does_load hc hm ht ho he
 | store t x y=>exact does_store hc hm ht ho he
 | nilCheck x=>exact does_nilCheck hm ht ho he
 | binOp q t x y t'=>exact does_binOp hc hm ht ho he
 | unOp q t x=>exact does_unOp hm ht ho he
 | convert s t x=>exact does_convert hc hm ht ho he
 | makeFunc f x y=>exact does_makeFunc hm ht ho he
 | slice t x lo hi mx=>
  cases mx with
  | none=>exact does_slice hc hm ht ho he
  | some m=>simp [evalOp] at he
 | fieldAddr t x f=>exact does_fieldAddr hc hm ht ho he
 | field t x f=>exact does_field hc hm ht ho he
 | indexAddr t x y=>exact does_indexAddr hc hm ht ho he
 | index t x y=>exact does_index hc hm ht ho he
 | extract x i=>exact does_extract hm ht ho he
 | call c=>
  obtain ⟨callee,args,ts⟩:=c
  cases callee with
  | builtin q=>exact does_builtin hc hm ht ho he
  | value f=>simp [evalOp] at he
  | invoke x m=>simp [evalOp] at he
 | _=>simp [evalOp] at he
theorem Tm.put {E':Env} {μ':Places} {b':Blks} {u':List Nat} (ht:Tm E μ S a) (hc:Chg E E' μ μ' S.b b' S.u u') {cv:Value} {v:V} (hr:Rep E' μ' b' u' cv v) (dst:Option Tmp):Tm E' μ' (S.put dst v b' u') (a.put dst cv):=by
 obtain ⟨h1,h2,h3⟩:=ht
 cases dst with
 | none=>
  refine ⟨h1,h2,fun i v x hv hx=>(h3 i v x hv hx).chg hc⟩
 | some d=>
  refine ⟨h1,by simp [Act.put,St.put,h2],fun i v' x hv hx=>?_⟩
  simp only [Act.put,St.put] at hv hx
  rw [Array.getElem?_setIfInBounds] at hv
  rw [List.getElem?_set] at hx
  by_cases e:d=i
  ·subst e
   rw [if_pos rfl] at hv hx
   split at hv
   ·split at hx
    ·simp only [Option.some.injEq] at hv hx
     subst hv;subst hx;exact hr
    ·cases hx
   ·cases hv
  ·rw [if_neg e] at hv hx
   exact (h3 i v' x hv hx).chg hc
end
def postSt (cfg:Cfg) (base:Base) (K:St→Prop):Exit→Act→World→Prop
 | .normal,a,w=>∃ S,K S∧Con cfg base S a w
 | _,_,_=>False
theorem oper_sound {cfg:Cfg} {base:Base} {P:Program} (hc:CfgOk cfg P) {o:Oper} {S:St} {v:V} {b:Blks} {u:List Nat} {d:Nat} (he:evalOp cfg d o.op S=some (v,b,u)) {a:Act} {w:World} (h:Con cfg base S a w)
  {next:Act→World→Prop} {Q:Exit→Act→World→Prop} (hn:∀ a' w',Con cfg base (S.put o.dst v b u) a' w'→next a' w'):o.wp P a w next Q:=by
 obtain ⟨E, μ,hm,ht⟩:=h
 obtain ⟨E', μ',w',cv,h1,h2,h3,h4⟩:=evalOp_sound (o:=o) hc hm ht rfl he
 have key:Con cfg base (S.put o.dst v b u) (a.put o.dst cv) w':=by
  refine ⟨E', μ',?_,ht.put h1 h3 o.dst⟩
  cases o.dst <;> exact h2
 rcases h4 with h4 | ⟨h4,h5⟩
 ·simp only [Oper.wp,h4,Oper.upon]
  exact hn _ _ key
 ·subst h5
  simp only [Oper.wp,h4,Oper.upon]
  exact hn _ _ key
theorem wanted_sound {cfg:Cfg} {base:Base} {ops:Array Oper} {o:Oper} {S:St} {q:Bool} (hq:wantedA ops S.t o=some q) {a:Act} {w:World} (h:Con cfg base S a w):Region.wanted o (yielded ops a.tmps)=q:=by
 obtain ⟨E, μ,hm,h1,h2,h3⟩:=h
 unfold wantedA at hq
 unfold Region.wanted
 split at hq
 ·rename_i hg
  simp only [Option.some.injEq] at hq
  simp [hg,hq]
 ·rename_i j want hg
  split at hq
  ·rename_i d hd
   split at hq
   ·rename_i q' hq'
    split at hq
    ·rename_i hlt
     simp only [Option.some.injEq] at hq
     have hlt':d < a.tmps.size:=Nat.lt_of_lt_of_eq hlt h2.symm
     have hx:S.t[d]? = some (.p (.bool q')):=by
      rw [List.getD_eq_getElem?_getD,List.getElem?_eq_getElem hlt,Option.getD_some] at hq'
      rw [List.getElem?_eq_getElem hlt,hq']
     have:=(h3 d a.tmps[d] _ (by simp [hlt']) hx).inv_p
     have hv:a.tmps[d]? = some (.bool q'):=by
      rw [Array.getElem?_eq_getElem hlt']
      generalize a.tmps[d]=z at this
      cases this
      rfl
     simp only [hg,yielded,hd,Option.bind_some,hv]
     subst hq
     cases q' <;> cases want <;> rfl
    ·cases hq
   ·rename_i hq'
    split at hq
    ·rename_i hlt
     simp only [Option.some.injEq] at hq
     have hlt':d < a.tmps.size:=Nat.lt_of_lt_of_eq hlt h2.symm
     have hx:S.t[d]? = some (.tup []):=by
      rw [List.getD_eq_getElem?_getD,List.getElem?_eq_getElem hlt,Option.getD_some] at hq'
      rw [List.getElem?_eq_getElem hlt,hq']
     have:=h3 d a.tmps[d] _ (by simp [hlt']) hx
     have hv:a.tmps[d]? = some (.tuple #[]):=by
      rw [Array.getElem?_eq_getElem hlt']
      generalize a.tmps[d]=z at this
      cases this with
      | tup vs _ hl _=>
       have:vs=[]:=List.eq_nil_of_length_eq_zero (by simpa using hl)
       subst this
       rfl
     simp only [hg,yielded,hd,Option.bind_some,hv]
     subst hq
     rfl
    ·cases hq
   ·cases hq
  ·cases hq
theorem Con.skip {cfg:Cfg} {base:Base} {S:St} {a:Act} {w:World} (h:Con cfg base S a w) (dst:Option Tmp):Con cfg base (S.put dst (.tup []) S.b S.u) (a.put dst undef) w:=by
 obtain ⟨E, μ,hm,ht⟩:=h
 refine ⟨E, μ,?_,ht.put (Chg.refl _ _ _ _) (.tup [] [] rfl (fun i v p h=>by simp at h)) dst⟩
 cases dst <;> exact hm
end Go.Abs
namespace Go.Abs
open Go.RowKit
structure Sat (cfg:Cfg) (w:World) (E:Env):Prop where
 cell:∀ B o v,E.cell B o=some v→w.cell? ⟨B,o,none⟩=some v
 obj:∀ B tag ps,E.obj B=some (tag,ps)→∀ (i:Nat) (y:P),(cfg.obj tag ps)[i]? = some y→∃ v,E.cell B i=some v∧RepP E v y
 mp:∀ B ks vs,E.mp B=some (ks,vs)→MapAt E w B ks vs
structure Ext (cfg:Cfg) (w:World) (E:Env) (w':World) (E':Env):Prop where
 le:E.le E'
 sat:Sat cfg w' E'
 cnew:∀ B o v,E'.cell B o=some v→E.cell B o=some v ∨ w.heap.size ≤ B
 onew:∀ B x,E'.obj B=some x→E.obj B=some x ∨ w.heap.size ≤ B
 mnew:∀ B x,E'.mp B=some x→E.mp B=some x ∨ w.heap.size ≤ B
 os:w'.os=w.os
 tape:w'.tape=w.tape
 output:w'.output=w.output
 size:w.heap.size ≤ w'.heap.size
 keep:∀ k,k < w.heap.size→w'.heap[k]? = w.heap[k]?
def RepR (E:Env) (v:Value) (rs:List P):Prop:=
 match rs with
 | [r]=>RepP E v r
 | rs=>∃ vs:List Value,v = .tuple vs.toArray∧vs.length=rs.length∧∀ (i:Nat) (x:Value) (p:P),vs[i]? = some x→rs[i]? = some p→RepP E x p
def resV:List P→V
 | [r]=>.p r
 | rs=>.tup (rs.map .p)
def CallP (cfg:Cfg) (Q:Program) (f:FuncId) (ps rs:List P):Prop:=
 (∃ fn,Q.funcs[f]? = some fn∧fn.body.isNone=false∧(fn.name == "runtime.NumGoroutine")=false) ∧
 ∀ (E:Env) (w:World) (vs:List Value),Sat cfg w E→vs.length=ps.length→(∀ (i:Nat) (v:Value) (p:P),vs[i]? = some v→ps[i]? = some p→RepP E v p) →
  Calls Q f vs.toArray w fun e w'=>∃ v E',e = .returned v∧Ext cfg w E w' E'∧RepR E' v rs
def callRes (S:St) (f:Operand) (args:Array Operand):Option (FuncId × List P × Blks):=
 match toPs S.b (opnd S.t f :: args.toList.map (opnd S.t)) with
 | some (.fn (.func g) first cap :: qs,b)=>some (g,first ++ qs ++ cap,b)
 | _=>none
inductive Seq (cfg:Cfg) (Q:Program) (ops:Array Oper):List Oper→St→St→Prop
 | nil (S:St):Seq cfg Q ops [] S S
 | step (o:Oper) (r:List Oper) (S S':St) (v:V) (b:Blks) (u:List Nat) (hw:wantedA ops S.t o=some true) (hc:isCall o.op=false) (he:evalOp cfg (o.dst.getD 0) o.op S=some (v,b,u))
   (h:Seq cfg Q ops r (S.put o.dst v b u) S'):Seq cfg Q ops (o :: r) S S'
 | skip (o:Oper) (r:List Oper) (S S':St) (hw:wantedA ops S.t o=some false) (h:Seq cfg Q ops r (S.put o.dst (.tup []) S.b S.u) S'):Seq cfg Q ops (o :: r) S S'
 | call (o:Oper) (r:List Oper) (S S':St) (f:Operand) (args:Array Operand) (ts:Array TypeId) (g:FuncId) (ps rs:List P) (b:Blks) (hw:wantedA ops S.t o=some true) (ho:o.op = .call { callee:=.value f,args,argTypes:=ts })
   (he:callRes S f args=some (g,ps,b)) (hg:CallP cfg Q g ps rs) (h:Seq cfg Q ops r (S.put o.dst (resV rs) b S.u) S'):Seq cfg Q ops (o :: r) S S'
theorem Seq.evals {cfg:Cfg} {Q:Program} {ops:Array Oper}:∀ (r:List Oper) (S:St) {r':List Oper} {S₁ S':St},evalSeq cfg ops r S=some (r',S₁)→Seq cfg Q ops r' S₁ S'→Seq cfg Q ops r S S'
 | [],S,r',S₁,S',h,k=>by
  simp only [evalSeq,Option.some.injEq,Prod.mk.injEq] at h
  obtain ⟨rfl,rfl⟩:=h
  exact k
 | o :: r,S,r',S₁,S',h,k=>by
  simp only [evalSeq] at h
  split at h
  ·rename_i hw
   split at h
   ·simp only [Option.some.injEq,Prod.mk.injEq] at h
    obtain ⟨rfl,rfl⟩:=h
    exact k
   ·rename_i hc
    split at h
    ·rename_i v b u he
     exact .step o r S S' v b u hw (by simpa using hc) he (Seq.evals r _ h k)
    ·cases h
  ·rename_i hw
   exact .skip o r S S' hw (Seq.evals r _ h k)
  ·cases h
section
variable {cfg:Cfg} {base:Base} {Q:Program}
theorem Mem.sat {E:Env} {μ:Places} {b:Blks} {u:List Nat} {w:World} (hm:Mem cfg base E μ b u w):Sat cfg w E:=⟨hm.cell,hm.obj,hm.mp⟩
theorem Mem.ext {E E':Env} {μ:Places} {b:Blks} {u:List Nat} {w w':World} (hm:Mem cfg base E μ b u w) (h:Ext cfg w E w' E'):Chg E E' μ μ b b u u∧Mem cfg base E' μ b u w':=by
 have hc:Chg E E' μ μ b b u u:=⟨h.le,fun _ h=>h,fun _ _ sz es sh h=>⟨es,sh,h,Nat.le_refl _,fun _=>rfl⟩,fun _ _ h=>⟨rfl,h⟩⟩
 have hlt:∀ n k B c,getB b n=some k→k.mut=true→μ n=some (B,c)→B < w.heap.size:=by
  intro n k B c hk hkm hB
  have hb:=hm.blk n k hk
  cases k with
  | cells cs=>obtain ⟨B',cap,c,h1,h2,_⟩:=hb;rw [hB] at h1;cases h1;exact blockAt_lt h2
  | frz cs=>simp [Blk.mut] at hkm
  | arr sz es sh=>
   obtain ⟨_,hb⟩:=hb
   rcases hb with ⟨h1,_⟩ | ⟨B',cap,c,h1,h2,_⟩
   ·rw [hB] at h1;cases h1
   ·rw [hB] at h1;cases h1;exact blockAt_lt h2
  | map ks vs=>obtain ⟨B',cap,h1,h2,_⟩:=hb;rw [hB] at h1;cases h1;exact h2.lt
  | vmap ks vs=>obtain ⟨B',cap,h1,h2,_⟩:=hb;rw [hB] at h1;cases h1;exact h2.lt
 refine ⟨hc,hm.dom,fun n k hk=>?_,hm.inj,hm.live,h.sat.cell,h.sat.obj,hm.le.trans h.le,?_,?_,h.os.trans hm.os,h.tape.trans hm.tape,h.output.trans hm.output,Nat.le_trans hm.size h.size,?_,h.sat.mp,?_,pin_chg hm hc⟩
 ·refine BlkOk.other hm hc hk rfl (fun B c hkm hB=>?_) (fun B c hkm hB=>?_)
  rotate_left
  ·have hl:=hlt n k B c hk hkm hB
   cases he:E'.mp B with
   | none=>
    cases he':E.mp B with
    | none=>rfl
    | some v=>rw [h.le.mp _ _ he'] at he;cases he
   | some v=>
    rcases h.mnew B v he with h' | h'
    ·exact h'.symm
    ·omega
  have hl:=hlt n k B c hk hkm hB
  refine ⟨h.keep B hl,fun o=>?_⟩
  cases he:E'.cell B o with
  | none=>
   cases he':E.cell B o with
   | none=>rfl
   | some v=>rw [h.le.cell _ _ _ he'] at he;cases he
  | some v=>
   rcases h.cnew B o v he with h' | h'
   ·exact h'.symm
   ·omega
 ·intro B o v hv
  rcases h.cnew B o v hv with h' | h'
  ·exact hm.cnew B o v h'
  ·exact .inr (.inl (Nat.le_trans hm.size h'))
 ·intro B x hx
  rcases h.onew B x hx with h' | h'
  ·exact hm.onew B x h'
  ·exact .inr (.inl (Nat.le_trans hm.size h'))
 ·intro k hk hL
  rw [h.keep k (Nat.lt_of_lt_of_le hk hm.size)]
  exact hm.keep k hk hL
 ·intro B x hx
  rcases h.mnew B x hx with h' | h'
  ·exact hm.mnew B x h'
  ·exact .inr (.inl (Nat.le_trans hm.size h'))
theorem rep_resV {E:Env} {μ:Places} {b:Blks} {u:List Nat} {v:Value} {rs:List P} (h:RepR E v rs):Rep E μ b u v (resV rs):=by
 unfold RepR at h
 split at h
 ·exact .p _ _ h
 ·rename_i hne
  obtain ⟨vs,rfl,hl,hh⟩:=h
  have:resV rs = .tup (rs.map .p):=by
   unfold resV
   split
   ·rename_i r;exact (hne r rfl).elim
   ·rfl
  rw [this]
  refine .tup vs _ (by simpa using hl) fun i x y hx hy=>?_
  simp only [List.getElem?_map,Option.map_eq_some_iff] at hy
  obtain ⟨q,hq,rfl⟩:=hy
  exact .p _ _ (hh i x q hx hq)
theorem call_sound {S:St} {o:Oper} {f:Operand} {args:Array Operand} {ts:Array TypeId} {g:FuncId} {ps rs:List P} {b:Blks} (ho:o.op = .call { callee:=.value f,args,argTypes:=ts }) (he:callRes S f args=some (g,ps,b))
  (hg:CallP cfg Q g ps rs) {a:Act} {w:World} (h:Con cfg base S a w) {next:Act→World→Prop} {R:Exit→Act→World→Prop} (hn:∀ a' w',Con cfg base (S.put o.dst (resV rs) b S.u) a' w'→next a' w'):o.wp Q a w next R:=by
 obtain ⟨E, μ,hm,ht⟩:=h
 unfold callRes at he
 split at he
 ·rename_i g' first cap qs b' htp
  simp only [Option.some.injEq,Prod.mk.injEq] at he
  obtain ⟨rfl,rfl,rfl⟩:=he
  obtain ⟨E₁,k1,k2,k3,k4⟩:=toPs_sound (opnd S.t f :: args.toList.map (opnd S.t)) hm (a.eval f :: args.toList.map a.eval) (by simp) (fun i v p hv hp=>by
   cases i with
   | zero=>simp at hv hp;subst hv;subst hp;exact rep_opnd ht f
   | succ i=>
    simp only [List.getElem?_cons_succ,List.getElem?_map,Option.map_eq_some_iff] at hv hp
    obtain ⟨y,hy,rfl⟩:=hv
    obtain ⟨y',hy',rfl⟩:=hp
    rw [hy] at hy'
    cases hy'
    exact rep_opnd ht _) htp
  have hf:=k4 0 (a.eval f) (.fn (.func g') first cap) rfl rfl
  obtain ⟨cvf,hcvf⟩:∃ cvf,a.eval f=cvf:=⟨_,rfl⟩
  rw [hcvf] at hf
  cases hf with
  | fn _ vs ws _ _ hl hl' hh hh'=>
   obtain ⟨⟨fn,hfn,hbody,hname⟩,hcall⟩:=hg
   have hqs:qs.length=args.toList.length:=by simpa using k3
   have hargs:=hcall E₁ w (vs ++ args.toList.map a.eval ++ ws) k2.sat (by simp [hl,hl',hqs]) (fun i v p hv hp=>by
    by_cases h1:i < vs.length
    ·rw [List.append_assoc,List.getElem?_append_left h1] at hv
     rw [List.append_assoc,List.getElem?_append_left (by omega)] at hp
     exact hh i v p hv hp
    ·rw [List.append_assoc,List.getElem?_append_right (by omega)] at hv
     rw [List.append_assoc,List.getElem?_append_right (by omega),← hl] at hp
     by_cases h2:i - vs.length < qs.length
     ·rw [List.getElem?_append_left (by simpa [hqs] using h2)] at hv
      rw [List.getElem?_append_left h2] at hp
      exact k4 (i - vs.length + 1) v p (by simpa using hv) (by simpa using hp)
     ·rw [List.getElem?_append_right (by simp [← hqs];omega)] at hv
      rw [List.getElem?_append_right (by omega)] at hp
      simp only [List.length_map,← hqs] at hv
      exact hh' _ v p hv hp)
   have hrun:(execOp a.eval o).run Q w = .ok (.enter g' (vs ++ args.toList.map a.eval ++ ws).toArray) w:=by
    have harr:(vs.toArray ++ args.map a.eval ++ ws.toArray)=(vs ++ args.toList.map a.eval ++ ws).toArray:=by
     apply Array.ext';simp
    simp only [execOp,ho,resolve,hcvf,Deferred.ofValue,Sem.run_bind,Sem.run_pure,Result.andThen_ok,invoke,callFunc,run_program,hfn]
    rw [if_neg (by simp [hname]),if_neg (by simp [hbody]),harr]
    rfl
   simp only [Oper.wp,hrun,Oper.upon]
   refine hargs.mono fun e w' ⟨v,E₂,hev,hext,hres⟩=>?_
   subst hev
   obtain ⟨c1,c2⟩:=k2.ext hext
   refine hn _ _ ⟨E₂, μ,?_,ht.put (k1.trans c1) (rep_resV hres) o.dst⟩
   cases o.dst <;> exact c2
 ·cases he
theorem seq_sound (hc:CfgOk cfg Q) {ops:Array Oper} {K:St→Prop}:∀ {r:List Oper} {S S':St},Seq cfg Q ops r S S'→∀ (l:List Nat),l.map (fun i=>ops[i]?)=r.map some→∀ {a:Act} {w:World},Con cfg base S a w→K S' →
  wpOps Q ops (postSt cfg base K) l a w:=by
 intro r S S' h
 induction h with
 | nil S=>
  intro l hl a w hcon hk
  have:l=[]:=by simpa using hl
  subst this
  exact ⟨S,hk,hcon⟩
 | step o r S S' v b u hw hcl he _ ih=>
  intro l hl a w hcon hk
  match l with
  | []=>simp at hl
  | i :: l=>
   simp only [List.map_cons,List.cons.injEq] at hl
   simp only [wpOps,hl.1]
   rw [if_pos (wanted_sound hw hcon)]
   exact .inl (oper_sound hc he hcon fun a' w' h'=>ih l hl.2 h' hk)
 | skip o r S S' hw _ ih=>
  intro l hl a w hcon hk
  match l with
  | []=>simp at hl
  | i :: l=>
   simp only [List.map_cons,List.cons.injEq] at hl
   simp only [wpOps,hl.1]
   rw [if_neg (by rw [wanted_sound hw hcon];simp)]
   exact ih l hl.2 (hcon.skip o.dst) hk
 | call o r S S' f args ts g ps rs b hw ho he hg _ ih=>
  intro l hl a w hcon hk
  match l with
  | []=>simp at hl
  | i :: l=>
   simp only [List.map_cons,List.cons.injEq] at hl
   simp only [wpOps,hl.1]
   rw [if_pos (wanted_sound hw hcon)]
   exact .inl (call_sound ho he hg hcon fun a' w' h'=>ih l hl.2 h' hk)
inductive Ex where
 | normal | ret
 | exit (id:Nat)
def Ex.of:Exit→Option Ex
 | .normal=>some .normal
 | .ret=>some .ret
 | .exit n=>some (.exit n)
 | _=>none
def lift (cfg:Cfg) (base:Base) (R:Ex→St→Prop):Exit→Act→World→Prop:=fun e a w=>∃ x S,Ex.of e=some x∧R x S∧Con cfg base S a w
def wpA (cfg:Cfg) (base:Base) (Q:Program) (c:Code) (R:Ex→St→Prop) (S:St):Prop:=∀ a w,Con cfg base S a w→c.wp Q (lift cfg base R) a w
def thenR (N:St→Prop) (R:Ex→St→Prop):Ex→St→Prop
 | .normal,S=>N S
 | x,S=>R x S
def blockR (id:Nat) (R:Ex→St→Prop):Ex→St→Prop
 | .exit n,S=>if n=id then R .normal S else R (.exit n) S
 | x,S=>R x S
variable {R:Ex→St→Prop} {S:St}
theorem thenR_normal {N:St→Prop} (h:N S):thenR N R .normal S:=h
theorem thenR_ret {N:St→Prop} (h:R .ret S):thenR N R .ret S:=h
theorem thenR_exit {N:St→Prop} {n:Nat} (h:R (.exit n) S):thenR N R (.exit n) S:=h
theorem blockR_normal {id:Nat} (h:R .normal S):blockR id R .normal S:=h
theorem blockR_ret {id:Nat} (h:R .ret S):blockR id R .ret S:=h
theorem blockR_same {id:Nat} (h:R .normal S):blockR id R (.exit id) S:=by simp only [blockR,if_true];exact h
theorem blockR_other {id n:Nat} (hn:(n == id)=false) (h:R (.exit n) S):blockR id R (.exit n) S:=by
 simp only [blockR]
 rw [if_neg (by simpa using hn)]
 exact h
theorem wpA_mono {c:Code} {R':Ex→St→Prop} (h:wpA cfg base Q c R S) (hr:∀ x S,R x S→R' x S):wpA cfg base Q c R' S:=
 fun a w hcon=>wp_mono (h a w hcon) fun e a w ⟨x,S,h1,h2,h3⟩=>⟨x,S,h1,hr x S h2,h3⟩
theorem wpA_skip (h:R .normal S):wpA cfg base Q .skip R S:=fun a w hcon=>wp_skip ⟨.normal,S,rfl,h,hcon⟩
theorem wpA_ret (h:R .ret S):wpA cfg base Q .ret R S:=fun a w hcon=>wp_ret ⟨.ret,S,rfl,h,hcon⟩
theorem wpA_exit {n:Nat} (h:R (.exit n) S):wpA cfg base Q (.exit n) R S:=fun a w hcon=>wp_exit ⟨.exit n,S,rfl,h,hcon⟩
theorem wpA_seq {x y:Code} (h:wpA cfg base Q x (thenR (wpA cfg base Q y R) R) S):wpA cfg base Q (.seq x y) R S:=by
 intro a w hcon
 refine wp_seq (wp_mono (h a w hcon) ?_)
 intro e a w ⟨x,S,h1,h2,h3⟩
 cases e <;> simp only [Ex.of,Option.some.injEq,reduceCtorEq] at h1 <;> subst h1
 ·exact h2 a w h3
 ·exact ⟨_,S,rfl,h2,h3⟩
 ·exact ⟨_,S,rfl,h2,h3⟩
theorem wpA_block {id:Nat} {c:Code} (h:wpA cfg base Q c (blockR id R) S):wpA cfg base Q (.block id c) R S:=by
 intro a w hcon
 refine wp_block (wp_mono (h a w hcon) ?_)
 intro e a w ⟨x,S,h1,h2,h3⟩
 cases e <;> simp only [Ex.of,Option.some.injEq,reduceCtorEq] at h1 <;> subst h1
 ·exact ⟨_,S,rfl,h2,h3⟩
 ·rename_i n
  simp only [blockR] at h2
  simp only [Exit.inBlock]
  split
  ·rename_i e;rw [if_pos e] at h2;exact ⟨_,S,rfl,h2,h3⟩
  ·rename_i e;rw [if_neg e] at h2;exact ⟨_,S,rfl,h2,h3⟩
 ·exact ⟨_,S,rfl,h2,h3⟩
theorem wpA_cond {c:Operand} {x y:Code} {q:Bool} (hq:opnd S.t c = .p (.bool q)) (h1:q=true→wpA cfg base Q x R S) (h2:q=false→wpA cfg base Q y R S):wpA cfg base Q (.cond c x y) R S:=by
 intro a w hcon
 have hcv:a.eval c = .bool q:=by
  obtain ⟨E, μ,hm,ht⟩:=hcon
  have:=rep_opnd ht c
  rw [hq] at this
  have h4:=this.inv_p
  cases hh:a.eval c <;> rw [hh] at h4 <;> cases h4
  rfl
 refine wp_cond hcv ?_
 cases q
 ·exact h2 rfl a w hcon
 ·exact h1 rfl a w hcon
theorem wpA_region (hc:CfgOk cfg Q) {id:Nat} {ops:Array Oper} {S':St} (h:Seq cfg Q ops ops.toList S S') (hr:R .normal S'):wpA cfg base Q (.region id ops false) R S:=by
 intro a w hcon
 refine wp_mono (wp_region (seq_sound hc (K:=fun S=>R .normal S) h (List.range ops.size) ?_ hcon hr)) ?_
 ·apply List.ext_getElem?
  intro i
  simp only [List.getElem?_map,Array.getElem?_toList]
  by_cases hi:i < ops.size
  ·simp [List.getElem?_range hi,hi]
  ·simp [hi,List.getElem?_eq_none]
 ·intro e a w h
  cases e <;> simp only [postSt] at h
  obtain ⟨S,h1,h2⟩:=h
  exact ⟨.normal,S,rfl,h1,h2⟩
theorem exists_least {p:Nat→Prop} (h:∃ n,p n):∃ n,p n∧∀ m,p m→n ≤ m:=by
 obtain ⟨n,hn⟩:=h
 induction n using Nat.strongRecOn with
 | _ n ih=>
  by_cases h':∃ m,m < n∧p m
  ·obtain ⟨m,hm,hp⟩:=h'
   exact ih m hm hp
  ·exact ⟨n,hn,fun m hm=>Nat.le_of_not_lt fun hlt=>h' ⟨m,hlt,hm⟩⟩
theorem wpA_loop {c:Code} (I:Nat→St→Prop) {n₀:Nat} (h₀:I n₀ S) (round:∀ n S,I n S→wpA cfg base Q c (thenR (fun S'=>∃ m,m < n∧I m S') R) S):wpA cfg base Q (.loop c) R S:=by
 intro a w hcon
 let p:Act→World→Nat→Prop:=fun a w n=>∃ S,I n S∧Con cfg base S a w
 let μ:Act→World→Nat:=fun a w=>@dite _ (∃ n,p a w n) (Classical.propDecidable _) (fun h=>Classical.choose (exists_least h)) (fun _=>0)
 have hμ:∀ a w n,p a w n→p a w (μ a w)∧μ a w ≤ n:=by
  intro a w n h
  have he:∃ n,p a w n:=⟨n,h⟩
  have h1:μ a w=Classical.choose (exists_least he):=by
   simp only [μ]
   exact dif_pos he
  rw [h1]
  exact ⟨(Classical.choose_spec (exists_least he)).1,(Classical.choose_spec (exists_least he)).2 n h⟩
 refine wp_loop (fun a w=>∃ n,p a w n) μ ⟨n₀,S,h₀,hcon⟩ ?_
 rintro a w ⟨n,hn⟩
 obtain ⟨⟨S₁,h1,h2⟩,h3⟩:=hμ a w n hn
 refine wp_mono (round (μ a w) S₁ h1 a w h2) ?_
 intro e a' w' ⟨x,S₂,g1,g2,g3⟩
 cases e <;> simp only [Ex.of,Option.some.injEq,reduceCtorEq] at g1 <;> subst g1
 ·obtain ⟨m,hm,hI⟩:=g2
  have:=hμ a' w' m ⟨S₂,hI,g3⟩
  exact ⟨⟨m,S₂,hI,g3⟩,Nat.lt_of_le_of_lt this.2 hm⟩
 ·exact ⟨_,S₂,rfl,g2,g3⟩
 ·exact ⟨_,S₂,rfl,g2,g3⟩
end
end Go.Abs
namespace Go.Abs
open Go.RowKit
def resultVs (cfg:Cfg) (S:St):List ResultVar→Option (List V)
 | []=>some []
 | .tmp t :: r=>(resultVs cfg S r).map (S.t.getD t .any :: ·)
 | .cell a t :: r=>
  match evalOp cfg 0 (.load t (.tmp a)) S with
  | some (v,_,_)=>(resultVs cfg S r).map (v :: ·)
  | none=>none
def resultPs (cfg:Cfg) (S:St) (rs:List ResultVar):Option (List P):=
 match resultVs cfg S rs with
 | some vs=>(toPs S.b vs).map (·.1)
 | none=>none
section
variable {cfg:Cfg} {Q:Program}
def resOf (tmps:Array Value):ResultVar→Sem Value
 | .tmp t=>pure (tmps.getD t undef)
 | .cell b t=>do loadVar t (← asAddr (tmps.getD b undef))
theorem resultVs_sound (hc:CfgOk cfg Q) {base:Base} {E:Env} {μ:Places} {S:St} {a:Act} {w:World} (hm:Mem cfg base E μ S.b S.u w) (ht:Tm E μ S a):∀ (rs:List ResultVar) {vs:List V},resultVs cfg S rs=some vs →
  ∃ cvs:List Value,(rs.mapM (resOf a.tmps)).run Q w = .ok cvs w∧cvs.length=vs.length ∧
   ∀ (i:Nat) (v:Value) (x:V),cvs[i]? = some v→vs[i]? = some x→Rep E μ S.b S.u v x
 | [],vs,h=>by
  simp only [resultVs,Option.some.injEq] at h
  subst h
  exact ⟨[],by simp,rfl,fun i v x h=>by simp at h⟩
 | .tmp t :: r,vs,h=>by
  simp only [resultVs,Option.map_eq_some_iff] at h
  obtain ⟨vr,hvr,rfl⟩:=h
  obtain ⟨cvs,h1,h2,h3⟩:=resultVs_sound hc hm ht r hvr
  refine ⟨a.tmps.getD t undef :: cvs,?_,by simp [h2],fun i v x hv hx=>?_⟩
  ·simp only [List.mapM_cons,Sem.run_bind,resOf,Sem.run_pure,Result.andThen_ok]
   rw [h1];rfl
  ·cases i with
   | zero=>simp at hv hx;subst hv;subst hx;have:=rep_opnd ht (.tmp t);simpa [Act.eval,opnd] using this
   | succ i=>exact h3 i v x hv hx
 | .cell b t :: r,vs,h=>by
  simp only [resultVs] at h
  split at h
  ·rename_i v bb uu he
   simp only [Option.map_eq_some_iff] at h
   obtain ⟨vr,hvr,rfl⟩:=h
   obtain ⟨cvs,h1,h2,h3⟩:=resultVs_sound hc hm ht r hvr
   obtain ⟨_,cv,A,g1,g2,g3⟩:=load_loads hc hm ht he
   simp only [Act.eval] at g1
   refine ⟨cv :: cvs,?_,by simp [h2],fun i v x hv hx=>?_⟩
   ·simp only [List.mapM_cons,Sem.run_bind,resOf,g1,asAddr,Sem.run_pure,Result.andThen_ok,g2]
    rw [h1];rfl
   ·cases i with
    | zero=>simp at hv hx;subst hv;subst hx;exact g3
    | succ i=>exact h3 i v x hv hx
  ·cases h
def startSt (fn:Func) (ps:List P):St:=⟨ps.map .p ++ List.replicate (fn.ntmps - ps.length) .any,[],[]⟩
def bodyR (cfg:Cfg) (fn:Func) (rs:List P):Ex→St→Prop
 | .normal,S | .ret,S=>resultPs cfg S fn.results.toList=some rs
 | _,_=>False
theorem CallP.of_body (hc:CfgOk cfg Q) {f:FuncId} {fn:Func} {c:Code} {ps rs:List P} (hf:Q.funcs[f]? = some fn) (hb:fn.body=some c) (hn:(fn.name == "runtime.NumGoroutine")=false)
  (h:∀ base,wpA cfg base Q c (bodyR cfg fn rs) (startSt fn ps)):CallP cfg Q f ps rs:=by
 refine ⟨⟨fn,hf,by simp [hb],hn⟩,fun E w vs hsat hl hr=>?_⟩
 refine calls_of_wp hf hb ?_
 have hcon:Con cfg ⟨w,fun _=>False,E,fun _=>none⟩ (startSt fn ps) { tmps:=vs.toArray ++ Array.replicate (fn.ntmps - vs.toArray.size) undef,defers:=[] } w:=by
  refine ⟨E,fun _=>none,⟨fun n k h=>by simp [startSt,getB] at h,fun n k h=>by simp [startSt,getB] at h,fun n m k l B C c d h=>by simp [startSt,getB] at h,fun n k B c h=>by simp [startSt,getB] at h,
   hsat.cell,hsat.obj,Env.le_refl E,fun B o v h=>.inl h,fun B x h=>.inl h,rfl,rfl,rfl,Nat.le_refl _,fun _ _ _=>rfl,hsat.mp,fun B x h=>.inl h,fun n B h=>by cases h⟩,rfl,by simp [startSt,hl],fun i v x hv hx=>?_⟩
  simp only [startSt] at hx
  by_cases hi:i < vs.length
  ·rw [Array.getElem?_append_left (by simpa using hi)] at hv
   rw [List.getElem?_append_left (by simp;omega),List.getElem?_map,Option.map_eq_some_iff] at hx
   obtain ⟨q,hq,rfl⟩:=hx
   exact .p _ _ (hr i v q (by simpa using hv) hq)
  ·rw [List.getElem?_append_right (by simp;omega)] at hx
   have:=List.mem_of_getElem? hx
   rw [List.mem_replicate] at this
   rw [this.2]
   exact .any _
 refine wp_mono (h ⟨w,fun _=>False,E,fun _=>none⟩ _ w hcon) ?_
 intro e a w' ⟨x,S,h1,h2,E', μ,hm,ht⟩
 have fin:resultPs cfg S fn.results.toList=some rs→a.defers=[]∧∃ v,(results fn a.tmps).run Q w' = .ok v w'∧∃ v' E',Ending.returned v=Ending.returned v'∧Ext cfg w E w' E'∧RepR E' v' rs:=by
  intro hres
  unfold resultPs at hres
  split at hres
  ·rename_i xs hxs
   simp only [Option.map_eq_some_iff] at hres
   obtain ⟨⟨ps',b'⟩,htp,rfl⟩:=hres
   obtain ⟨cvs,k1,k2,k3⟩:=resultVs_sound hc hm ht _ hxs
   obtain ⟨E₂,g1,g2,g3,g4⟩:=toPs_sound xs hm cvs k2 k3 htp
   refine ⟨ht.1,if h:cvs.toArray.size=1 then cvs.toArray[0] else .tuple cvs.toArray,?_,_,E₂,rfl,⟨g2.le,g2.sat,?_,?_,?_,g2.os,g2.tape,g2.output,g2.size,fun k hk=>g2.keep k hk (fun h=>h)⟩,?_⟩
   ·have hmap:(fn.results.mapM (resOf a.tmps)).run Q w' = .ok cvs.toArray w':=by
     rw [Array.mapM_eq_mapM_toList]
     simp only [Sem.run_map,k1,Result.andThen_ok]
    have hre:results fn a.tmps=(do let vs ← fn.results.mapM (resOf a.tmps);pure (if h:vs.size=1 then vs[0] else .tuple vs)):=by
     unfold results
     congr 1
    rw [hre,Sem.run_bind,hmap]
    rfl
   ·intro B o v hv
    rcases g2.cnew B o v hv with h | h | h
    ·exact .inl h
    ·exact .inr h
    ·exact h.elim
   ·intro B y hy
    rcases g2.onew B y hy with h | h | h
    ·exact .inl h
    ·exact .inr h
    ·exact h.elim
   ·intro B y hy
    rcases g2.mnew B y hy with h | h | h
    ·exact .inl h
    ·exact .inr h
    ·exact h.elim
   ·have hlen:cvs.length=ps'.length:=by rw [k2,g3]
    show RepR E₂ _ ps'
    have tup:cvs.length ≠ 1→(if h:cvs.toArray.size=1 then cvs.toArray[0] else Value.tuple cvs.toArray) = .tuple cvs.toArray:=by
     intro h
     rw [dif_neg (by simpa using h)]
    rcases ps' with _ | ⟨r,_ | ⟨r₂,rest⟩⟩
    ·simp only [List.length_nil] at hlen
     rw [tup (by omega)]
     exact ⟨cvs,rfl,hlen,g4⟩
    ·simp only [List.length_cons,List.length_nil] at hlen
     have hs:cvs.toArray.size=1:=by simpa using hlen
     rw [dif_pos hs]
     exact g4 0 _ r (by simp [hlen]) rfl
    ·simp only [List.length_cons] at hlen
     rw [tup (by omega)]
     exact ⟨cvs,rfl,by simpa using hlen,g4⟩
  ·cases hres
 cases e <;> simp only [Ex.of,Option.some.injEq,reduceCtorEq] at h1 <;> subst h1
 ·exact fin h2
 ·exact h2.elim
 ·exact fin h2
end
end Go.Abs
namespace Go.Proofs.YtgiedlcjlalpcaaGreat
open Go.Abs
set_option maxRecDepth 100000
def tyTab:List (TypeId × Ty):=[
 (2,⟨.int .i64,1,8,[.p (.int .i64 0)],[]⟩),
 (3,⟨.int .i64,1,8,[.p (.int .i64 0)],[]⟩),
 (4,⟨.bool,1,1,[.p (.bool false)],[]⟩),
 (5,⟨.int .u8,1,1,[.p (.int .u8 0)],[]⟩),
 (9,⟨.str,1,16,[.p (.str ⟨#[]⟩)],[]⟩),
 (22,⟨.int .i64,1,8,[.p (.int .i64 0)],[]⟩),
 (23,⟨.int .i64,1,8,[.p (.int .i64 0)],[]⟩),
 (25,⟨.struct [(0,23),(1,2),(2,9)],3,32,[.p (.int .i64 0),.p (.int .i64 0),.p (.str ⟨#[]⟩)],[.int .i64,.int .i64,.str]⟩),
 (26,⟨.slice 29,1,24,[.nils],[]⟩),
 (27,⟨.slice 189,1,24,[.nils],[]⟩),
 (29,⟨.struct [(0,22),(1,3),(2,3),(3,23),(4,25),(7,26),(8,27)],9,112,[.p (.int .i64 0),.p (.int .i64 0),.p (.int .i64 0),.p (.int .i64 0),.p (.int .i64 0),.p (.int .i64 0),.p (.str ⟨#[]⟩),.nils,.nils],[]⟩),
 (30,⟨.slice 57,1,24,[.nils],[]⟩),
 (34,⟨.int .i64,1,8,[.p (.int .i64 0)],[]⟩),
 (43,⟨.slice 3,1,24,[.nils],[]⟩),
 (52,⟨.slice 61,1,24,[.nils],[]⟩),
 (57,⟨.struct [(0,23),(1,4)],2,16,[.p (.int .i64 0),.p (.bool false)],[.int .i64,.bool]⟩),
 (61,⟨.slice 25,1,24,[.nils],[]⟩),
 (75,⟨.slice 43,1,24,[.nils],[]⟩),
 (86,⟨.int .u64,1,8,[.p (.int .u64 0)],[]⟩),
 (87,⟨.ptr 140,1,8,[.p .nilp],[]⟩),
 (102,⟨.func,1,8,[.p .nilf],[]⟩),
 (131,⟨.func,1,8,[.p .nilf],[]⟩),
 (132,⟨.func,1,8,[.p .nilf],[]⟩),
 (134,⟨.struct [(0,30),(1,131),(2,132)],3,40,[.nils,.p .nilf,.p .nilf],[]⟩),
 (135,⟨.map 22 176,1,8,[.p .nilm],[]⟩),
 (137,⟨.struct [(0,135)],1,8,[.p .nilm],[]⟩),
 (138,⟨.slice 141,1,24,[.nils],[]⟩),
 (140,⟨.struct [(0,134),(3,137),(4,138)],5,72,[.nils,.p .nilf,.p .nilf,.p .nilm,.nils],[]⟩),
 (141,⟨.func,1,8,[.p .nilf],[]⟩),
 (149,⟨.struct [(0,3),(1,3)],2,16,[.p (.int .i64 0),.p (.int .i64 0)],[]⟩),
 (152,⟨.map 3 159,1,8,[.p .nilm],[]⟩),
 (154,⟨.struct [(0,87),(1,26),(2,152)],3,40,[.p .nilp,.nils,.p .nilm],[]⟩),
 (156,⟨.struct [(0,3),(1,22),(2,25)],5,48,[.p (.int .i64 0),.p (.int .i64 0),.p (.int .i64 0),.p (.int .i64 0),.p (.str ⟨#[]⟩)],[]⟩),
 (159,⟨.ptr 162,1,8,[.p .nilp],[]⟩),
 (160,⟨.ptr 204,1,8,[.p .nilp],[]⟩),
 (162,⟨.struct [(0,160),(1,160),(2,61),(3,4)],4,48,[.p .nilp,.p .nilp,.nils,.p (.bool false)],[]⟩),
 (172,⟨.slice 209,1,24,[.nils],[]⟩),
 (176,⟨.func,1,8,[.p .nilf],[]⟩),
 (184,⟨.int .i64,1,8,[.p (.int .i64 0)],[]⟩),
 (185,⟨.int .i64,1,8,[.p (.int .i64 0)],[]⟩),
 (186,⟨.slice 238,1,24,[.nils],[]⟩),
 (187,⟨.slice 241,1,24,[.nils],[]⟩),
 (189,⟨.struct [(0,184),(1,9),(2,3),(3,185),(4,4),(5,30),(6,52),(7,75),(8,26),(9,43),(10,186),(11,187),(12,3),(13,3),(14,27)],15,256,[.p (.int .i64 0),.p (.str ⟨#[]⟩),.p (.int .i64 0),.p (.int .i64 0),.p (.bool false),.nils,.nils,.nils,.nils,.nils,.nils,.nils,.p (.int .i64 0),.p (.int .i64 0),.nils],[]⟩),
 (204,⟨.struct [(0,25),(3,4)],4,40,[.p (.int .i64 0),.p (.int .i64 0),.p (.str ⟨#[]⟩),.p (.bool false)],[.int .i64,.int .i64,.str,.bool]⟩),
 (211,⟨.arr 16 22,16,128,[.p (.int .i64 0),.p (.int .i64 0),.p (.int .i64 0),.p (.int .i64 0),.p (.int .i64 0),.p (.int .i64 0),.p (.int .i64 0),.p (.int .i64 0),.p (.int .i64 0),.p (.int .i64 0),.p (.int .i64 0),.p (.int .i64 0),.p (.int .i64 0),.p (.int .i64 0),.p (.int .i64 0),.p (.int .i64 0)],[]⟩),
 (221,⟨.func,1,8,[.p .nilf],[]⟩),
 (222,⟨.func,1,8,[.p .nilf],[]⟩),
 (242,⟨.arr 6 22,6,48,[.p (.int .i64 0),.p (.int .i64 0),.p (.int .i64 0),.p (.int .i64 0),.p (.int .i64 0),.p (.int .i64 0)],[]⟩),
 (259,⟨.slice 26,1,24,[.nils],[]⟩)]
def tyOf (t:TypeId):Option Ty:=(tyTab.find? (fun r=>r.1 == t)).map (·.2)
theorem tyOf_ok:tyTab.all (fun r=>tyB Tryz.prog r.1 r.2)=true:=by kernel_rfl
theorem tyOf_sound (t:TypeId) (i:Ty) (h:tyOf t=some i):tyB Tryz.prog t i=true:=by
 simp only [tyOf,Option.map_eq_some_iff] at h
 obtain ⟨r,hr,rfl⟩:=h
 have h1:=List.find?_some hr
 have h2:=List.mem_of_find?_eq_some hr
 have h3:=List.all_eq_true.1 tyOf_ok r h2
 have h4:r.1=t:=by simpa using h1
 rw [← h4]
 exact h3
theorem ty2:tyOf 2=some ⟨.int .i64,1,8,[.p (.int .i64 0)],[]⟩:=by kernel_rfl
theorem ty3:tyOf 3=some ⟨.int .i64,1,8,[.p (.int .i64 0)],[]⟩:=by kernel_rfl
theorem ty4:tyOf 4=some ⟨.bool,1,1,[.p (.bool false)],[]⟩:=by kernel_rfl
theorem ty5:tyOf 5=some ⟨.int .u8,1,1,[.p (.int .u8 0)],[]⟩:=by kernel_rfl
theorem ty9:tyOf 9=some ⟨.str,1,16,[.p (.str ⟨#[]⟩)],[]⟩:=by kernel_rfl
theorem ty22:tyOf 22=some ⟨.int .i64,1,8,[.p (.int .i64 0)],[]⟩:=by kernel_rfl
theorem ty23:tyOf 23=some ⟨.int .i64,1,8,[.p (.int .i64 0)],[]⟩:=by kernel_rfl
theorem ty25:tyOf 25=some ⟨.struct [(0,23),(1,2),(2,9)],3,32,[.p (.int .i64 0),.p (.int .i64 0),.p (.str ⟨#[]⟩)],[.int .i64,.int .i64,.str]⟩:=by kernel_rfl
theorem ty26:tyOf 26=some ⟨.slice 29,1,24,[.nils],[]⟩:=by kernel_rfl
theorem ty27:tyOf 27=some ⟨.slice 189,1,24,[.nils],[]⟩:=by kernel_rfl
theorem ty29:tyOf 29=some ⟨.struct [(0,22),(1,3),(2,3),(3,23),(4,25),(7,26),(8,27)],9,112,[.p (.int .i64 0),.p (.int .i64 0),.p (.int .i64 0),.p (.int .i64 0),.p (.int .i64 0),.p (.int .i64 0),.p (.str ⟨#[]⟩),.nils,.nils],[]⟩:=by kernel_rfl
theorem ty30:tyOf 30=some ⟨.slice 57,1,24,[.nils],[]⟩:=by kernel_rfl
theorem ty34:tyOf 34=some ⟨.int .i64,1,8,[.p (.int .i64 0)],[]⟩:=by kernel_rfl
theorem ty43:tyOf 43=some ⟨.slice 3,1,24,[.nils],[]⟩:=by kernel_rfl
theorem ty52:tyOf 52=some ⟨.slice 61,1,24,[.nils],[]⟩:=by kernel_rfl
theorem ty57:tyOf 57=some ⟨.struct [(0,23),(1,4)],2,16,[.p (.int .i64 0),.p (.bool false)],[.int .i64,.bool]⟩:=by kernel_rfl
theorem ty61:tyOf 61=some ⟨.slice 25,1,24,[.nils],[]⟩:=by kernel_rfl
theorem ty75:tyOf 75=some ⟨.slice 43,1,24,[.nils],[]⟩:=by kernel_rfl
theorem ty86:tyOf 86=some ⟨.int .u64,1,8,[.p (.int .u64 0)],[]⟩:=by kernel_rfl
theorem ty87:tyOf 87=some ⟨.ptr 140,1,8,[.p .nilp],[]⟩:=by kernel_rfl
theorem ty102:tyOf 102=some ⟨.func,1,8,[.p .nilf],[]⟩:=by kernel_rfl
theorem ty131:tyOf 131=some ⟨.func,1,8,[.p .nilf],[]⟩:=by kernel_rfl
theorem ty132:tyOf 132=some ⟨.func,1,8,[.p .nilf],[]⟩:=by kernel_rfl
theorem ty134:tyOf 134=some ⟨.struct [(0,30),(1,131),(2,132)],3,40,[.nils,.p .nilf,.p .nilf],[]⟩:=by kernel_rfl
theorem ty135:tyOf 135=some ⟨.map 22 176,1,8,[.p .nilm],[]⟩:=by kernel_rfl
theorem ty137:tyOf 137=some ⟨.struct [(0,135)],1,8,[.p .nilm],[]⟩:=by kernel_rfl
theorem ty138:tyOf 138=some ⟨.slice 141,1,24,[.nils],[]⟩:=by kernel_rfl
theorem ty140:tyOf 140=some ⟨.struct [(0,134),(3,137),(4,138)],5,72,[.nils,.p .nilf,.p .nilf,.p .nilm,.nils],[]⟩:=by kernel_rfl
theorem ty141:tyOf 141=some ⟨.func,1,8,[.p .nilf],[]⟩:=by kernel_rfl
theorem ty149:tyOf 149=some ⟨.struct [(0,3),(1,3)],2,16,[.p (.int .i64 0),.p (.int .i64 0)],[]⟩:=by kernel_rfl
theorem ty152:tyOf 152=some ⟨.map 3 159,1,8,[.p .nilm],[]⟩:=by kernel_rfl
theorem ty154:tyOf 154=some ⟨.struct [(0,87),(1,26),(2,152)],3,40,[.p .nilp,.nils,.p .nilm],[]⟩:=by kernel_rfl
theorem ty156:tyOf 156=some ⟨.struct [(0,3),(1,22),(2,25)],5,48,[.p (.int .i64 0),.p (.int .i64 0),.p (.int .i64 0),.p (.int .i64 0),.p (.str ⟨#[]⟩)],[]⟩:=by kernel_rfl
theorem ty159:tyOf 159=some ⟨.ptr 162,1,8,[.p .nilp],[]⟩:=by kernel_rfl
theorem ty160:tyOf 160=some ⟨.ptr 204,1,8,[.p .nilp],[]⟩:=by kernel_rfl
theorem ty162:tyOf 162=some ⟨.struct [(0,160),(1,160),(2,61),(3,4)],4,48,[.p .nilp,.p .nilp,.nils,.p (.bool false)],[]⟩:=by kernel_rfl
theorem ty172:tyOf 172=some ⟨.slice 209,1,24,[.nils],[]⟩:=by kernel_rfl
theorem ty176:tyOf 176=some ⟨.func,1,8,[.p .nilf],[]⟩:=by kernel_rfl
theorem ty184:tyOf 184=some ⟨.int .i64,1,8,[.p (.int .i64 0)],[]⟩:=by kernel_rfl
theorem ty185:tyOf 185=some ⟨.int .i64,1,8,[.p (.int .i64 0)],[]⟩:=by kernel_rfl
theorem ty186:tyOf 186=some ⟨.slice 238,1,24,[.nils],[]⟩:=by kernel_rfl
theorem ty187:tyOf 187=some ⟨.slice 241,1,24,[.nils],[]⟩:=by kernel_rfl
theorem ty189:tyOf 189=some ⟨.struct [(0,184),(1,9),(2,3),(3,185),(4,4),(5,30),(6,52),(7,75),(8,26),(9,43),(10,186),(11,187),(12,3),(13,3),(14,27)],15,256,[.p (.int .i64 0),.p (.str ⟨#[]⟩),.p (.int .i64 0),.p (.int .i64 0),.p (.bool false),.nils,.nils,.nils,.nils,.nils,.nils,.nils,.p (.int .i64 0),.p (.int .i64 0),.nils],[]⟩:=by kernel_rfl
theorem ty204:tyOf 204=some ⟨.struct [(0,25),(3,4)],4,40,[.p (.int .i64 0),.p (.int .i64 0),.p (.str ⟨#[]⟩),.p (.bool false)],[.int .i64,.int .i64,.str,.bool]⟩:=by kernel_rfl
theorem ty211:tyOf 211=some ⟨.arr 16 22,16,128,[.p (.int .i64 0),.p (.int .i64 0),.p (.int .i64 0),.p (.int .i64 0),.p (.int .i64 0),.p (.int .i64 0),.p (.int .i64 0),.p (.int .i64 0),.p (.int .i64 0),.p (.int .i64 0),.p (.int .i64 0),.p (.int .i64 0),.p (.int .i64 0),.p (.int .i64 0),.p (.int .i64 0),.p (.int .i64 0)],[]⟩:=by kernel_rfl
theorem ty221:tyOf 221=some ⟨.func,1,8,[.p .nilf],[]⟩:=by kernel_rfl
theorem ty222:tyOf 222=some ⟨.func,1,8,[.p .nilf],[]⟩:=by kernel_rfl
theorem ty242:tyOf 242=some ⟨.arr 6 22,6,48,[.p (.int .i64 0),.p (.int .i64 0),.p (.int .i64 0),.p (.int .i64 0),.p (.int .i64 0),.p (.int .i64 0)],[]⟩:=by kernel_rfl
theorem ty259:tyOf 259=some ⟨.slice 26,1,24,[.nils],[]⟩:=by kernel_rfl
end Go.Proofs.YtgiedlcjlalpcaaGreat
